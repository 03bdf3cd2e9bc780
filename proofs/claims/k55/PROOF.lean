import PyProof.Rows.All
import Wide.All
import OpenK.AllK
import Wide.FinOn
import HandS.ForMost
import HandS.RaiseMore
import HandS.Wide
import PyProof.ReprRoads
import PyProof.Rows.RuleB_pow
import KE.IntTextLaws
import HandS.More
import HandS.Finally
import HandS.Property
import HandS.Style
import HandS.FStr
import HandS.Steps
import PyProof.NeKinds
import HandS.Codes
import HandS.DictComp
import HandS.MakeKwOnly
import PyProof.ZipIter
import HandS.ExcInit
import HandS.TryMany
import HandS.ExcField
import HandS.WordsExc
import HandS.ExcIs
import HandS.FltList
import HandS.Strs
import KE.GoesRaise
import KE.KDictCopyH
import KE.KDictExact
import PyProof.StrOps2
import PyProof.SliceStr2
import HandS.StrMore
import PySem.Challenge.RW_paidinparts_k55_texts_of_no_deeds
set_option Elab.async false
set_option linter.all false
set_option maxRecDepth 100000
set_option maxHeartbeats 4000000
namespace PV
open PySem L2

/-! ### values without addresses -/
inductive Va where
  | non | bl (b : Bool) | int (i : Int) | str (x : Str)
  | lst (l : List Va) | tup (l : List Va) | dic (l : List (Key × Va))
  | cel (n : Nat) | scr (l : List Int)
inductive Cell where
  | lst (l : List Va) | dic (l : List (Key × Va)) | ins (c : Nat) (fs : List (Str × Va))
structure Store where
  c : Nat → Option Cell
  nx : Nat
def Store.put (M : Store) (n : Nat) (x : Cell) : Store := ⟨fun m => if m = n then some x else M.c m, M.nx⟩
def Store.del (M : Store) (n : Nat) : Store := ⟨fun m => if m = n then none else M.c m, M.nx⟩
def Store.new (M : Store) (x : Cell) : Store := ⟨fun m => if m = M.nx then some x else M.c m, M.nx + 1⟩
structure Sig where
  K : PySem.W.Frag
  CA : Nat → Addr

mutual
inductive VR (G : Sig) (R : Hp) (ρ : List Addr) : Va → V → Prop
  | non : VR G R ρ .non .non
  | bl (b : Bool) : VR G R ρ (.bl b) (.bl b)
  | int (i : Int) : VR G R ρ (.int i) (.int i)
  | str (x : Str) : VR G R ρ (.str x) (.str x)
  | lst {a : Addr} {l : List Va} {vs : List V} : R a = some (.lst vs) → l.length ≤ sizeLine → VRs G R ρ l vs → VR G R ρ (.lst l) (.ref a)
  | tup {a : Addr} {l : List Va} {vs : List V} : R a = some (.tup vs) → l.length ≤ sizeLine → VRs G R ρ l vs → VR G R ρ (.tup l) (.ref a)
  | dic {a : Addr} {l : List (Key × Va)} {vs : List (Key × V)} : R a = some (.dK vs) → l.length ≤ sizeLine → VRk G R ρ l vs → VR G R ρ (.dic l) (.ref a)
  | cel {n : Nat} {a : Addr} : ρ[n]? = some a → VR G R ρ (.cel n) (.ref a)
  | scr {a : Addr} {l : List Int} : SqL G.K R a (l.map V.int) → l.length ≤ sizeLine → VR G R ρ (.scr l) (.ref a)
inductive VRs (G : Sig) (R : Hp) (ρ : List Addr) : List Va → List V → Prop
  | nil : VRs G R ρ [] []
  | cons {x : Va} {v : V} {l : List Va} {vs : List V} : VR G R ρ x v → VRs G R ρ l vs → VRs G R ρ (x :: l) (v :: vs)
inductive VRk (G : Sig) (R : Hp) (ρ : List Addr) : List (Key × Va) → List (Key × V) → Prop
  | nil : VRk G R ρ [] []
  | cons {k : Key} {x : Va} {v : V} {l : List (Key × Va)} {vs : List (Key × V)} : VR G R ρ x v → VRk G R ρ l vs → VRk G R ρ ((k, x) :: l) ((k, v) :: vs)
end
inductive VRf (G : Sig) (R : Hp) (ρ : List Addr) : List (Str × Va) → List (Str × V) → Prop
  | nil : VRf G R ρ [] []
  | cons {k : Str} {x : Va} {v : V} {l : List (Str × Va)} {vs : List (Str × V)} : VR G R ρ x v → VRf G R ρ l vs → VRf G R ρ ((k, x) :: l) ((k, v) :: vs)

def CelR (G : Sig) (R : Hp) (ρ : List Addr) (H : Hp) (a : Addr) : Cell → Prop
  | .lst l => ∃ vs, H a = some (.lst vs) ∧ l.length ≤ sizeLine ∧ VRs G R ρ l vs
  | .dic l => ∃ vs, H a = some (.dK vs) ∧ l.length ≤ sizeLine ∧ VRk G R ρ l vs
  | .ins c l => ∃ dx vs, H a = some (.ins (G.CA c) dx vs) ∧ VRf G R ρ l vs

structure Wd (G : Sig) (R : Hp) (ρ : List Addr) (M : Store) (H : Hp) : Prop where
  sub : ∀ a o, R a = some o → H a = some o
  len : ρ.length = M.nx
  cel : ∀ (n : Nat) (x : Cell), M.c n = some x → ∃ a, ρ[n]? = some a ∧ R a = none ∧ CelR G R ρ H a x
  inj : ∀ (n m : Nat) (a : Addr) (x y : Cell), M.c n = some x → M.c m = some y → ρ[n]? = some a → ρ[m]? = some a → n = m
  al : ∀ a, a ∈ ρ → H a ≠ none

structure Ext (R : Hp) (ρ : List Addr) (H : Hp) (R' : Hp) (ρ' : List Addr) (H' : Hp) : Prop where
  reg : ∀ a o, R a = some o → R' a = some o
  cls : ∃ τ, ρ' = ρ ++ τ ∧ ∀ a ∈ τ, H a = none
  keep : ∀ a o, H a = some o → a ∉ ρ → H' a = some o
  dom : ∀ a, H a ≠ none → H' a ≠ none
  nreg : ∀ a, R a = none → R' a ≠ none → H a = none ∨ a ∈ ρ

theorem Ext.refl {R : Hp} {ρ : List Addr} {H : Hp} : Ext R ρ H R ρ H := ⟨fun _ _ h => h, ⟨[], by simp, by simp⟩, fun _ _ h _ => h, fun _ h => h, fun _ h n => absurd h n⟩
theorem Ext.trans {R R1 R2 : Hp} {ρ ρ1 ρ2 : List Addr} {H H1 H2 : Hp} (a : Ext R ρ H R1 ρ1 H1) (b : Ext R1 ρ1 H1 R2 ρ2 H2) : Ext R ρ H R2 ρ2 H2 := by
  obtain ⟨τ, e1, f1⟩ := a.cls
  obtain ⟨τ', e2, f2⟩ := b.cls
  refine ⟨fun x o h => b.reg x o (a.reg x o h), ⟨τ ++ τ', by rw [e2, e1, List.append_assoc], fun x hx => ?_⟩, fun x o h n => ?_, fun x h => b.dom x (a.dom x h), fun x h n => ?_⟩
  · rcases List.mem_append.mp hx with h | h
    · exact f1 x h
    · by_cases q : H x = none
      · exact q
      · exact absurd (f2 x h) (a.dom x q)
  · refine b.keep x o (a.keep x o h n) fun hm => ?_
    rw [e1] at hm
    rcases List.mem_append.mp hm with z | z
    · exact n z
    · rw [f1 x z] at h
      cases h
  · by_cases q : R1 x = none
    · rcases b.nreg x q n with z | z
      · left
        by_cases y : H x = none
        · exact y
        · exact absurd z (a.dom x y)
      · rw [e1] at z
        rcases List.mem_append.mp z with z | z
        · exact .inr z
        · exact .inl (f1 x z)
    · exact a.nreg x h q
theorem Ext.get {R R' : Hp} {ρ ρ' : List Addr} {H H' : Hp} (e : Ext R ρ H R' ρ' H') {n : Nat} {a : Addr} (h : ρ[n]? = some a) : ρ'[n]? = some a := by
  obtain ⟨τ, q, _⟩ := e.cls
  rw [q, List.getElem?_append_left (List.getElem?_eq_some_iff.mp h).1]
  exact h

/-- what a datum leans on only grows -/
structure Gr (R : Hp) (ρ : List Addr) (R' : Hp) (ρ' : List Addr) : Prop where
  reg : ∀ a o, R a = some o → R' a = some o
  get : ∀ (n : Nat) (a : Addr), ρ[n]? = some a → ρ'[n]? = some a
theorem Ext.gr {R R' : Hp} {ρ ρ' : List Addr} {H H' : Hp} (e : Ext R ρ H R' ρ' H') : Gr R ρ R' ρ' := ⟨e.reg, fun _ _ h => e.get h⟩
theorem Gr.refl {R : Hp} {ρ : List Addr} : Gr R ρ R ρ := ⟨fun _ _ h => h, fun _ _ h => h⟩
theorem Gr.trans {R R1 R2 : Hp} {ρ ρ1 ρ2 : List Addr} (a : Gr R ρ R1 ρ1) (b : Gr R1 ρ1 R2 ρ2) : Gr R ρ R2 ρ2 := ⟨fun x o h => b.reg x o (a.reg x o h), fun n x h => b.get n x (a.get n x h)⟩
theorem sqL_mono {K : PySem.W.Frag} {R R' : Hp} (h : ∀ a o, R a = some o → R' a = some o) {a : Addr} {vs : List V} (q : SqL K R a vs) : SqL K R' a vs := by
  rcases q with (q | ⟨o, q⟩) | q
  · exact .inl (.inl (h _ _ q))
  · exact .inl (.inr ⟨o, h _ _ q⟩)
  · exact .inr q

section
variable {G : Sig} {R R' : Hp} {ρ ρ' : List Addr}
mutual
theorem VR.mono (g : Gr R ρ R' ρ') : ∀ {x : Va} {v : V}, VR G R ρ x v → VR G R' ρ' x v
  | _, _, .non => .non
  | _, _, .bl b => .bl b
  | _, _, .int i => .int i
  | _, _, .str x => .str x
  | _, _, .lst h z r => .lst (g.reg _ _ h) z (VRs.mono g r)
  | _, _, .tup h z r => .tup (g.reg _ _ h) z (VRs.mono g r)
  | _, _, .dic h z r => .dic (g.reg _ _ h) z (VRk.mono g r)
  | _, _, .cel h => .cel (g.get _ _ h)
  | _, _, .scr h z => .scr (sqL_mono g.reg h) z
theorem VRs.mono (g : Gr R ρ R' ρ') : ∀ {l : List Va} {vs : List V}, VRs G R ρ l vs → VRs G R' ρ' l vs
  | _, _, .nil => .nil
  | _, _, .cons h t => .cons (VR.mono g h) (VRs.mono g t)
theorem VRk.mono (g : Gr R ρ R' ρ') : ∀ {l : List (Key × Va)} {vs : List (Key × V)}, VRk G R ρ l vs → VRk G R' ρ' l vs
  | _, _, .nil => .nil
  | _, _, .cons h t => .cons (VR.mono g h) (VRk.mono g t)
end
theorem VRf.mono (g : Gr R ρ R' ρ') : ∀ {l : List (Str × Va)} {vs : List (Str × V)}, VRf G R ρ l vs → VRf G R' ρ' l vs
  | _, _, .nil => .nil
  | _, _, .cons h t => .cons (VR.mono g h) (VRf.mono g t)
theorem VRs.length : ∀ {l : List Va} {vs : List V}, VRs G R ρ l vs → l.length = vs.length
  | _, _, .nil => rfl
  | _, _, .cons _ t => by simp [VRs.length t]
theorem VRk.length : ∀ {l : List (Key × Va)} {vs : List (Key × V)}, VRk G R ρ l vs → l.length = vs.length
  | _, _, .nil => rfl
  | _, _, .cons _ t => by simp [VRk.length t]
theorem VRs.get : ∀ {l : List Va} {vs : List V} {i : Nat} {x : Va}, VRs G R ρ l vs → l[i]? = some x → ∃ v, vs[i]? = some v ∧ VR G R ρ x v
  | _, _, _, _, .nil, e => by simp at e
  | _, _, 0, _, .cons h _, e => by simp at e; subst e; exact ⟨_, rfl, h⟩
  | _, _, i + 1, x, .cons _ t, e => by
    obtain ⟨v, h1, h2⟩ := VRs.get (i := i) (x := x) t (by simpa using e)
    exact ⟨v, by simpa using h1, h2⟩
theorem VRs.getV : ∀ {l : List Va} {vs : List V} {i : Nat} {v : V}, VRs G R ρ l vs → vs[i]? = some v → ∃ x, l[i]? = some x ∧ VR G R ρ x v
  | _, _, _, _, .nil, e => by simp at e
  | _, _, 0, _, .cons h _, e => by simp at e; subst e; exact ⟨_, rfl, h⟩
  | _, _, i + 1, x, .cons _ t, e => by
    obtain ⟨v, h1, h2⟩ := VRs.getV (i := i) (v := x) t (by simpa using e)
    exact ⟨v, by simpa using h1, h2⟩
theorem VRs.set {x : Va} {v : V} (r : VR G R ρ x v) : ∀ {l : List Va} {vs : List V} (i : Nat), VRs G R ρ l vs → VRs G R ρ (l.set i x) (vs.set i v)
  | _, _, _, .nil => .nil
  | _, _, 0, .cons _ t => .cons r t
  | _, _, i + 1, .cons q t => .cons q (VRs.set r i t)
theorem VRs.append : ∀ {l m : List Va} {us vs : List V}, VRs G R ρ l us → VRs G R ρ m vs → VRs G R ρ (l ++ m) (us ++ vs)
  | _, _, _, _, .nil, s => s
  | _, _, _, _, .cons r t, s => .cons r (VRs.append t s)
theorem VRs.take : ∀ {l : List Va} {vs : List V} (n : Nat), VRs G R ρ l vs → VRs G R ρ (l.take n) (vs.take n)
  | _, _, 0, _ => .nil
  | _, _, _ + 1, .nil => .nil
  | _, _, n + 1, .cons r t => .cons r (VRs.take n t)
theorem VRs.drop : ∀ {l : List Va} {vs : List V} (n : Nat), VRs G R ρ l vs → VRs G R ρ (l.drop n) (vs.drop n)
  | _, _, 0, r => r
  | _, _, _ + 1, .nil => .nil
  | _, _, n + 1, .cons _ t => VRs.drop n t
theorem VRs.reverse : ∀ {l : List Va} {vs : List V}, VRs G R ρ l vs → VRs G R ρ l.reverse vs.reverse
  | _, _, .nil => .nil
  | _, _, .cons r t => by
    rw [List.reverse_cons, List.reverse_cons]
    exact VRs.append (VRs.reverse t) (.cons r .nil)
theorem VRs.eraseIdx : ∀ {l : List Va} {vs : List V} (n : Nat), VRs G R ρ l vs → VRs G R ρ (l.eraseIdx n) (vs.eraseIdx n)
  | _, _, _, .nil => .nil
  | _, _, 0, .cons _ t => t
  | _, _, n + 1, .cons r t => .cons r (VRs.eraseIdx n t)
theorem VRs.dropLast : ∀ {l : List Va} {vs : List V}, VRs G R ρ l vs → VRs G R ρ l.dropLast vs.dropLast
  | _, _, .nil => .nil
  | _, _, .cons r .nil => .nil
  | _, _, .cons r (.cons q t) => .cons r (VRs.dropLast (.cons q t))
theorem VRs.ints : ∀ (ns : List Int), VRs G R ρ (ns.map Va.int) (ns.map V.int)
  | [] => .nil
  | n :: ns => .cons (.int n) (VRs.ints ns)
end

/-! ### the slots -/
abbrev SL := List (Option Va)
structure SR (G : Sig) (R : Hp) (ρ : List Addr) (s : SL) (σ : St) : Prop where
  len : s.length = σ.length
  at_ : ∀ (i : Nat) (x : Va), s[i]? = some (some x) → ∃ v, σ[i]? = some (some v) ∧ VR G R ρ x v
theorem SR.mono {G : Sig} {R R' : Hp} {ρ ρ' : List Addr} (g : Gr R ρ R' ρ') {s : SL} {σ : St} (h : SR G R ρ s σ) : SR G R' ρ' s σ :=
  ⟨h.len, fun i x e => let ⟨v, a, b⟩ := h.at_ i x e; ⟨v, a, b.mono g⟩⟩
theorem SR.set {G : Sig} {R : Hp} {ρ : List Addr} {s : SL} {σ : St} (h : SR G R ρ s σ) (i : Nat) {x : Va} {v : V} (r : VR G R ρ x v) : SR G R ρ (s.set i (some x)) (σ.set i (some v)) := by
  refine ⟨by simp [h.len], fun j y e => ?_⟩
  by_cases hij : i = j
  · subst hij
    rw [List.getElem?_set] at e ⊢
    by_cases hl : i < s.length
    · simp [hl] at e
      subst e
      exact ⟨v, by simp [h.len ▸ hl], r⟩
    · simp [hl] at e
  · rw [List.getElem?_set_ne hij] at e ⊢
    exact h.at_ j y e
theorem SR.unset {G : Sig} {R : Hp} {ρ : List Addr} {s : SL} {σ : St} (h : SR G R ρ s σ) (i : Nat) (q : Option V) : SR G R ρ (s.set i none) (σ.set i q) := by
  refine ⟨by simp [h.len], fun j y e => ?_⟩
  by_cases hij : i = j
  · subst hij
    rw [List.getElem?_set] at e
    by_cases hl : i < s.length
    · simp [hl] at e
    · simp [hl] at e
  · rw [List.getElem?_set_ne hij] at e ⊢
    exact h.at_ j y e

/-! ### what comes out -/
inductive Out where
  | val (v : Va) | exc (c : Nat) (v : Va)
abbrev Res := Option (Out × Store)
abbrev SE := SL → Store → Res
def bindO (r : Res) (k : Va → Store → Res) : Res := match r with
  | none => none
  | some (.val v, M) => k v M
  | some (.exc c v, M) => some (.exc c v, M)
@[simp] theorem bindO_val (v : Va) (M : Store) (k : Va → Store → Res) : bindO (some (.val v, M)) k = k v M := rfl
@[simp] theorem bindO_exc (c : Nat) (v : Va) (M : Store) (k : Va → Store → Res) : bindO (some (.exc c v, M)) k = some (.exc c v, M) := rfl
@[simp] theorem bindO_none (k : Va → Store → Res) : bindO none k = none := rfl
theorem bindO_assoc (r : Res) (k k' : Va → Store → Res) : bindO (bindO r k) k' = bindO r fun v M => bindO (k v M) k' := by
  rcases r with _ | ⟨_ | _, _⟩ <;> rfl

def PostX (G : Sig) (R : Hp) (ρ : List Addr) (H : Hp) (M : Store) (E : XK) (c : Nat) (x : Va) : Prop :=
  ∀ R' ρ' H' d v, Ext R ρ H R' ρ' H' → Wd G R' ρ' M H' → H' d = some (.xd [("value", v)]) → VR G R' ρ' x v → E (.ref (G.CA c)) (some d) H'
/-- the end, for a value -/
def Gives (G : Sig) (R : Hp) (ρ : List Addr) (H : Hp) (M : Store) (x : Va) (Q : VK) : Prop :=
  ∀ R' ρ' H' v, Ext R ρ H R' ρ' H' → Wd G R' ρ' M H' → VR G R' ρ' x v → Q v H'
def Post (G : Sig) (R : Hp) (ρ : List Addr) (H : Hp) (r : Res) (Q : VK) (E : XK) : Prop := match r with
  | none => False
  | some (.val x, M) => Gives G R ρ H M x Q
  | some (.exc c x, M) => PostX G R ρ H M E c x
theorem Post.ext {G : Sig} {R R' : Hp} {ρ ρ' : List Addr} {H H' : Hp} {r : Res} {Q : VK} {E : XK} (e : Ext R ρ H R' ρ' H') (p : Post G R ρ H r Q E) : Post G R' ρ' H' r Q E := by
  rcases r with _ | ⟨x | ⟨c, x⟩, M⟩
  · exact p
  · exact fun R2 ρ2 H2 v e2 w r => p R2 ρ2 H2 v (e.trans e2) w r
  · exact fun R2 ρ2 H2 d v e2 w h r => p R2 ρ2 H2 d v (e.trans e2) w h r
theorem Gives.ext {G : Sig} {R R' : Hp} {ρ ρ' : List Addr} {H H' : Hp} {M : Store} {x : Va} {Q : VK} (e : Ext R ρ H R' ρ' H') (p : Gives G R ρ H M x Q) : Gives G R' ρ' H' M x Q :=
  fun R2 ρ2 H2 v e2 w r => p R2 ρ2 H2 v (e.trans e2) w r

/-- an expression's reading by its value -/
def tE (G : Sig) (E : XK) (ev : SE) : TE := fun σ H Q => ∃ R ρ s M, Wd G R ρ M H ∧ SR G R ρ s σ ∧ Post G R ρ H (ev s M) Q E
/-- an argument list's: the values as a tuple -/
def PostA (G : Sig) (R : Hp) (ρ : List Addr) (H : Hp) (r : Res) (Q : List V → Hp → Prop) (E : XK) : Prop := match r with
  | none => False
  | some (.val (.tup l), M) => ∀ R' ρ' H' vs, Ext R ρ H R' ρ' H' → Wd G R' ρ' M H' → VRs G R' ρ' l vs → Q vs H'
  | some (.val _, _) => False
  | some (.exc c x, M) => PostX G R ρ H M E c x
def tA (G : Sig) (E : XK) (ev : SE) : TA := fun σ H Q => ∃ R ρ s M, Wd G R ρ M H ∧ SR G R ρ s σ ∧ PostA G R ρ H (ev s M) Q E
/-- a test's: a value True or False -/
def PostT (G : Sig) (R : Hp) (ρ : List Addr) (H : Hp) (r : Res) (Q : Bool → Hp → Prop) (E : XK) : Prop := match r with
  | none => False
  | some (.val (.bl b), M) => ∀ R' ρ' H', Ext R ρ H R' ρ' H' → Wd G R' ρ' M H' → Q b H'
  | some (.val _, _) => False
  | some (.exc c x, M) => PostX G R ρ H M E c x
def tT (G : Sig) (E : XK) (ev : SE) : TT := fun σ H Q => ∃ R ρ s M, Wd G R ρ M H ∧ SR G R ρ s σ ∧ PostT G R ρ H (ev s M) Q E
theorem PostX.ext {G : Sig} {R R' : Hp} {ρ ρ' : List Addr} {H H' : Hp} {M : Store} {c : Nat} {x : Va} {E : XK} (e : Ext R ρ H R' ρ' H') (p : PostX G R ρ H M E c x) : PostX G R' ρ' H' M E c x :=
  fun R2 ρ2 H2 d v e2 w h r => p R2 ρ2 H2 d v (e.trans e2) w h r

section
variable {X : Cx} {e : Expr} {es : List Expr} {st : Stmt} {sts : List Stmt}
theorem pe_imp {t t' : TE} (h : PE X e t) (i : ∀ σ H Q, t' σ H Q → t σ H Q) : PE X e t' := ⟨fun p s σ H Q I q => h.run p s σ H Q I (i σ H Q q)⟩
theorem pt_imp {t t' : TT} (h : PT X e t) (i : ∀ σ H Q, t' σ H Q → t σ H Q) : PT X e t' := ⟨fun p s σ H Q I q => h.run p s σ H Q I (i σ H Q q)⟩
theorem pw_imp {t t' : TT} (h : PW X e t) (i : ∀ σ H Q, t' σ H Q → t σ H Q) : PW X e t' := ⟨fun w p s σ H Q I q => h.run w p s σ H Q I (i σ H Q q)⟩
theorem pa_imp {t t' : TA} (h : PA X es t) (i : ∀ σ H Q, t' σ H Q → t σ H Q) : PA X es t' := ⟨fun w p s σ H Q I q => h.run w p s σ H Q I (i σ H Q q)⟩
theorem ps_imp {t t' : TS} (h : PS X st t) (i : ∀ D σ H, t' D σ H → t D σ H) : PS X st t' := ⟨fun p s σ H D I q => h.run p s σ H D I (i D σ H q)⟩
theorem pss_imp {t t' : TS} (h : PSs X sts t) (i : ∀ D σ H, t' D σ H → t D σ H) : PSs X sts t' := ⟨fun p s σ H D I q => h.run p s σ H D I (i D σ H q)⟩
theorem pi_imp {tg : Expr} {t t' : TI} (h : PI X tg e t) (i : ∀ σ H Q, t' σ H Q → t σ H Q) : PI X tg e t' := ⟨fun p s σ H Q I q => h.run p s σ H Q I (i σ H Q q)⟩
end

section
variable {G : Sig} {E : XK} {σ : St} {H : Hp}
/-- first a, then what hangs on its value -/
theorem tE_bind {ea : SE} {k : Va → SE} {P : SE → St → Hp → Prop} {Q' : VK}
    (h : ∃ R ρ s M, Wd G R ρ M H ∧ SR G R ρ s σ ∧ ∃ r, r = bindO (ea s M) (fun v M1 => k v s M1) ∧ r ≠ none ∧
      (∀ c x M', r = some (.exc c x, M') → PostX G R ρ H M' E c x) ∧
      (∀ va M1, ea s M = some (.val va, M1) → ∀ R' ρ' H' v, Ext R ρ H R' ρ' H' → Wd G R' ρ' M1 H' → VR G R' ρ' va v → Q' v H')) : tE G E ea σ H Q' := by
  obtain ⟨R, ρ, s, M, w, sr, r, er, hn, hx, hv⟩ := h
  refine ⟨R, ρ, s, M, w, sr, ?_⟩
  rcases q : ea s M with _ | ⟨x | ⟨c, x⟩, M1⟩
  · rw [q] at er
    exact absurd er hn
  · exact fun R' ρ' H' v => hv x M1 q R' ρ' H' v
  · rw [q] at er
    exact hx c x M1 er
theorem bindE {ea : SE} {k : Va → SE} {Q Q' : VK} (h : tE G E (fun s M => bindO (ea s M) fun v M1 => k v s M1) σ H Q)
    (hk : ∀ R ρ s M H1 va v, Wd G R ρ M H1 → SR G R ρ s σ → VR G R ρ va v → Post G R ρ H1 (k va s M) Q E → Q' v H1) : tE G E ea σ H Q' := by
  obtain ⟨R, ρ, s, M, w, sr, p⟩ := h
  refine ⟨R, ρ, s, M, w, sr, ?_⟩
  show Post G R ρ H (ea s M) Q' E
  replace p : Post G R ρ H (bindO (ea s M) fun v M1 => k v s M1) Q E := p
  rcases q : ea s M with _ | ⟨x | ⟨c, x⟩, M1⟩ <;> rw [q] at p
  · exact p
  · exact fun R' ρ' H' v e w' r => hk R' ρ' s M1 H' x v w' (sr.mono e.gr) r (p.ext e)
  · exact p
theorem bindEA {ea : SE} {k : Va → SE} {Q : List V → Hp → Prop} {Q' : VK} (h : tA G E (fun s M => bindO (ea s M) fun v M1 => k v s M1) σ H Q)
    (hk : ∀ R ρ s M H1 va v, Wd G R ρ M H1 → SR G R ρ s σ → VR G R ρ va v → PostA G R ρ H1 (k va s M) Q E → Q' v H1) : tE G E ea σ H Q' := by
  obtain ⟨R, ρ, s, M, w, sr, p⟩ := h
  refine ⟨R, ρ, s, M, w, sr, ?_⟩
  show Post G R ρ H (ea s M) Q' E
  replace p : PostA G R ρ H (bindO (ea s M) fun v M1 => k v s M1) Q E := p
  rcases q : ea s M with _ | ⟨x | ⟨c, x⟩, M1⟩ <;> rw [q] at p
  · exact p
  · refine fun R' ρ' H' v e w' r => hk R' ρ' s M1 H' x v w' (sr.mono e.gr) r ?_
    rw [bindO_val] at p
    rcases z : k x s M1 with _ | ⟨y | ⟨c, y⟩, M2⟩ <;> rw [z] at p
    · exact p
    · cases y <;> first | exact p | skip
      exact fun R2 ρ2 H2 vs e2 w2 r2 => p R2 ρ2 H2 vs (e.trans e2) w2 r2
    · exact PostX.ext e p
  · exact p
end
end PV

set_option Elab.async false
set_option linter.all false
set_option maxRecDepth 100000
set_option maxHeartbeats 4000000
namespace PV
open PySem L2

section
variable {G : Sig} {R R' : Hp} {ρ ρ' : List Addr} {M : Store} {H : Hp} {p a : Addr} {o : HO}
theorem Wd.nonR (w : Wd G R ρ M H) (h : H a = none) : R a = none := by
  cases q : R a with
  | none => rfl
  | some x => rw [w.sub a x q] at h; cases h
theorem celR_mono {x : Cell} {H' : Hp} (g : Gr R ρ R' ρ') (h : CelR G R ρ H a x) (e : ∀ u, H a = some u → H' a = some u) : CelR G R' ρ' H' a x := by
  cases x with
  | lst l => obtain ⟨vs, h1, h2, h3⟩ := h; exact ⟨vs, e _ h1, h2, h3.mono g⟩
  | dic l => obtain ⟨vs, h1, h2, h3⟩ := h; exact ⟨vs, e _ h1, h2, h3.mono g⟩
  | ins c l => obtain ⟨dx, vs, h1, h3⟩ := h; exact ⟨dx, vs, e _ h1, h3.mono g⟩
theorem celR_some {x : Cell} (h : CelR G R ρ H a x) : H a ≠ none := by
  cases x with
  | lst l => obtain ⟨vs, h1, h2⟩ := h; rw [h1]; simp
  | dic l => obtain ⟨vs, h1, h2⟩ := h; rw [h1]; simp
  | ins c l => obtain ⟨dx, vs, h1, h2⟩ := h; rw [h1]; simp
/-- the heap alone grows -/
theorem Wd.heap {H' : Hp} (w : Wd G R ρ M H) (k : ∀ a o, H a = some o → H' a = some o) : Wd G R ρ M H' :=
  ⟨fun a o h => k a o (w.sub a o h), w.len, fun n x h => let ⟨a, e, r, c⟩ := w.cel n x h; ⟨a, e, r, celR_mono Gr.refl c fun u q => k _ _ q⟩, w.inj, fun a h n => by
    cases q : H a with
    | none => exact w.al a h q
    | some o => rw [k a o q] at n; cases n⟩
theorem alloc_frz (w : Wd G R ρ M H) (hp : H p = none) : Ext R ρ H (upd R p o) ρ (upd H p o) ∧ Wd G (upd R p o) ρ M (upd H p o) := by
  have kR : ∀ a u, R a = some u → upd R p o a = some u := fun a u h => by rw [upd_ne (ne_of_none (w.sub a u h) hp)]; exact h
  have kH : ∀ a u, H a = some u → upd H p o a = some u := fun a u h => by rw [upd_ne (ne_of_none h hp)]; exact h
  refine ⟨⟨kR, ⟨[], by simp, by simp⟩, fun a u h _ => kH a u h, fun a h => ?_, fun a h n => ?_⟩, ⟨fun a u h => ?_, w.len, fun n x h => ?_, w.inj, fun a h n => ?_⟩⟩
  · cases q : H a with
    | none => exact absurd q h
    | some u => rw [kH a u q]; simp
  · by_cases e : a = p
    · subst e; exact .inl hp
    · rw [upd_ne e] at n; exact absurd h n
  · by_cases e : a = p
    · subst e; rw [upd_same] at h ⊢; exact h
    · rw [upd_ne e] at h ⊢; exact w.sub a u h
  · obtain ⟨a, e, r, c⟩ := w.cel n x h
    have ne : a ≠ p := fun z => celR_some c (by rw [z]; exact hp)
    exact ⟨a, e, by rw [upd_ne ne]; exact r, celR_mono ⟨kR, fun _ _ q => q⟩ c fun u q => kH _ _ q⟩
  · cases q : H a with
    | none => exact w.al a h q
    | some o => rw [kH a o q] at n; cases n
theorem alloc_cel {x : Cell} (w : Wd G R ρ M H) (hp : H p = none) (hx : CelR G R ρ (upd H p o) p x) : Ext R ρ H R (ρ ++ [p]) (upd H p o) ∧ Wd G R (ρ ++ [p]) (M.new x) (upd H p o) ∧ (ρ ++ [p])[M.nx]? = some p := by
  have kH : ∀ a u, H a = some u → upd H p o a = some u := fun a u h => by rw [upd_ne (ne_of_none h hp)]; exact h
  have gr : Gr R ρ R (ρ ++ [p]) := ⟨fun _ _ h => h, fun n a h => by rw [List.getElem?_append_left (List.getElem?_eq_some_iff.mp h).1]; exact h⟩
  have gp : (ρ ++ [p])[M.nx]? = some p := by rw [← w.len]; simp
  have bnd : ∀ n y, M.c n = some y → ∃ b, ρ[n]? = some b ∧ b ≠ p ∧ n ≠ M.nx := fun n y h => by
    obtain ⟨b, e, r, c⟩ := w.cel n y h
    refine ⟨b, e, fun z => celR_some c (by rw [z]; exact hp), fun z => ?_⟩
    have := (List.getElem?_eq_some_iff.mp e).1
    have := w.len
    omega
  refine ⟨⟨fun _ _ h => h, ⟨[p], rfl, fun b hb => by rw [List.mem_singleton.mp hb]; exact hp⟩, fun a u h _ => kH a u h, fun a h => ?_, fun a h n => absurd h n⟩, ⟨fun a u h => kH a u (w.sub a u h), by simp [Store.new, w.len], fun n y h => ?_, fun n m b y z h1 h2 e1 e2 => ?_, fun a h n => ?_⟩, gp⟩
  · cases q : H a with
    | none => exact absurd q h
    | some u => rw [kH a u q]; simp
  · by_cases e : n = M.nx
    · subst e
      have h' : (if M.nx = M.nx then some x else M.c M.nx) = some y := h
      rw [if_pos rfl] at h'
      cases h'
      exact ⟨p, gp, w.nonR hp, celR_mono gr hx fun u q => q⟩
    · have h' : (if n = M.nx then some x else M.c n) = some y := h
      rw [if_neg e] at h'
      obtain ⟨b, e1, r, c⟩ := w.cel n y h'
      exact ⟨b, gr.get n b e1, r, celR_mono gr c fun u q => kH _ _ q⟩
  · have h1' : (if n = M.nx then some x else M.c n) = some y := h1
    have h2' : (if m = M.nx then some x else M.c m) = some z := h2
    by_cases q1 : n = M.nx <;> by_cases q2 : m = M.nx
    · rw [q1, q2]
    · rw [if_neg q2] at h2'
      obtain ⟨b', e', ne, _⟩ := bnd m z h2'
      rw [gr.get m b' e'] at e2
      cases e2
      rw [q1, gp] at e1
      cases e1
      exact absurd rfl ne
    · rw [if_neg q1] at h1'
      obtain ⟨b', e', ne, _⟩ := bnd n y h1'
      rw [gr.get n b' e'] at e1
      cases e1
      rw [q2, gp] at e2
      cases e2
      exact absurd rfl ne
    · rw [if_neg q1] at h1'
      rw [if_neg q2] at h2'
      obtain ⟨b1, e1', _⟩ := bnd n y h1'
      obtain ⟨b2, e2', _⟩ := bnd m z h2'
      rw [gr.get n b1 e1'] at e1
      rw [gr.get m b2 e2'] at e2
      cases e1
      cases e2
      exact w.inj n m b y z h1' h2' e1' e2'
  · rcases List.mem_append.mp h with h | h
    · cases q : H a with
      | none => exact w.al a h q
      | some o => rw [kH a o q] at n; cases n
    · rw [List.mem_singleton.mp h, upd_same] at n
      cases n
theorem write_cel {n : Nat} {x y : Cell} (w : Wd G R ρ M H) (hn : M.c n = some x) (ha : ρ[n]? = some a) (hy : CelR G R ρ (upd H a o) a y) : Ext R ρ H R ρ (upd H a o) ∧ Wd G R ρ (M.put n y) (upd H a o) := by
  obtain ⟨a', e', ra, ca⟩ := w.cel n x hn
  rw [ha] at e'
  cases e'
  refine ⟨⟨fun _ _ h => h, ⟨[], by simp, by simp⟩, fun b u h nb => ?_, fun b h => ?_, fun b h n => absurd h n⟩, ⟨fun b u h => ?_, w.len, fun m z h => ?_, fun m k b y' z h1 h2 e1 e2 => ?_, fun b h n => ?_⟩⟩
  · rw [upd_ne]
    · exact h
    · rintro rfl
      exact nb (List.mem_of_getElem? ha)
  · by_cases e : b = a
    · subst e; rw [upd_same]; simp
    · rw [upd_ne e]; exact h
  · rw [upd_ne]
    · exact w.sub b u h
    · rintro rfl
      rw [ra] at h
      cases h
  · have h' : (if m = n then some y else M.c m) = some z := h
    by_cases e : m = n
    · subst e
      rw [if_pos rfl] at h'
      cases h'
      exact ⟨a, ha, ra, hy⟩
    · rw [if_neg e] at h'
      obtain ⟨b, e1, r, c⟩ := w.cel m z h'
      have ne : b ≠ a := fun q => e (w.inj m n a z x h' hn (q ▸ e1) ha)
      exact ⟨b, e1, r, celR_mono Gr.refl c fun u q => by rw [upd_ne ne]; exact q⟩
  · have h1' : (if m = n then some y else M.c m) = some y' := h1
    have h2' : (if k = n then some y else M.c k) = some z := h2
    have f : ∀ j w', (if j = n then some y else M.c j) = some w' → ∃ w'', M.c j = some w'' := fun j w' q => by
      by_cases e : j = n
      · subst e; exact ⟨x, hn⟩
      · rw [if_neg e] at q; exact ⟨_, q⟩
    obtain ⟨u1, f1⟩ := f m y' h1'
    obtain ⟨u2, f2⟩ := f k z h2'
    exact w.inj m k b u1 u2 f1 f2 e1 e2
  · by_cases e : b = a
    · subst e; rw [upd_same] at n; cases n
    · rw [upd_ne e] at n; exact w.al b h n
theorem freeze_cel {n : Nat} {x : Cell} (w : Wd G R ρ M H) (hn : M.c n = some x) (ha : ρ[n]? = some a) (ho : H a = some o) : Ext R ρ H (upd R a o) ρ H ∧ Wd G (upd R a o) ρ (M.del n) H := by
  obtain ⟨a', e', ra, ca⟩ := w.cel n x hn
  rw [ha] at e'
  cases e'
  have kR : ∀ b u, R b = some u → upd R a o b = some u := fun b u h => by
    rw [upd_ne]
    · exact h
    · rintro rfl
      rw [ra] at h
      cases h
  have f : ∀ j w', (M.del n).c j = some w' → j ≠ n ∧ M.c j = some w' := fun j w' q => by
    have q' : (if j = n then Option.none else M.c j) = some w' := q
    by_cases e : j = n
    · rw [if_pos e] at q'; cases q'
    · rw [if_neg e] at q'; exact ⟨e, q'⟩
  refine ⟨⟨kR, ⟨[], by simp, by simp⟩, fun b u h _ => h, fun b h => h, fun b h n => ?_⟩, ⟨fun b u h => ?_, w.len, fun m z h => ?_, fun m k b y' z h1 h2 e1 e2 => ?_, w.al⟩⟩
  · by_cases e : b = a
    · subst e; exact .inr (List.mem_of_getElem? ha)
    · rw [upd_ne e] at n; exact absurd h n
  · by_cases e : b = a
    · subst e; rw [upd_same] at h; rw [ho]; exact h
    · rw [upd_ne e] at h; exact w.sub b u h
  · obtain ⟨nm, h'⟩ := f m z h
    obtain ⟨b, e1, r, c⟩ := w.cel m z h'
    have ne : b ≠ a := fun q => nm (w.inj m n a z x h' hn (q ▸ e1) ha)
    exact ⟨b, e1, by rw [upd_ne ne]; exact r, celR_mono ⟨kR, fun _ _ q => q⟩ c fun u q => q⟩
  · exact w.inj m k b y' z (f m y' h1).2 (f k z h2).2 e1 e2
end

/-! ### reading lists, tuples, dicts -/
def lstOf (M : Store) : Va → Option (List Va)
  | .lst l => some l
  | .scr l => some (l.map Va.int)
  | .cel n => match M.c n with
    | some (.lst l) => some l
    | _ => none
  | _ => none
/-- a list that is no script -/
def ownOf (M : Store) : Va → Option (List Va)
  | .lst l => some l
  | .cel n => match M.c n with
    | some (.lst l) => some l
    | _ => none
  | _ => none
def tupOf : Va → Option (List Va)
  | .tup l => some l
  | _ => none
def seqOf (M : Store) (x : Va) : Option (List Va) := match x with
  | .tup l => some l
  | _ => lstOf M x
def dicOf (M : Store) : Va → Option (List (Key × Va))
  | .dic l => some l
  | .cel n => match M.c n with
    | some (.dic l) => some l
    | _ => none
  | _ => none
section
variable {G : Sig} {R R' : Hp} {ρ ρ' : List Addr} {M : Store} {H : Hp} {x : Va} {v : V}
theorem own_read {l : List Va} (w : Wd G R ρ M H) (r : VR G R ρ x v) (h : ownOf M x = some l) : ∃ a vs, v = .ref a ∧ H a = some (.lst vs) ∧ VRs G R ρ l vs ∧ l.length ≤ sizeLine := by
  cases r with
  | lst e z q => cases h; exact ⟨_, _, rfl, w.sub _ _ e, q, z⟩
  | @cel n _ e =>
    replace h : (match M.c n with | some (.lst l) => some l | _ => none) = some l := h
    split at h
    · rename_i q1 q2
      cases h
      obtain ⟨a, e1, _, vs, e2, z, q⟩ := w.cel _ _ q2
      rw [e] at e1
      cases e1
      exact ⟨_, vs, rfl, e2, q, z⟩
    · cases h
  | _ => cases h
theorem lst_read {l : List Va} (w : Wd G R ρ M H) (r : VR G R ρ x v) (h : lstOf M x = some l) : ∃ a vs, v = .ref a ∧ SqL G.K H a vs ∧ VRs G R ρ l vs ∧ l.length ≤ sizeLine := by
  cases r with
  | lst e z q => cases h; exact ⟨_, _, rfl, .of (w.sub _ _ e), q, z⟩
  | cel e =>
    have h' : ownOf M (.cel _) = some l := h
    obtain ⟨a, vs, e1, e2, q, z⟩ := own_read w (.cel e) h'
    exact ⟨a, vs, e1, .of e2, q, z⟩
  | scr e z => cases h; exact ⟨_, _, rfl, sqL_mono w.sub e, VRs.ints _, by rw [List.length_map]; exact z⟩
  | _ => cases h
theorem tup_read {l : List Va} (w : Wd G R ρ M H) (r : VR G R ρ x v) (h : tupOf x = some l) : ∃ a vs, v = .ref a ∧ H a = some (.tup vs) ∧ VRs G R ρ l vs ∧ l.length ≤ sizeLine := by
  cases r with
  | tup e z q => cases h; exact ⟨_, _, rfl, w.sub _ _ e, q, z⟩
  | _ => cases h
theorem dic_read {l : List (Key × Va)} (w : Wd G R ρ M H) (r : VR G R ρ x v) (h : dicOf M x = some l) : ∃ a vs, v = .ref a ∧ H a = some (.dK vs) ∧ VRk G R ρ l vs ∧ l.length ≤ sizeLine := by
  cases r with
  | dic e z q => cases h; exact ⟨_, _, rfl, w.sub _ _ e, q, z⟩
  | @cel n _ e =>
    replace h : (match M.c n with | some (.dic l) => some l | _ => none) = some l := h
    split at h
    · rename_i q1 q2
      cases h
      obtain ⟨a, e1, _, vs, e2, z, q⟩ := w.cel _ _ q2
      rw [e] at e1
      cases e1
      exact ⟨_, vs, rfl, e2, q, z⟩
    · cases h
  | _ => cases h
/-- either -/
theorem seq_read {l : List Va} (w : Wd G R ρ M H) (r : VR G R ρ x v) (h : seqOf M x = some l) : ∃ a vs, v = .ref a ∧ (SqL G.K H a vs ∨ SqT G.K H a vs) ∧ VRs G R ρ l vs ∧ l.length ≤ sizeLine := by
  cases x with
  | tup l' =>
    obtain ⟨a, vs, e1, e2, q, z⟩ := tup_read w r h
    exact ⟨a, vs, e1, .inr (.of e2), q, z⟩
  | _ =>
    obtain ⟨a, vs, e1, e2, q, z⟩ := lst_read w r h
    exact ⟨a, vs, e1, .inl e2, q, z⟩
end

/-! ### from one part to the next -/
section
variable {G : Sig} {E : XK} {σ : St} {H : Hp} {R : Hp} {ρ : List Addr} {s : SL} {M : Store}
theorem stepE {ea : SE} {k : Va → Store → Res} {Q Q' : VK} (w : Wd G R ρ M H) (sr : SR G R ρ s σ) (p : Post G R ρ H (bindO (ea s M) k) Q E)
    (hk : ∀ R' ρ' M' H' va v, Ext R ρ H R' ρ' H' → Wd G R' ρ' M' H' → SR G R' ρ' s σ → VR G R' ρ' va v → Post G R' ρ' H' (k va M') Q E → Q' v H') : tE G E ea σ H Q' := by
  refine ⟨R, ρ, s, M, w, sr, ?_⟩
  rcases q : ea s M with _ | ⟨x | ⟨c, x⟩, M1⟩ <;> rw [q] at p
  · exact p
  · exact fun R' ρ' H' v e w' r => hk R' ρ' M1 H' x v e w' (sr.mono e.gr) r (p.ext e)
  · exact p
theorem stepA {ea : SE} {k : List Va → Store → Res} {Q : VK} {Q' : List V → Hp → Prop} (w : Wd G R ρ M H) (sr : SR G R ρ s σ)
    (p : Post G R ρ H (bindO (ea s M) fun t M1 => match t with | .tup l => k l M1 | _ => none) Q E)
    (hk : ∀ R' ρ' M' H' l vs, Ext R ρ H R' ρ' H' → Wd G R' ρ' M' H' → SR G R' ρ' s σ → VRs G R' ρ' l vs → Post G R' ρ' H' (k l M') Q E → Q' vs H') : tA G E ea σ H Q' := by
  refine ⟨R, ρ, s, M, w, sr, ?_⟩
  rcases q : ea s M with _ | ⟨x | ⟨c, x⟩, M1⟩ <;> rw [q] at p
  · exact p
  · cases x <;> first | exact p | skip
    exact fun R' ρ' H' vs e w' r => hk R' ρ' M1 H' _ vs e w' (sr.mono e.gr) r (Post.ext e p)
  · exact p
theorem stepT {ea : SE} {k : Bool → Store → Res} {Q : VK} {Q' : Bool → Hp → Prop} (w : Wd G R ρ M H) (sr : SR G R ρ s σ)
    (p : Post G R ρ H (bindO (ea s M) fun t M1 => match t with | .bl b => k b M1 | _ => none) Q E)
    (hk : ∀ R' ρ' M' H' b, Ext R ρ H R' ρ' H' → Wd G R' ρ' M' H' → SR G R' ρ' s σ → Post G R' ρ' H' (k b M') Q E → Q' b H') : tT G E ea σ H Q' := by
  refine ⟨R, ρ, s, M, w, sr, ?_⟩
  rcases q : ea s M with _ | ⟨x | ⟨c, x⟩, M1⟩ <;> rw [q] at p
  · exact p
  · cases x <;> first | exact p | skip
    exact fun R' ρ' H' e w' => hk R' ρ' M1 H' _ e w' (sr.mono e.gr) (Post.ext e p)
  · exact p
end

/-! ### the forms of expressions -/
def evVar (i : Nat) : SE := fun s M => match s[i]? with
  | some (some v) => some (.val v, M)
  | _ => none
def evC (v : Va) : SE := fun _ M => some (.val v, M)
def ev1 (g : Store → Va → Option Va) (ea : SE) : SE := fun s M => bindO (ea s M) fun va M1 => match g M1 va with
  | some r => some (.val r, M1)
  | none => none
def ev2 (g : Store → Va → Va → Option Va) (ea eb : SE) : SE := fun s M => bindO (ea s M) fun va M1 => bindO (eb s M1) fun vb M2 => match g M2 va vb with
  | some r => some (.val r, M2)
  | none => none
def evNil : SE := fun _ M => some (.val (.tup []), M)
def evCons (e r : SE) : SE := fun s M => bindO (e s M) fun v M1 => bindO (r s M1) fun t M2 => match t with
  | .tup l => some (.val (.tup (v :: l)), M2)
  | _ => none
/-- with a list of arguments -/
def evL (k : List Va → Store → Res) (ea : SE) : SE := fun s M => bindO (ea s M) fun t M1 => match t with
  | .tup l => k l M1
  | _ => none
def kTup (l : List Va) (M : Store) : Res := if l.length ≤ sizeLine then some (.val (.tup l), M) else none
def kLst (l : List Va) (M : Store) : Res := if l.length ≤ sizeLine then some (.val (.lst l), M) else none
def kNew (l : List Va) (M : Store) : Res := if l.length ≤ sizeLine then some (.val (.cel M.nx), M.new (.lst l)) else none
def kPure (g : Store → List Va → Option Va) (l : List Va) (M : Store) : Res := match g M l with
  | some r => some (.val r, M)
  | none => none
/-- a method: the object, then the arguments -/
def evM (k : Va → List Va → Store → Res) (eo ea : SE) : SE := fun s M => bindO (eo s M) fun o M1 => bindO (ea s M1) fun t M2 => match t with
  | .tup l => k o l M2
  | _ => none
def evIf (t a b : SE) : SE := fun s M => bindO (t s M) fun c M1 => match c with
  | .bl true => a s M1
  | .bl false => b s M1
  | _ => none
def evAnd (a b : SE) : SE := fun s M => bindO (a s M) fun c M1 => match c with
  | .bl true => b s M1
  | .bl false => some (.val (.bl false), M1)
  | _ => none
def evOr (a b : SE) : SE := fun s M => bindO (a s M) fun c M1 => match c with
  | .bl true => some (.val (.bl true), M1)
  | .bl false => b s M1
  | _ => none
def evNot (a : SE) : SE := fun s M => bindO (a s M) fun c M1 => match c with
  | .bl b => some (.val (.bl (!b)), M1)
  | _ => none
/-- a list cell becomes a datum -/
def frzO (r : Res) : Res := match r with
  | some (.val (.cel n), M) => match M.c n with
    | some (.lst l) => some (.val (.lst l), M.del n)
    | some (.dic l) => some (.val (.dic l), M.del n)
    | _ => some (.val (.cel n), M)
  | r => r
def evFrz (a : SE) : SE := fun s M => frzO (a s M)
/-- a chain of two comparisons -/
def evChain (g g' : Store → Va → Va → Option Va) (ea eb ec : SE) : SE := fun s M => bindO (ea s M) fun va M1 => bindO (eb s M1) fun vb M2 => match g M2 va vb with
  | some (.bl true) => bindO (ec s M2) fun vc M3 => match g' M3 vb vc with
    | some (.bl b) => some (.val (.bl b), M3)
    | _ => none
  | some (.bl false) => some (.val (.bl false), M2)
  | _ => none

/-! ### what an operation, a call, a method gives -/
def Op1 (G : Sig) (r : V → Hp → VK → Prop) (g : Store → Va → Option Va) : Prop := ∀ R ρ M H x va res (Q : VK), Wd G R ρ M H → VR G R ρ va x → g M va = some res → Gives G R ρ H M res Q → r x H Q
def Op2 (G : Sig) (r : R2) (g : Store → Va → Va → Option Va) : Prop := ∀ R ρ M H x y va vb res (Q : VK), Wd G R ρ M H → VR G R ρ va x → VR G R ρ vb y → g M va vb = some res → Gives G R ρ H M res Q → r x y H Q
def OpL (G : Sig) (r : List V → Hp → VK → Prop) (k : List Va → Store → Res) : Prop := ∀ R ρ M H xs l (Q : VK) (E : XK), Wd G R ρ M H → VRs G R ρ l xs → Post G R ρ H (k l M) Q E → r xs H Q
def OpM (G : Sig) (T : String) (r : V → List V → Hp → VK → Prop) (k : Va → List Va → Store → Res) : Prop := ∀ R ρ M H x xs o l (Q : VK) (E : XK), Wd G R ρ M H → VR G R ρ o x → VRs G R ρ l xs → Post G R ρ H (k o l M) Q E → r x xs H Q
/-- the object's type is right -/
def TyM (G : Sig) (T : String) (k : Va → List Va → Store → Res) : Prop := ∀ R ρ M H x o, Wd G R ρ M H → VR G R ρ o x → (∀ l M', k o l M' = none) ∨ tyV G.K T x H
theorem gives_now {G : Sig} {R : Hp} {ρ : List Addr} {M : Store} {H : Hp} {x : Va} {v : V} {Q : VK} (w : Wd G R ρ M H) (r : VR G R ρ x v) (g : Gives G R ρ H M x Q) : Q v H := g R ρ H v Ext.refl w r
theorem gives_tup {G : Sig} {R : Hp} {ρ : List Addr} {M : Store} {H : Hp} {l : List Va} {vs : List V} {p : Addr} {Q : VK} (w : Wd G R ρ M H) (r : VRs G R ρ l vs) (z : l.length ≤ sizeLine) (g : Gives G R ρ H M (.tup l) Q) (hp : H p = none) : Q (.ref p) (upd H p (.tup vs)) := by
  obtain ⟨e, w'⟩ := alloc_frz (o := .tup vs) w hp
  exact g _ _ _ _ e w' (.tup upd_same z (r.mono e.gr))
theorem gives_lst {G : Sig} {R : Hp} {ρ : List Addr} {M : Store} {H : Hp} {l : List Va} {vs : List V} {p : Addr} {Q : VK} (w : Wd G R ρ M H) (r : VRs G R ρ l vs) (z : l.length ≤ sizeLine) (g : Gives G R ρ H M (.lst l) Q) (hp : H p = none) : Q (.ref p) (upd H p (.lst vs)) := by
  obtain ⟨e, w'⟩ := alloc_frz (o := .lst vs) w hp
  exact g _ _ _ _ e w' (.lst upd_same z (r.mono e.gr))
theorem gives_dic {G : Sig} {R : Hp} {ρ : List Addr} {M : Store} {H : Hp} {l : List (Key × Va)} {vs : List (Key × V)} {p : Addr} {Q : VK} (w : Wd G R ρ M H) (r : VRk G R ρ l vs) (z : l.length ≤ sizeLine) (g : Gives G R ρ H M (.dic l) Q) (hp : H p = none) : Q (.ref p) (upd H p (.dK vs)) := by
  obtain ⟨e, w'⟩ := alloc_frz (o := .dK vs) w hp
  exact g _ _ _ _ e w' (.dic upd_same z (r.mono e.gr))
theorem gives_new {G : Sig} {R : Hp} {ρ : List Addr} {M : Store} {H : Hp} {l : List Va} {vs : List V} {p : Addr} {Q : VK} (w : Wd G R ρ M H) (r : VRs G R ρ l vs) (z : l.length ≤ sizeLine) (g : Gives G R ρ H (M.new (.lst l)) (.cel M.nx) Q) (hp : H p = none) : Q (.ref p) (upd H p (.lst vs)) := by
  obtain ⟨e, w', h⟩ := alloc_cel (o := .lst vs) (x := .lst l) w hp ⟨vs, upd_same, z, r⟩
  exact g _ _ _ _ e w' (.cel h)

section
variable {X : Cx} {G : Sig} {E : XK} {a b c : Expr} {es : List Expr} {ea eb ec : SE} {pos : Pos}
theorem qv (i : Nat) {x : Str} (hN : X.N[i]? = some x := by rfl) (hv : Vis X.env.scope x := by first | exact Or.inl rfl | exact Or.inr (Or.inl rfl) | exact Or.inr (Or.inr rfl)) (hd : (x == ("__debug__" : Str)) = false := by decide)
    (hcd : (x == ("__classdict__" : Str)) = false := by decide) : PE X (.Name x pos) (tE G E (evVar i)) := by
  refine pe_imp (pe_var hN hv hd hcd) fun σ H Q ⟨R, ρ, s, M, w, sr, p⟩ => ?_
  unfold evVar at p
  rcases q : s[i]? with _ | _ | v <;> rw [q] at p
  · exact False.elim p
  · exact False.elim p
  · obtain ⟨u, h1, h2⟩ := sr.at_ i v q
    exact ⟨u, h1, gives_now w h2 p⟩
theorem qc_int {i j} : PE X (.Constant (.int i) j pos) (tE G E (evC (.int i))) := pe_imp pe_int fun σ H Q ⟨R, ρ, s, M, w, sr, p⟩ => gives_now w (.int i) p
theorem qc_bl {i j} : PE X (.Constant (.bool i) j pos) (tE G E (evC (.bl i))) := pe_imp pe_bl fun σ H Q ⟨R, ρ, s, M, w, sr, p⟩ => gives_now w (.bl i) p
theorem qc_str {i j} : PE X (.Constant (.str i) j pos) (tE G E (evC (.str i))) := pe_imp pe_str fun σ H Q ⟨R, ρ, s, M, w, sr, p⟩ => gives_now w (.str i) p
theorem qc_non {j} : PE X (.Constant .none j pos) (tE G E (evC .non)) := pe_imp pe_non fun σ H Q ⟨R, ρ, s, M, w, sr, p⟩ => gives_now w .non p
/-- a module's constant: a text or an int -/
theorem qg_str {x z : Str} {t : Tok} (hg : Gl X x) (hm : X.mg x = some (.str z t)) (hd : (x == ("__debug__" : Str)) = false := by decide) : PE X (.Name x pos) (tE G E (evC (.str z))) :=
  pe_imp (pe_glob (v := .str z) hg hm ⟨t, rfl⟩ hd) fun σ H Q ⟨R, ρ, s, M, w, sr, p⟩ => gives_now w (.str z) p
theorem qg_int {x : Str} {z : Int} {t : Tok} (hg : Gl X x) (hm : X.mg x = some (.int z t)) (hd : (x == ("__debug__" : Str)) = false := by decide) : PE X (.Name x pos) (tE G E (evC (.int z))) :=
  pe_imp (pe_glob (v := .int z) hg hm ⟨t, rfl⟩ hd) fun σ H Q ⟨R, ρ, s, M, w, sr, p⟩ => gives_now w (.int z) p

theorem qg_strE {x z : Str} (hg : Gl X x) (hm : ∃ t, X.mg x = some (.str z t)) (hd : (x == ("__debug__" : Str)) = false := by decide) : PE X (.Name x pos) (tE G E (evC (.str z))) := by
  obtain ⟨t, h⟩ := hm
  exact qg_str hg h hd
theorem qg_intE {x : Str} {z : Int} (hg : Gl X x) (hm : ∃ t, X.mg x = some (.int z t)) (hd : (x == ("__debug__" : Str)) = false := by decide) : PE X (.Name x pos) (tE G E (evC (.int z))) := by
  obtain ⟨t, h⟩ := hm
  exact qg_int hg h hd
theorem two {r : R2} {g : Store → Va → Va → Option Va} (hs : Op2 G r g) {σ : St} {H : Hp} {Q : VK} (h : tE G E (ev2 g ea eb) σ H Q) : tOp r (tE G E ea) (tE G E eb) σ H Q := by
  obtain ⟨R, ρ, s, M, w, sr, p⟩ := h
  refine stepE w sr p fun R1 ρ1 M1 H1 va v e1 w1 sr1 r1 p1 => ?_
  refine stepE w1 sr1 p1 fun R2 ρ2 M2 H2 vb u e2 w2 sr2 r2 p2 => ?_
  cases q : g M2 va vb with
  | none => rw [q] at p2; exact False.elim p2
  | some res => rw [q] at p2; exact hs R2 ρ2 M2 H2 v u va vb res Q w2 (r1.mono e2.gr) r2 q p2
theorem q_op {op : Operator} {r : R2} {g : Store → Va → Va → Option Va} (ho : OpR X (binaryOp op) r) (hs : Op2 G r g) (ha : PE X a (tE G E ea)) (hb : PE X b (tE G E eb)) : PE X (.BinOp a op b pos) (tE G E (ev2 g ea eb)) :=
  pe_imp (pe_op ho ha hb) fun σ H Q h => two hs h
theorem q_cmp {op : CmpOp} {r : R2} {g : Store → Va → Va → Option Va} (ho : OpR X (compareOp op) r) (hs : Op2 G r g) (ha : PE X a (tE G E ea)) (hb : PE X b (tE G E eb)) (hm : behindInMarks op b = false) : PE X (.Compare a [op] [b] pos) (tE G E (ev2 g ea eb)) :=
  pe_imp (pe_cmpR ho ha hb hm) fun σ H Q h => two hs h
theorem q_ix {r : R2} {g : Store → Va → Va → Option Va} (ho : IxR X r) (hs : Op2 G r g) (ha : PE X a (tE G E ea)) (hb : PE X b (tE G E eb)) (hm : PlainIx b := by exact fun _ _ => rfl) : PE X (.Subscript a b pos) (tE G E (ev2 g ea eb)) :=
  pe_imp (pe_ix ho ha hb hm) fun σ H Q h => two hs h
theorem q_un {op : UnaryOp} {r : V → Hp → VK → Prop} {g : Store → Va → Option Va} (ho : UnR X (unaryOp op) r) (hs : Op1 G r g) (ha : PE X a (tE G E ea)) : PE X (.UnaryOp op a pos) (tE G E (ev1 g ea)) :=
  pe_imp (pe_un ho ha) fun σ H Q ⟨R, ρ, s, M, w, sr, p⟩ => stepE w sr p fun R1 ρ1 M1 H1 va v e1 w1 sr1 r1 p1 => by
    cases q : g M1 va with
    | none => rw [q] at p1; exact False.elim p1
    | some res => rw [q] at p1; exact hs R1 ρ1 M1 H1 v va res Q w1 r1 q p1

/-! #### arguments, displays -/
theorem qa_nil : PA X [] (tA G E evNil) := pa_imp pa_nil fun σ H Q ⟨R, ρ, s, M, w, sr, p⟩ => p R ρ H [] Ext.refl w .nil
theorem qa_cons (ha : PE X a (tE G E ea)) (hr : PA X es (tA G E eb)) (hs : starEach (a :: es) X.env = (false, eval a X.env) :: starEach es X.env := by rfl) : PA X (a :: es) (tA G E (evCons ea eb)) :=
  pa_imp (pa_cons ha hr hs) fun σ H Q ⟨R, ρ, s, M, w, sr, p⟩ => by
    refine ⟨R, ρ, s, M, w, sr, ?_⟩
    replace p : PostA G R ρ H (bindO (ea s M) fun v M1 => bindO (eb s M1) fun t M2 => match t with | .tup l => some (.val (.tup (v :: l)), M2) | _ => none) Q E := p
    rcases q : ea s M with _ | ⟨x | ⟨c, x⟩, M1⟩ <;> rw [q] at p
    · exact p
    · intro R1 ρ1 H1 v e1 w1 r1
      refine ⟨R1, ρ1, s, M1, w1, sr.mono e1.gr, ?_⟩
      rw [bindO_val] at p
      rcases q2 : eb s M1 with _ | ⟨y | ⟨c, y⟩, M2⟩ <;> rw [q2] at p
      · exact p
      · cases y <;> first | exact p | skip
        intro R2 ρ2 H2 vs e2 w2 r2
        exact p R2 ρ2 H2 (v :: vs) (e1.trans e2) w2 (.cons (r1.mono e2.gr) r2)
      · exact PostX.ext e1 p
    · exact p
theorem q_tup {k} (h : PA X es (tA G E ea)) : PE X (.Tuple es k pos) (tE G E (evL kTup ea)) :=
  pe_imp (pe_tup h) fun σ H Q ⟨R, ρ, s, M, w, sr, p⟩ => stepA w sr p fun R1 ρ1 M1 H1 l vs e1 w1 sr1 r1 p1 => by
    unfold kTup at p1
    split at p1
    · rename_i hz
      exact ⟨by rw [← r1.length]; exact hz, fun q hq => gives_tup w1 r1 hz p1 hq⟩
    · exact False.elim p1
theorem q_lst (h : PA X es (tA G E ea)) : PE X (.List es pos) (tE G E (evL kLst ea)) :=
  pe_imp (pe_lst h) fun σ H Q ⟨R, ρ, s, M, w, sr, p⟩ => stepA w sr p fun R1 ρ1 M1 H1 l vs e1 w1 sr1 r1 p1 => by
    unfold kLst at p1
    split at p1
    · rename_i hz
      exact ⟨by rw [← r1.length]; exact hz, fun q hq => gives_lst w1 r1 hz p1 hq⟩
    · exact False.elim p1
/-- a list that will change -/
theorem q_lstC (h : PA X es (tA G E ea)) : PE X (.List es pos) (tE G E (evL kNew ea)) :=
  pe_imp (pe_lst h) fun σ H Q ⟨R, ρ, s, M, w, sr, p⟩ => stepA w sr p fun R1 ρ1 M1 H1 l vs e1 w1 sr1 r1 p1 => by
    unfold kNew at p1
    split at p1
    · rename_i hz
      exact ⟨by rw [← r1.length]; exact hz, fun q hq => gives_new w1 r1 hz p1 hq⟩
    · exact False.elim p1
theorem q_frz (h : PE X a (tE G E ea)) : PE X a (tE G E (evFrz ea)) :=
  pe_imp h fun σ H Q ⟨R, ρ, s, M, w, sr, p⟩ => by
    refine ⟨R, ρ, s, M, w, sr, ?_⟩
    unfold evFrz at p
    rcases q : ea s M with _ | ⟨x | ⟨c, x⟩, M1⟩ <;> rw [q] at p
    · exact p
    · cases x <;> first | exact p | skip
      rename_i n
      unfold frzO at p
      dsimp only at p
      cases q2 : M1.c n with
      | none => rw [q2] at p; exact p
      | some y =>
        rw [q2] at p
        cases y with
        | ins c l => exact p
        | lst l =>
          intro R1 ρ1 H1 v e1 w1 r1
          obtain ⟨b, eb, rb, vs, hb, z, rv⟩ := w1.cel n _ q2
          cases r1 with
          | cel e' =>
            rw [e'] at eb
            cases eb
            obtain ⟨e2, w2⟩ := freeze_cel w1 q2 e' hb
            exact p _ _ _ _ (e1.trans e2) w2 (.lst upd_same z (rv.mono e2.gr))
        | dic l =>
          intro R1 ρ1 H1 v e1 w1 r1
          obtain ⟨b, eb, rb, vs, hb, z, rv⟩ := w1.cel n _ q2
          cases r1 with
          | cel e' =>
            rw [e'] at eb
            cases eb
            obtain ⟨e2, w2⟩ := freeze_cel w1 q2 e' hb
            exact p _ _ _ _ (e1.trans e2) w2 (.dic upd_same z (rv.mono e2.gr))
    · exact p

/-! #### calls of what is built in -/
variable {x : Str} {p' : Pos} {id T : String} {r : List V → Hp → VK → Prop} {k : List Va → Store → Res}
theorem q_callB (hc : CallR X (.builtin id) r) (hs : OpL G r k) (hg : Gl X x) (hm : X.mg x = none) (hv : bootBuiltins x = some (.builtin id)) (ha : PA X (a :: es) (tA G E ea)) (hn : x ≠ "__name__" := by decide) (hdb : (x == ("__debug__" : Str)) = false := by decide)
    (he : starEach (a :: es) X.env = (false, eval a X.env) :: starEach es X.env := by rfl) (hpl : (backTo pos (starEach es X.env)).any (·.1) = false := by rfl) : PE X (.Call (.Name x p') (a :: es) [] pos) (tE G E (evL k ea)) :=
  pe_imp (pe_callB hc hg hm hv ha hn hdb he hpl) fun σ H Q ⟨R, ρ, s, M, w, sr, p⟩ => stepA w sr p fun R1 ρ1 M1 H1 l vs e1 w1 sr1 r1 p1 => hs R1 ρ1 M1 H1 vs l Q E w1 r1 p1
theorem q_callTy (hc : CallR X (.type T) r) (hs : OpL G r k) (hg : Gl X x) (hm : X.mg x = none) (hv : bootBuiltins x = some (.type T)) (ha : PA X (a :: es) (tA G E ea)) (hn : x ≠ "__name__" := by decide) (hdb : (x == ("__debug__" : Str)) = false := by decide)
    (he : starEach (a :: es) X.env = (false, eval a X.env) :: starEach es X.env := by rfl) (hpl : (backTo pos (starEach es X.env)).any (·.1) = false := by rfl) : PE X (.Call (.Name x p') (a :: es) [] pos) (tE G E (evL k ea)) :=
  pe_imp (pe_callTy hc hg hm hv ha hn hdb he hpl) fun σ H Q ⟨R, ρ, s, M, w, sr, p⟩ => stepA w sr p fun R1 ρ1 M1 H1 l vs e1 w1 sr1 r1 p1 => hs R1 ρ1 M1 H1 vs l Q E w1 r1 p1

/-! #### tests -/
theorem toT {σ : St} {H : Hp} {Q : Bool → Hp → Prop} (h : tT G E ea σ H Q) : tE G E ea σ H fun x H1 => ∃ k, x = .bl k ∧ Q k H1 := by
  obtain ⟨R, ρ, s, M, w, sr, p⟩ := h
  refine ⟨R, ρ, s, M, w, sr, ?_⟩
  rcases q : ea s M with _ | ⟨x | ⟨c, x⟩, M1⟩ <;> rw [q] at p
  · exact p
  · cases x <;> first | exact False.elim p | skip
    intro R1 ρ1 H1 v e1 w1 r1
    cases r1
    exact ⟨_, rfl, p R1 ρ1 H1 e1 w1⟩
  · exact p
theorem qt_cmp {op : CmpOp} {r : R2} {g : Store → Va → Va → Option Va} (ho : OpR X (compareOp op) r) (hs : Op2 G r g) (ha : PE X a (tE G E ea)) (hb : PE X b (tE G E eb)) (hm : behindInMarks op b = false) : PT X (.Compare a [op] [b] pos) (tT G E (ev2 g ea eb)) :=
  pt_imp (pt_cmpR ho ha hb hm) fun σ H Q h => two hs (toT h)
theorem qt_val (ha : PE X a (tE G E ea)) (he : ∀ whole, isTrue a X.env whole = (do let v ← whole; standAt a.pos; holding [v] (truthy v)) := by intro _; rfl) : PT X a (tT G E ea) :=
  pt_imp (pt_val ha he) fun σ H Q h => toT h
def truO (M : Store) : Va → Option Bool
  | .non => some false
  | .bl b => some b
  | .int i => some (i != 0)
  | .str z => if z.length ≤ sizeLine then some ((z.length : Int) != 0) else none
  | .dic l => some (!l.isEmpty)
  | x => (seqOf M x).map fun l => !l.isEmpty
def evTru (a : SE) : SE := ev1 (fun M x => (truO M x).map Va.bl) a
theorem VRs.isEmpty {R : Hp} {ρ : List Addr} : ∀ {l : List Va} {vs : List V}, VRs G R ρ l vs → l.isEmpty = vs.isEmpty
  | _, _, .nil => rfl
  | _, _, .cons _ _ => rfl
theorem VRk.isEmpty {R : Hp} {ρ : List Addr} : ∀ {l : List (Key × Va)} {vs : List (Key × V)}, VRk G R ρ l vs → l.isEmpty = vs.isEmpty
  | _, _, .nil => rfl
  | _, _, .cons _ _ => rfl
theorem tru_of {R : Hp} {ρ : List Addr} {M : Store} {H : Hp} {x : Va} {v : V} {k : Bool} (w : Wd G R ρ M H) (r : VR G R ρ x v) (h : truO M x = some k) : TruV G.K v H k := by
  have sq : ∀ l, seqOf M x = some l → k = !l.isEmpty → TruV G.K v H k := fun l h1 h2 => by
    obtain ⟨a, vs, rfl, q, rv, _⟩ := seq_read w r h1
    rw [rv.isEmpty] at h2
    rcases q with q | q
    · exact .inl ⟨vs, q, h2⟩
    · exact .inr (.inl ⟨vs, q, h2⟩)
  have sq' : (seqOf M x).map (fun l => !l.isEmpty) = some k → TruV G.K v H k := fun h => by
    cases q : seqOf M x with
    | none => rw [q] at h; cases h
    | some l => rw [q] at h; cases h; exact sq l q rfl
  cases r with
  | non => cases h; rfl
  | bl b => cases h; rfl
  | int i => cases h; rfl
  | str z =>
    replace h : (if z.length ≤ sizeLine then some ((z.length : Int) != 0) else none) = some k := h
    by_cases hz : z.length ≤ sizeLine
    · rw [if_pos hz] at h; cases h; exact ⟨hz, rfl⟩
    · rw [if_neg hz] at h; cases h
  | dic e z q => cases h; exact .inr (.inr ⟨_, w.sub _ _ e, by rw [q.isEmpty]⟩)
  | lst e z q => exact sq' h
  | tup e z q => exact sq' h
  | cel e => exact sq' h
  | scr e z => exact sq' h
theorem qt_tru (hK : X.K = G.K) (ha : PE X a (tE G E ea)) (he : ∀ whole, isTrue a X.env whole = (do let v ← whole; standAt a.pos; holding [v] (truthy v)) := by intro _; rfl) : PT X a (tT G E (evTru ea)) :=
  pt_imp (pt_truth ha he) fun σ H Q ⟨R, ρ, s, M, w, sr, p⟩ => by
    replace p : PostT G R ρ H (bindO (ea s M) fun va M1 => match (truO M1 va).map Va.bl with | some r => some (.val r, M1) | none => none) Q E := p
    refine ⟨R, ρ, s, M, w, sr, ?_⟩
    rcases q : ea s M with _ | ⟨x | ⟨c, x⟩, M1⟩ <;> rw [q] at p
    · exact p
    · rw [bindO_val] at p
      intro R1 ρ1 H1 v e1 w1 r1
      cases q2 : truO M1 x with
      | none => rw [q2] at p; exact False.elim p
      | some k =>
        rw [q2] at p
        exact ⟨k, by rw [hK]; exact tru_of w1 r1 q2, p R1 ρ1 H1 e1 w1⟩
    · exact p
theorem stepTT {σ : St} {H : Hp} {R : Hp} {ρ : List Addr} {s : SL} {M : Store} {k : Bool → Store → Res} {Q Q' : Bool → Hp → Prop} (w : Wd G R ρ M H) (sr : SR G R ρ s σ)
    (p : PostT G R ρ H (bindO (ea s M) fun t M1 => match t with | .bl b => k b M1 | _ => none) Q E)
    (hk : ∀ R' ρ' M' H' b, Ext R ρ H R' ρ' H' → Wd G R' ρ' M' H' → SR G R' ρ' s σ → PostT G R' ρ' H' (k b M') Q E → Q' b H') : tT G E ea σ H Q' := by
  refine ⟨R, ρ, s, M, w, sr, ?_⟩
  rcases q : ea s M with _ | ⟨x | ⟨c, x⟩, M1⟩ <;> rw [q] at p
  · exact p
  · cases x <;> first | exact p | skip
    rename_i b
    refine fun R' ρ' H' e w' => hk R' ρ' M1 H' b e w' (sr.mono e.gr) ?_
    replace p : PostT G R ρ H (k b M1) Q E := p
    rcases z : k b M1 with _ | ⟨y | ⟨c, y⟩, M2⟩ <;> rw [z] at p
    · exact p
    · cases y <;> first | exact p | skip
      exact fun R2 ρ2 H2 e2 w2 => p R2 ρ2 H2 (e.trans e2) w2
    · exact PostX.ext e p
  · exact p
theorem and_eq {s : SL} {M : Store} : evAnd ea eb s M = bindO (ea s M) fun t M1 => match t with | .bl b => (fun b M1 => if b = true then eb s M1 else some (.val (.bl false), M1)) b M1 | _ => none := by
  unfold evAnd; congr 1; funext c M1; cases c <;> try rfl
  rename_i b; cases b <;> rfl
theorem or_eq {s : SL} {M : Store} : evOr ea eb s M = bindO (ea s M) fun t M1 => match t with | .bl b => (fun b M1 => if b = true then some (.val (.bl true), M1) else eb s M1) b M1 | _ => none := by
  unfold evOr; congr 1; funext c M1; cases c <;> try rfl
  rename_i b; cases b <;> rfl
theorem if_eq {s : SL} {M : Store} : evIf ec ea eb s M = bindO (ec s M) fun t M1 => match t with | .bl b => (fun b M1 => if b = true then ea s M1 else eb s M1) b M1 | _ => none := by
  unfold evIf; congr 1; funext c M1; cases c <;> try rfl
  rename_i b; cases b <;> rfl
variable {rest : List Expr}
theorem qw_and1 (ha : PT X a (tT G E ea)) : PW X (.BoolOp .And [a] pos) (tT G E ea) := pw_and1 ha
theorem qw_or1 (ha : PT X a (tT G E ea)) : PW X (.BoolOp .Or [a] pos) (tT G E ea) := pw_or1 ha
theorem qw_and (ha : PT X a (tT G E ea)) (hb : PW X (.BoolOp .And (b :: rest) pos) (tT G E eb)) : PW X (.BoolOp .And (a :: b :: rest) pos) (tT G E (evAnd ea eb)) :=
  pw_imp (pw_and ha hb) fun σ H Q ⟨R, ρ, s, M, w, sr, p⟩ => by
    rw [and_eq] at p
    refine stepTT w sr p fun R1 ρ1 M1 H1 b e1 w1 sr1 p1 => ?_
    cases b with
    | true => exact iteT ⟨R1, ρ1, s, M1, w1, sr1, p1⟩
    | false => exact iteF (p1 R1 ρ1 H1 Ext.refl w1)
theorem qw_or (ha : PT X a (tT G E ea)) (hb : PW X (.BoolOp .Or (b :: rest) pos) (tT G E eb)) : PW X (.BoolOp .Or (a :: b :: rest) pos) (tT G E (evOr ea eb)) :=
  pw_imp (pw_or ha hb) fun σ H Q ⟨R, ρ, s, M, w, sr, p⟩ => by
    rw [or_eq] at p
    refine stepTT w sr p fun R1 ρ1 M1 H1 b e1 w1 sr1 p1 => ?_
    cases b with
    | true => exact iteT (p1 R1 ρ1 H1 Ext.refl w1)
    | false => exact iteF ⟨R1, ρ1, s, M1, w1, sr1, p1⟩
theorem qt_pw {e : SE} (h : PW X a (tT G E e)) : PT X a (tT G E e) := h.pt
theorem qt_not (ha : PT X a (tT G E ea)) : PT X (.UnaryOp .Not a pos) (tT G E (evNot ea)) :=
  pt_imp (pt_not ha) fun σ H Q ⟨R, ρ, s, M, w, sr, p⟩ => stepTT (k := fun b M1 => some (.val (.bl (!b)), M1)) w sr p fun R1 ρ1 M1 H1 b e1 w1 sr1 p1 => p1 R1 ρ1 H1 Ext.refl w1
theorem q_if (hc : PT X c (tT G E ec)) (ha : PE X a (tE G E ea)) (hb : PE X b (tE G E eb)) : PE X (.IfExp c a b pos) (tE G E (evIf ec ea eb)) :=
  pe_imp (pe_ifExp hc ha hb) fun σ H Q ⟨R, ρ, s, M, w, sr, p⟩ => by
    rw [if_eq] at p
    refine stepT w sr p fun R1 ρ1 M1 H1 b e1 w1 sr1 p1 => ?_
    cases b with
    | true => exact iteT ⟨R1, ρ1, s, M1, w1, sr1, p1⟩
    | false => exact iteF ⟨R1, ρ1, s, M1, w1, sr1, p1⟩
/-- and, or, not as values (truth values) -/
theorem q_one {op} {e : SE} (h : PE X a (tE G E e)) : PE X (.BoolOp op [a] pos) (tE G E e) := pe_one h
theorem q_and (ha : PE X a (tE G E ea)) (hb : PE X (.BoolOp .And (b :: rest) pos) (tE G E eb)) : PE X (.BoolOp .And (a :: b :: rest) pos) (tE G E (evAnd ea eb)) :=
  pe_imp (pe_and ha hb) fun σ H Q ⟨R, ρ, s, M, w, sr, p⟩ => stepE w sr p fun R1 ρ1 M1 H1 va v e1 w1 sr1 r1 p1 => by
    cases r1 <;> first | exact False.elim p1 | skip
    rename_i b
    refine ⟨b, rfl, ?_⟩
    cases b with
    | true => exact iteT ⟨R1, ρ1, s, M1, w1, sr1, p1⟩
    | false => exact iteF (p1 R1 ρ1 H1 _ Ext.refl w1 (.bl false))
theorem q_or (ha : PE X a (tE G E ea)) (hb : PE X (.BoolOp .Or (b :: rest) pos) (tE G E eb)) : PE X (.BoolOp .Or (a :: b :: rest) pos) (tE G E (evOr ea eb)) :=
  pe_imp (pe_or ha hb) fun σ H Q ⟨R, ρ, s, M, w, sr, p⟩ => stepE w sr p fun R1 ρ1 M1 H1 va v e1 w1 sr1 r1 p1 => by
    cases r1 <;> first | exact False.elim p1 | skip
    rename_i b
    refine ⟨b, rfl, ?_⟩
    cases b with
    | true => exact iteT (p1 R1 ρ1 H1 _ Ext.refl w1 (.bl true))
    | false => exact iteF ⟨R1, ρ1, s, M1, w1, sr1, p1⟩
theorem q_not (ha : PE X a (tE G E ea)) : PE X (.UnaryOp .Not a pos) (tE G E (evNot ea)) :=
  pe_imp (pe_not ha) fun σ H Q ⟨R, ρ, s, M, w, sr, p⟩ => stepE w sr p fun R1 ρ1 M1 H1 va v e1 w1 sr1 r1 p1 => by
    cases r1 <;> first | exact False.elim p1 | skip
    rename_i b
    exact ⟨b, rfl, p1 R1 ρ1 H1 _ Ext.refl w1 (.bl _)⟩
end
end PV

set_option Elab.async false
set_option linter.all false
set_option maxRecDepth 100000
set_option maxHeartbeats 4000000
namespace PV
open PySem L2

/-! ### statements -/
inductive Fl where
  | nx | ret (v : Va) | bk | ct | exc (c : Nat) (v : Va)
abbrev RS := Option (Fl × SL × Store)
abbrev SS := SL → Store → RS
def Nxt (G : Sig) (R : Hp) (ρ : List Addr) (H : Hp) (s : SL) (M : Store) (k : St → Hp → Prop) : Prop :=
  ∀ R' ρ' H' σ', Ext R ρ H R' ρ' H' → Wd G R' ρ' M H' → SR G R' ρ' s σ' → k σ' H'
def PostS (G : Sig) (R : Hp) (ρ : List Addr) (H : Hp) (r : RS) (D : Ends) (E : XK) : Prop := match r with
  | none => False
  | some (.nx, s, M) => Nxt G R ρ H s M D.nx
  | some (.ret x, _, M) => Gives G R ρ H M x D.rt
  | some (.bk, s, M) => Nxt G R ρ H s M D.bk
  | some (.ct, s, M) => Nxt G R ρ H s M D.ct
  | some (.exc c x, _, M) => PostX G R ρ H M E c x
def tS (G : Sig) (E : XK) (es : SS) : TS := fun D σ H => ∃ R ρ s M, Wd G R ρ M H ∧ SR G R ρ s σ ∧ PostS G R ρ H (es s M) D E
section
variable {G : Sig} {E : XK} {σ : St} {H H' : Hp} {R R' : Hp} {ρ ρ' : List Addr} {s : SL} {M : Store} {D : Ends}
theorem Nxt.ext {k : St → Hp → Prop} (e : Ext R ρ H R' ρ' H') (p : Nxt G R ρ H s M k) : Nxt G R' ρ' H' s M k := fun R2 ρ2 H2 σ2 e2 w r => p R2 ρ2 H2 σ2 (e.trans e2) w r
theorem PostS.ext {r : RS} (e : Ext R ρ H R' ρ' H') (p : PostS G R ρ H r D E) : PostS G R' ρ' H' r D E := by
  rcases r with _ | ⟨_ | x | _ | _ | ⟨c, x⟩, s, M⟩
  · exact p
  · exact Nxt.ext e p
  · exact Gives.ext e p
  · exact Nxt.ext e p
  · exact Nxt.ext e p
  · exact PostX.ext e p
theorem nxt_now {k : St → Hp → Prop} (w : Wd G R ρ M H) (sr : SR G R ρ s σ) (p : Nxt G R ρ H s M k) : k σ H := p R ρ H σ Ext.refl w sr
end
/-- first an expression -/
def sE (e : SE) (k : Va → SS) : SS := fun s M => match e s M with
  | none => none
  | some (.val v, M1) => k v s M1
  | some (.exc c v, M1) => some (.exc c v, s, M1)
def sNx : SS := fun s M => some (.nx, s, M)
def sBk : SS := fun s M => some (.bk, s, M)
def sCt : SS := fun s M => some (.ct, s, M)
def sNever : SS := fun _ _ => none
def sRetN : SS := fun s M => some (.ret .non, s, M)
def sRet (e : SE) : SS := sE e fun v s M => some (.ret v, s, M)
def sSet (i : Nat) (e : SE) : SS := sE e fun v s M => some (.nx, s.set i (some v), M)
def sDrop (e : SE) : SS := sE e fun _ s M => some (.nx, s, M)
def sIf (t : SE) (a b : SS) : SS := sE t fun v s M => match v with
  | .bl true => a s M
  | .bl false => b s M
  | _ => none
def sSeq (a b : SS) : SS := fun s M => match a s M with
  | some (.nx, s1, M1) => b s1 M1
  | r => r
/-- an operation in place, a value into a target: what they do to the store -/
abbrev Tgt := Va → SL → Store → Option SL
def tgName (i : Nat) : Tgt := fun v s _ => some (s.set i (some v))
def tgAll : List Tgt → List Va → SL → Store → Option SL
  | [], [], s, _ => some s
  | t :: ts, v :: vs, s, M => match t v s M with
    | some s1 => tgAll ts vs s1 M
    | none => none
  | _, _, _, _ => none
def tgTup (ts : List Tgt) : Tgt := fun v s M => match tupOf v with
  | some l => tgAll ts l s M
  | none => none
def sAsg (e : SE) (t : Tgt) : SS := sE e fun v s M => match t v s M with
  | some s1 => some (.nx, s1, M)
  | none => none
/-- o[i] = e -/
def sSub (e eo ei : SE) (g : Va → Va → Va → Store → Option Store) : SS := sE e fun v s M => sE eo (fun o s M => sE ei (fun i s M => match g o i v M with
  | some M1 => some (.nx, s, M1)
  | none => none) s M) s M
/-- o.f = e -/
def putA (f : Str) (v : Va) : List (Str × Va) → List (Str × Va)
  | [] => [(f, v)]
  | (g, u) :: r => if g = f then (g, v) :: r else (g, u) :: putA f v r

section
variable {G : Sig} {E : XK} {σ : St} {H : Hp} {R : Hp} {ρ : List Addr} {s : SL} {M : Store} {D : Ends}
theorem stepS {ea : SE} {k : Va → SS} {Q' : VK} (w : Wd G R ρ M H) (sr : SR G R ρ s σ) (p : PostS G R ρ H (sE ea k s M) D E)
    (hk : ∀ R' ρ' M' H' va v, Ext R ρ H R' ρ' H' → Wd G R' ρ' M' H' → SR G R' ρ' s σ → VR G R' ρ' va v → PostS G R' ρ' H' (k va s M') D E → Q' v H') : tE G E ea σ H Q' := by
  refine ⟨R, ρ, s, M, w, sr, ?_⟩
  unfold sE at p
  rcases q : ea s M with _ | ⟨x | ⟨c, x⟩, M1⟩ <;> rw [q] at p
  · exact p
  · exact fun R' ρ' H' v e w' r => hk R' ρ' M1 H' x v e w' (sr.mono e.gr) r (p.ext e)
  · exact p
theorem stepST {ea : SE} {k : Bool → SS} {Q' : Bool → Hp → Prop} (w : Wd G R ρ M H) (sr : SR G R ρ s σ) (p : PostS G R ρ H (sE ea (fun v s M => match v with | .bl b => k b s M | _ => none) s M) D E)
    (hk : ∀ R' ρ' M' H' b, Ext R ρ H R' ρ' H' → Wd G R' ρ' M' H' → SR G R' ρ' s σ → PostS G R' ρ' H' (k b s M') D E → Q' b H') : tT G E ea σ H Q' := by
  refine ⟨R, ρ, s, M, w, sr, ?_⟩
  unfold sE at p
  rcases q : ea s M with _ | ⟨x | ⟨c, x⟩, M1⟩ <;> rw [q] at p
  · exact p
  · cases x <;> first | exact p | skip
    exact fun R' ρ' H' e w' => hk R' ρ' M1 H' _ e w' (sr.mono e.gr) (PostS.ext e p)
  · exact p
end

section
variable {X : Cx} {G : Sig} {E : XK} {a b c : Expr} {es : List Expr} {st : Stmt} {sts : List Stmt} {ea eb ec : SE} {sa sb : SS} {pos : Pos}
theorem qss_nil : PSs X [] (tS G E sNx) := pss_imp pss_nil fun D σ H ⟨R, ρ, s, M, w, sr, p⟩ => nxt_now w sr p
theorem qss_one (h : PS X st (tS G E sa)) : PSs X [st] (tS G E sa) := pss_one h
theorem qss_cons (h1 : PS X st (tS G E sa)) (h2 : PSs X sts (tS G E sb)) : PSs X (st :: sts) (tS G E (sSeq sa sb)) :=
  pss_imp (pss_cons h1 h2) fun D σ H ⟨R, ρ, s, M, w, sr, p⟩ => by
    refine ⟨R, ρ, s, M, w, sr, ?_⟩
    unfold sSeq at p
    rcases q : sa s M with _ | ⟨_ | x | _ | _ | ⟨c, x⟩, s1, M1⟩ <;> rw [q] at p
    · exact p
    · exact fun R1 ρ1 H1 σ1 e1 w1 r1 => ⟨R1, ρ1, s1, M1, w1, r1, PostS.ext e1 p⟩
    · exact p
    · exact p
    · exact p
    · exact p
theorem qs_pass : PS X (.Pass pos) (tS G E sNx) := ps_imp ps_pass fun D σ H ⟨R, ρ, s, M, w, sr, p⟩ => nxt_now w sr p
theorem qs_break : PS X (.Break pos) (tS G E sBk) := ps_imp ps_break fun D σ H ⟨R, ρ, s, M, w, sr, p⟩ => nxt_now w sr p
theorem qs_continue : PS X (.Continue pos) (tS G E sCt) := ps_imp ps_continue fun D σ H ⟨R, ρ, s, M, w, sr, p⟩ => nxt_now w sr p
theorem qs_doc {x j pos'} : PS X (.Expr (.Constant (.str x) j pos) pos') (tS G E sNx) := ps_imp ps_doc fun D σ H ⟨R, ρ, s, M, w, sr, p⟩ => nxt_now w sr p
theorem qs_never : PS X st (tS G E sNever) := ps_imp ps_never fun D σ H ⟨R, ρ, s, M, w, sr, p⟩ => p
theorem qs_ret (ha : PE X a (tE G E ea)) : PS X (.Return (some a) pos) (tS G E (sRet ea)) :=
  ps_imp (ps_ret ha) fun D σ H ⟨R, ρ, s, M, w, sr, p⟩ => stepS (Q' := D.rt) w sr p fun R1 ρ1 M1 H1 va v e1 w1 sr1 r1 p1 => gives_now w1 r1 p1
theorem qs_retN : PS X (.Return none pos) (tS G E sRetN) := ps_imp ps_retN fun D σ H ⟨R, ρ, s, M, w, sr, p⟩ => gives_now w .non p
theorem qs_expr (ha : PE X a (tE G E ea)) (hs : swapsWith a none pos.line X.env = pure false := by rfl) : PS X (.Expr a pos) (tS G E (sDrop ea)) :=
  ps_imp (ps_expr ha hs) fun D σ H ⟨R, ρ, s, M, w, sr, p⟩ => stepS w sr p fun R1 ρ1 M1 H1 va v e1 w1 sr1 r1 p1 => nxt_now w1 sr1 p1
theorem qs_set {i : Nat} {x : Str} {pos' : Pos} (hN : X.N.Nodup) (hi : X.N[i]? = some x) (hx : Loc X.env.scope x) (he : PE X a (tE G E ea)) (hs : swapsWith a (some (.Name x pos')) pos.line X.env = pure false := by rfl)
    (hf : X.fn x = true ∨ X.env.scope.names.lookup x = some .local := by first | exact .inl rfl | exact .inr rfl | assumption) : PS X (.Assign [.Name x pos'] a pos) (tS G E (sSet i ea)) :=
  ps_imp (ps_set hN hi hx he hs hf) fun D σ H ⟨R, ρ, s, M, w, sr, p⟩ => stepS w sr p fun R1 ρ1 M1 H1 va v e1 w1 sr1 r1 p1 => nxt_now w1 (sr1.set i r1) p1
theorem qs_if {xs ys : List Stmt} (hc : PT X c (tT G E ec)) (ha : PSs X xs (tS G E sa)) (hb : PSs X ys (tS G E sb)) : PS X (.If c xs ys pos) (tS G E (sIf ec sa sb)) :=
  ps_imp (ps_if hc ha hb) fun D σ H ⟨R, ρ, s, M, w, sr, p⟩ => by
    have e0 : sIf ec sa sb = sE ec fun v s M => match v with | .bl b => (fun b s M => if b = true then sa s M else sb s M) b s M | _ => none := by
      unfold sIf
      congr 1
      funext v s M
      cases v <;> try rfl
      rename_i b
      cases b <;> rfl
    rw [e0] at p
    refine stepST w sr p fun R1 ρ1 M1 H1 b e1 w1 sr1 p1 => ?_
    cases b with
    | true => exact iteT ⟨R1, ρ1, s, M1, w1, sr1, p1⟩
    | false => exact iteF ⟨R1, ρ1, s, M1, w1, sr1, p1⟩

/-! #### targets -/
/-- what a target does; ix: the slots that it may change -/
def TgSim (G : Sig) (g : TG) (t : Tgt) (ix : List Nat) : Prop := ∀ R ρ M H s s' σ va v (k : St → Hp → Prop), Wd G R ρ M H → SR G R ρ s σ → VR G R ρ va v → t va s M = some s' →
  (∀ σ', SR G R ρ s' σ' → σ'.length = σ.length → (∀ j, j ∉ ix → σ'[j]? = σ[j]?) → k σ' H) → g v σ H k
def TgSims (G : Sig) (g : TGs) (t : List Tgt) (ix : List Nat) : Prop := ∀ R ρ M H s s' σ l vs (k : St → Hp → Prop), Wd G R ρ M H → SR G R ρ s σ → VRs G R ρ l vs → tgAll t l s M = some s' →
  (∀ σ', SR G R ρ s' σ' → σ'.length = σ.length → (∀ j, j ∉ ix → σ'[j]? = σ[j]?) → k σ' H) → g vs σ H k
structure QG (X : Cx) (G : Sig) (tg : Expr) (g : TG) (t : Tgt) (ix : List Nat) : Prop where
  pg : PG X tg g
  sim : TgSim G g t ix
structure QGs (X : Cx) (G : Sig) (tg : List Expr) (g : TGs) (t : List Tgt) (ix : List Nat) : Prop where
  pg : PGs X tg g
  sim : TgSims G g t ix
theorem qg_name {i : Nat} {x : Str} (hN : X.N.Nodup) (hi : X.N[i]? = some x) (hx : Loc X.env.scope x) (hf : X.fn x = true ∨ X.env.scope.names.lookup x = some .local := by first | exact .inl rfl | exact .inr rfl | assumption) : QG X G (.Name x pos) (gName i) (tgName i) [i] :=
  ⟨pg_name hN hi hx hf, fun R ρ M H s s' σ va v k w sr r h q => by
    cases h
    refine q _ (sr.set i r) (by simp) fun j hj => ?_
    rw [List.getElem?_set_ne]
    rintro rfl
    exact hj (by simp)⟩
theorem qgs_nil : QGs X G [] gNil [] [] :=
  ⟨pgs_nil, fun R ρ M H s s' σ l vs k w sr r h q => by
    cases r with
    | nil => cases h; exact ⟨rfl, q σ sr rfl fun _ _ => rfl⟩
    | cons _ _ => cases h⟩
theorem qgs_cons {t : Tgt} {ts : List Tgt} {g1 : TG} {g2 : TGs} {ix ixs : List Nat} (h1 : QG X G a g1 t ix) (h2 : QGs X G es g2 ts ixs) (hs : (assignEach (a :: es) X.env).map (·.2) = assign a X.env :: (assignEach es X.env).map (·.2) := by rfl) : QGs X G (a :: es) (gCons g1 g2) (t :: ts) (ix ++ ixs) := by
  obtain ⟨p1, s1⟩ := h1
  obtain ⟨p2, s2⟩ := h2
  refine ⟨pgs_cons p1 p2 hs, fun R ρ M H s s' σ l vs k w sr r h q => ?_⟩
  cases r with
  | nil => cases h
  | cons r rs =>
    rename_i x v l vs
    unfold tgAll at h
    cases e : t x s M with
    | none => rw [e] at h; cases h
    | some s2' =>
      rw [e] at h
      refine ⟨v, vs, rfl, s1 R ρ M H s s2' σ x v _ w sr r e fun σ1 sr1 l1 k1 => ?_⟩
      refine s2 R ρ M H s2' s' σ1 l vs _ w sr1 rs h fun σ2 sr2 l2 k2 => ?_
      refine q σ2 sr2 (l2.trans l1) fun j hj => ?_
      rw [List.mem_append, not_or] at hj
      exact (k2 j hj.2).trans (k1 j hj.1)
theorem qg_tup {ts : List Tgt} {g : TGs} {ix : List Nat} {k : Nat} {n : Nat} (hc : X.calm = true) (h : QGs X G es g ts ix) (hl : ts.length = n := by rfl) (hn : (assignEach es X.env).length = n := by rfl) (hst : (assignEach es X.env).findIdx? (·.1) = none := by rfl) : QG X G (.Tuple es k pos) (gTup X.K n g) (tgTup ts) ix := by
  obtain ⟨p, sm⟩ := h
  refine ⟨pg_tup hc p hn hst, fun R ρ M H s s' σ va v k w sr r h q => ?_⟩
  have hlen : ∀ (ts : List Tgt) (l : List Va) (s : SL) (s' : SL), tgAll ts l s M = some s' → l.length = ts.length := by
    intro ts
    induction ts with
    | nil =>
      intro l s s' h
      cases l with
      | nil => rfl
      | cons _ _ => cases h
    | cons t ts ih =>
      intro l s s' h
      cases l with
      | nil => cases h
      | cons x l =>
        unfold tgAll at h
        cases e : t x s M with
        | none => rw [e] at h; cases h
        | some s1 => rw [e] at h; simp [ih l s1 s' h]
  unfold tgTup at h
  cases e : tupOf va with
  | none => rw [e] at h; cases h
  | some l =>
    rw [e] at h
    obtain ⟨a, vs, rfl, ha, rv, _⟩ := tup_read w r e
    exact ⟨a, vs, rfl, .of ha, by rw [← rv.length, hlen ts l s s' h, hl], sm R ρ M H s s' σ l vs k w sr rv h q⟩
theorem qs_asg {t : Tgt} {g : TG} {ix : List Nat} (he : PE X a (tE G E ea)) (hg : QG X G b g t ix) (hs : swapsWithSole [b] a pos.line X.env = pure false := by rfl) (hw : swappedStores [b] a X.env = pure none := by rfl)
    (h1 : (assignEach [b] X.env).map (·.2) = [assign b X.env] := by rfl) : PS X (.Assign [b] a pos) (tS G E (sAsg ea t)) := by
  obtain ⟨pg, sm⟩ := hg
  refine ps_imp (ps_asg he pg hs hw h1) fun D σ H ⟨R, ρ, s, M, w, sr, p⟩ => stepS w sr p fun R1 ρ1 M1 H1 va v e1 w1 sr1 r1 p1 => ?_
  cases q : t va s M1 with
  | none => rw [q] at p1; exact False.elim p1
  | some s1 => rw [q] at p1; exact sm R1 ρ1 M1 H1 s s1 σ va v _ w1 sr1 r1 q fun σ' sr' _ _ => nxt_now w1 sr' p1
/-- o[i] = v -/
def SubSim (G : Sig) (t : TSet) (g : Va → Va → Va → Store → Option Store) : Prop := ∀ R ρ M M' H o i x vo vi v (k : Hp → Prop), Wd G R ρ M H → VR G R ρ vo o → VR G R ρ vi i → VR G R ρ v x → g vo vi v M = some M' →
  (∀ H', Ext R ρ H R ρ H' → Wd G R ρ M' H' → k H') → t o i x H k
theorem qs_sub {t : TSet} {g : Va → Va → Va → Store → Option Store} {p2 : Pos} (hs : PSet X t) (sm : SubSim G t g) (he : PE X a (tE G E ea)) (ho : PE X b (tE G E eb)) (hi : PE X c (tE G E ec))
    (ha : ∀ v, assign (.Subscript b c p2) X.env v = (do
      let ov ← holding [v] (eval b X.env)
      let iv ← holding [v, ov] (eval c X.env)
      standAt p2
      holding [v, ov, iv] (setItem ov iv v)
      release [v, ov, iv] []) := by intro _; rfl)
    (hs1 : swapsWithSole [.Subscript b c p2] a pos.line X.env = pure false := by rfl) (hw : swappedStores [.Subscript b c p2] a X.env = pure none := by rfl)
    (h1 : (assignEach [.Subscript b c p2] X.env).map (·.2) = [assign (.Subscript b c p2) X.env] := by rfl) : PS X (.Assign [.Subscript b c p2] a pos) (tS G E (sSub ea eb ec g)) :=
  ps_imp (ps_asg he (pg_sub ho hi hs ha) hs1 hw h1) fun D σ H ⟨R, ρ, s, M, w, sr, p⟩ => stepS w sr p fun R1 ρ1 M1 H1 va v e1 w1 sr1 r1 p1 =>
    stepS w1 sr1 p1 fun R2 ρ2 M2 H2 vo o e2 w2 sr2 r2 p2 => stepS w2 sr2 p2 fun R3 ρ3 M3 H3 vi i e3 w3 sr3 r3 p3 => by
      cases q : g vo vi va M3 with
      | none => rw [q] at p3; exact False.elim p3
      | some M4 =>
        rw [q] at p3
        exact sm R3 ρ3 M3 M4 H3 o i v vo vi va _ w3 (r2.mono e3.gr) r3 (r1.mono (e2.trans e3).gr) q fun H' e4 w4 => nxt_now w4 sr3 (Nxt.ext e4 p3)
end

/-! ### what is walked -/
inductive OutI where
  | it (l : List Va) (chk : Store → Prop) | exc (c : Nat) (v : Va)
abbrev SI := SL → Store → Option (OutI × Store)
def ItSim (G : Sig) (R0 : Hp) (ρ0 : List Addr) (J : It) (l : List Va) (chk : Store → Prop) : Prop := ∀ R ρ M H, Gr R0 ρ0 R ρ → Wd G R ρ M H → chk M →
  (∀ (i : Nat) (x : Va), l[i]? = some x → J.go i H ∧ ∀ v H', J.yld i H v H' → ∃ R', Ext R ρ H R' ρ H' ∧ Wd G R' ρ M H' ∧ VR G R' ρ x v) ∧ ∀ i : Nat, l.length ≤ i → J.stop i H
def PostI (G : Sig) (R : Hp) (ρ : List Addr) (H : Hp) (r : Option (OutI × Store)) (k : It → Hp → Prop) (E : XK) : Prop := match r with
  | none => False
  | some (.it l chk, M) => ∀ R' ρ' H' J, Ext R ρ H R' ρ' H' → Wd G R' ρ' M H' → l.length ≤ sizeLine → ItSim G R' ρ' J l chk → k J H'
  | some (.exc c x, M) => PostX G R ρ H M E c x
def tI (G : Sig) (E : XK) (src : SI) : TI := fun σ H k => ∃ R ρ s M, Wd G R ρ M H ∧ SR G R ρ s σ ∧ PostI G R ρ H (src s M) k E
noncomputable section
open Classical
def loopF (chk : Store → Prop) (tg : Tgt) (body : SS) : List Va → SS
  | [], s, M => if chk M then some (.nx, s, M) else none
  | x :: xs, s, M => if chk M then (match tg x s M with
    | none => none
    | some s1 => match body s1 M with
      | some (.nx, s2, M2) => loopF chk tg body xs s2 M2
      | some (.ct, s2, M2) => loopF chk tg body xs s2 M2
      | some (.bk, s2, M2) => some (.nx, s2, M2)
      | r => r) else none
def sFor (src : SI) (tg : Tgt) (body : SS) : SS := fun s M => match src s M with
  | none => none
  | some (.it l chk, M1) => loopF chk tg body l s M1
  | some (.exc c v, M1) => some (.exc c v, s, M1)
def wipeI (s : SL) : List Nat → SL
  | [] => s
  | v :: vs => (wipeI s vs).set v none
def compL (chk : Store → Prop) (tg : Tgt) (tt te : SE) (sw : SL) : List Va → Store → Option (List Va × Store)
  | [], M => if chk M then some ([], M) else none
  | x :: xs, M => if chk M then (match tg x sw M with
    | none => none
    | some s1 => match tt s1 M with
      | some (.val (.bl true), M1) => (match te s1 M1 with
        | some (.val y, M2) => (match compL chk tg tt te sw xs M2 with
          | some (ys, M3) => some (y :: ys, M3)
          | none => none)
        | _ => none)
      | some (.val (.bl false), M1) => compL chk tg tt te sw xs M1
      | _ => none) else none
def evLc (src : SI) (tg : Tgt) (tt te : SE) (vs : List Nat) : SE := fun s M => match src s M with
  | none => none
  | some (.it l chk, M1) => (match compL chk tg tt te (wipeI s vs) l M1 with
    | some (ys, M2) => some (.val (.lst ys), M2)
    | none => none)
  | some (.exc c v, M1) => some (.exc c v, M1)
/-- the new list as one that will change -/
def evLcC (src : SI) (tg : Tgt) (tt te : SE) (vs : List Nat) : SE := fun s M => match src s M with
  | none => none
  | some (.it l chk, M1) => (match compL chk tg tt te (wipeI s vs) l M1 with
    | some (ys, M2) => some (.val (.cel M2.nx), M2.new (.lst ys))
    | none => none)
  | some (.exc c v, M1) => some (.exc c v, M1)
end
def evYes : SE := fun _ M => some (.val (.bl true), M)
/-- over a list, a tuple as it stands -/
def itL (e : SE) : SI := fun s M => match e s M with
  | none => none
  | some (.val v, M1) => (match lstOf M1 v with
    | some l => some (.it l (fun M => lstOf M v = some l), M1)
    | none => none)
  | some (.exc c v, M1) => some (.exc c v, M1)
def itT (e : SE) : SI := fun s M => match e s M with
  | none => none
  | some (.val v, M1) => (match tupOf v with
    | some l => some (.it l (fun _ => True), M1)
    | none => none)
  | some (.exc c v, M1) => some (.exc c v, M1)
def itR1 (e : SE) : SI := fun s M => match e s M with
  | some (.val (.tup [.int n]), M1) => if n ≤ 100000 ∧ -(2 ^ 62) ≤ n then some (.it ((List.range n.toNat).map fun (i : Nat) => Va.int i) (fun _ => True), M1) else none
  | some (.exc c v, M1) => some (.exc c v, M1)
  | _ => none
def itR2 (e : SE) : SI := fun s M => match e s M with
  | some (.val (.tup [.int lo, .int n]), M1) => if n - lo ≤ 100000 ∧ -(2 ^ 62) ≤ lo ∧ lo < 2 ^ 62 ∧ -(2 ^ 62) ≤ n ∧ n < 2 ^ 62 then some (.it ((List.range (n - lo).toNat).map fun (i : Nat) => Va.int (lo + i)) (fun _ => True), M1) else none
  | some (.exc c v, M1) => some (.exc c v, M1)
  | _ => none
def itS (e : SE) : SI := fun s M => match e s M with
  | some (.val (.str z), M1) => if z.length ≤ sizeLine then some (.it (z.cps.toList.map fun c => Va.str ⟨#[c]⟩) (fun _ => True), M1) else none
  | some (.exc c v, M1) => some (.exc c v, M1)
  | _ => none

section
variable {X : Cx} {G : Sig} {E : XK} {a b c tg : Expr} {es : List Expr} {ea eb ec : SE} {pos : Pos}
theorem qi_list (hK : X.K = G.K) (ha : PE X a (tE G E ea)) : PI X tg a (tI G E (itL ea)) :=
  pi_imp (pi_list ha) fun σ H Q ⟨R, ρ, s, M, w, sr, p⟩ => by
    refine ⟨R, ρ, s, M, w, sr, ?_⟩
    unfold itL at p
    rcases q : ea s M with _ | ⟨x | ⟨c, x⟩, M1⟩ <;> rw [q] at p
    · exact p
    · intro R1 ρ1 H1 v e1 w1 r1
      dsimp only at p
      cases q2 : lstOf M1 x with
      | none => rw [q2] at p; exact False.elim p
      | some l =>
        rw [q2] at p
        obtain ⟨ad, vs, rfl, hv, rv, hz⟩ := lst_read w1 r1 q2
        refine ⟨ad, rfl, ⟨vs, by rw [hK]; exact hv⟩, p R1 ρ1 H1 (Itl X.K ad) e1 w1 hz fun R2 ρ2 M2 H2 g2 w2 ck => ?_⟩
        obtain ⟨ad', vs', e', hv', rv', _⟩ := lst_read w2 (r1.mono g2) ck
        cases e'
        rw [hK]
        refine ⟨fun i y hy => ?_, fun i hi => ⟨vs', hv', by rw [← rv'.length]; exact hi⟩⟩
        obtain ⟨u, hu, ru⟩ := rv'.get hy
        refine ⟨⟨vs', u, hv', hu⟩, fun v H' ⟨e3, h3⟩ => ?_⟩
        subst e3
        have := h3 vs' hv'
        rw [hu] at this
        cases this
        exact ⟨R2, Ext.refl, w2, ru⟩
    · exact p
theorem qi_tup (hK : X.K = G.K) (ha : PE X a (tE G E ea)) : PI X tg a (tI G E (itT ea)) :=
  pi_imp (pi_tup ha) fun σ H Q ⟨R, ρ, s, M, w, sr, p⟩ => by
    refine ⟨R, ρ, s, M, w, sr, ?_⟩
    unfold itT at p
    rcases q : ea s M with _ | ⟨x | ⟨c, x⟩, M1⟩ <;> rw [q] at p
    · exact p
    · intro R1 ρ1 H1 v e1 w1 r1
      dsimp only at p
      cases q2 : tupOf x with
      | none => rw [q2] at p; exact False.elim p
      | some l =>
        rw [q2] at p
        obtain ⟨ad, vs, rfl, hv, rv, hz⟩ := tup_read w1 r1 q2
        refine ⟨ad, rfl, ⟨vs, .of hv⟩, p R1 ρ1 H1 (Itt X.K ad) e1 w1 hz fun R2 ρ2 M2 H2 g2 w2 ck => ?_⟩
        obtain ⟨ad', vs', e', hv', rv', _⟩ := tup_read w2 (r1.mono g2) q2
        cases e'
        refine ⟨fun i y hy => ?_, fun i hi => ⟨vs', .of hv', by rw [← rv'.length]; exact hi⟩⟩
        obtain ⟨u, hu, ru⟩ := rv'.get hy
        refine ⟨⟨vs', u, .of hv', hu⟩, fun v H' ⟨e3, h3⟩ => ?_⟩
        subst e3
        have := h3 vs' (.of hv')
        rw [hu] at this
        cases this
        exact ⟨R2, Ext.refl, w2, ru⟩
    · exact p
theorem rng_sim {R ρ} {lo : Int} {n : Nat} : ItSim G R ρ (Itr lo n) ((List.range n).map fun (i : Nat) => Va.int (lo + i)) (fun _ => True) := fun R2 ρ2 M2 H2 g2 w2 _ => by
  refine ⟨fun i x hx => ?_, fun i hi => by show n ≤ i; simpa using hi⟩
  rw [List.getElem?_map] at hx
  by_cases hi : i < n
  · rw [List.getElem?_range hi] at hx
    cases hx
    refine ⟨hi, fun v H' ⟨e3, h3⟩ => ?_⟩
    subst e3 h3
    exact ⟨R2, Ext.refl, w2, .int _⟩
  · rw [List.getElem?_eq_none (by simpa using hi)] at hx
    cases hx
theorem line100 : (100000 : Nat) ≤ sizeLine := by decide
theorem qi_range1 {p' : Pos} (hg : Gl X "range") (hm : X.mg "range" = none) (ha : PA X [a] (tA G E ea)) (hs : starEach [a] X.env = [(false, eval a X.env)] := by rfl) : PI X tg (.Call (.Name "range" p') [a] [] pos) (tI G E (itR1 ea)) :=
  pi_imp (pi_range1 hg hm ha hs) fun σ H Q ⟨R, ρ, s, M, w, sr, p⟩ => by
    refine ⟨R, ρ, s, M, w, sr, ?_⟩
    unfold itR1 at p
    rcases q : ea s M with _ | ⟨x | ⟨c, x⟩, M1⟩ <;> rw [q] at p
    · exact p
    · cases x <;> first | exact False.elim p | skip
      rename_i l
      intro R1 ρ1 H1 vs e1 w1 r1
      cases r1 with
      | nil => exact False.elim p
      | cons r1 rs =>
        cases rs with
        | cons _ _ => cases r1 <;> exact False.elim p
        | nil =>
          cases r1 <;> first | exact False.elim p | skip
          rename_i n
          dsimp only at p
          by_cases hz : n ≤ 100000 ∧ -(2 ^ 62) ≤ n
          · rw [if_pos hz] at p
            refine ⟨n, rfl, hz.2, by omega, ?_⟩
            have e0 : ((List.range n.toNat).map fun (i : Nat) => Va.int i) = (List.range n.toNat).map fun (i : Nat) => Va.int (0 + i) := by simp
            rw [e0] at p
            exact p R1 ρ1 H1 _ e1 w1 (by simp; have := line100; omega) rng_sim
          · rw [if_neg hz] at p; exact False.elim p
    · exact p
theorem qi_range2 {p' : Pos} (hg : Gl X "range") (hm : X.mg "range" = none) (ha : PA X [a, b] (tA G E ea)) (hs : starEach [a, b] X.env = [(false, eval a X.env), (false, eval b X.env)] := by rfl) (hs2 : starEach [b] X.env = [(false, eval b X.env)] := by rfl) : PI X tg (.Call (.Name "range" p') [a, b] [] pos) (tI G E (itR2 ea)) :=
  pi_imp (pi_range2 hg hm ha hs hs2) fun σ H Q ⟨R, ρ, s, M, w, sr, p⟩ => by
    refine ⟨R, ρ, s, M, w, sr, ?_⟩
    unfold itR2 at p
    rcases q : ea s M with _ | ⟨x | ⟨c, x⟩, M1⟩ <;> rw [q] at p
    · exact p
    · cases x <;> first | exact False.elim p | skip
      rename_i l
      intro R1 ρ1 H1 vs e1 w1 r1
      cases r1 with
      | nil => exact False.elim p
      | cons r1 rs =>
        cases rs with
        | nil => cases r1 <;> exact False.elim p
        | cons r2 rs =>
          cases rs with
          | cons _ _ => cases r1 <;> cases r2 <;> exact False.elim p
          | nil =>
            cases r1 <;> first | exact False.elim p | skip
            cases r2 <;> first | exact False.elim p | skip
            rename_i lo n
            dsimp only at p
            by_cases hz : n - lo ≤ 100000 ∧ -(2 ^ 62) ≤ lo ∧ lo < 2 ^ 62 ∧ -(2 ^ 62) ≤ n ∧ n < 2 ^ 62
            · rw [if_pos hz] at p
              exact ⟨lo, n, rfl, hz.2, p R1 ρ1 H1 _ e1 w1 (by simp; have := line100; omega) rng_sim⟩
            · rw [if_neg hz] at p; exact False.elim p
    · exact p
end

/-! ### for -/
section
variable {X : Cx} {G : Sig} {E : XK} {a b c tg : Expr} {es : List Expr} {ea eb ec : SE} {sb : SS} {pos : Pos}
theorem qs_for {iter : Expr} {body : List Stmt} {src : SI} {t : Tgt} {g : TG} {ix : List Nat} (hp : PassesOwn (model X.prog X.w) X.A X.env X.xe) (hc : X.calm = true) (hi : PI X tg iter (tI G E src)) (hg : QG X G tg g t ix) (hb : PSs X body (tS G E sb))
    (hs : ∀ x, foldedSetIterable iter X.env x = pure x := by intro _; rfl) : PS X (.For tg iter body [] pos) (tS G E (sFor src t sb)) := by
  obtain ⟨pg, sm⟩ := hg
  refine ps_imp (ps_for hp hc hi pg hb hs) fun D σ H ⟨R, ρ, s, M, w, sr, p⟩ => ?_
  refine ⟨R, ρ, s, M, w, sr, ?_⟩
  unfold sFor at p
  rcases q : src s M with _ | ⟨⟨l, chk⟩ | ⟨c, x⟩, M1⟩ <;> rw [q] at p
  · exact p
  · intro R1 ρ1 H1 J e1 w1 hz js
    refine ⟨fun i m σ' H' => ∃ R' ρ' s' M', m = l.length - i ∧ i ≤ l.length ∧ Gr R1 ρ1 R' ρ' ∧ Wd G R' ρ' M' H' ∧ SR G R' ρ' s' σ' ∧ PostS G R' ρ' H' (loopF chk t sb (l.drop i) s' M') D E,
      ⟨l.length, R1, ρ1, s, M1, rfl, Nat.zero_le _, Gr.refl, w1, sr.mono e1.gr, PostS.ext e1 p⟩, ?_⟩
    rintro i m σ' H' ⟨R', ρ', s', M', rfl, hi, g', w', sr', p'⟩
    by_cases hlt : i < l.length
    · have ed : l.drop i = l[i] :: l.drop (i + 1) := List.drop_eq_getElem_cons hlt
      rw [ed] at p'
      unfold loopF at p'
      by_cases ck : chk M'
      · rw [if_pos ck] at p'
        obtain ⟨go, _⟩ := js R' ρ' M' H' g' w' ck
        obtain ⟨go, yld⟩ := go i l[i] (by simp [hlt])
        refine .inr ⟨go, fun σ2 H2 => ∃ R2 ρ2 s2 M2, Gr R1 ρ1 R2 ρ2 ∧ Wd G R2 ρ2 M2 H2 ∧ SR G R2 ρ2 s2 σ2 ∧ PostS G R2 ρ2 H2 (loopF chk t sb (l.drop (i + 1)) s2 M2) D E,
          fun σ2 H2 ⟨R2, ρ2, s2, M2, g2, w2, sr2, p2⟩ => ⟨l.length - (i + 1), by omega, R2, ρ2, s2, M2, rfl, hlt, g2, w2, sr2, p2⟩, fun v H2 hy => ?_⟩
        obtain ⟨R2, e2, w2, r2⟩ := yld v H2 hy
        cases q3 : t l[i] s' M' with
        | none => rw [q3] at p'; exact False.elim p'
        | some s3 =>
          rw [q3] at p'
          refine sm R2 ρ' M' H2 s' s3 σ' l[i] v _ w2 (sr'.mono e2.gr) r2 q3 fun σ3 sr3 _ _ => ?_
          refine ⟨R2, ρ', s3, M', w2, sr3, ?_⟩
          dsimp only at p'
          rcases q4 : sb s3 M' with _ | ⟨_ | x | _ | _ | ⟨c, x⟩, s4, M4⟩ <;> rw [q4] at p'
          · exact p'
          · exact fun R5 ρ5 H5 σ5 e5 w5 sr5 => ⟨R5, ρ5, s4, M4, (g'.trans e2.gr).trans e5.gr, w5, sr5, PostS.ext (e2.trans e5) p'⟩
          · exact Gives.ext e2 p'
          · exact Nxt.ext e2 p'
          · exact fun R5 ρ5 H5 σ5 e5 w5 sr5 => ⟨R5, ρ5, s4, M4, (g'.trans e2.gr).trans e5.gr, w5, sr5, PostS.ext (e2.trans e5) p'⟩
          · exact PostX.ext e2 p'
      · rw [if_neg ck] at p'; exact False.elim p'
    · have e0 : i = l.length := by omega
      subst e0
      rw [List.drop_length] at p'
      unfold loopF at p'
      by_cases ck : chk M'
      · rw [if_pos ck] at p'
        obtain ⟨_, stop⟩ := js R' ρ' M' H' g' w' ck
        exact .inl ⟨stop _ (Nat.le_refl _), nxt_now w' sr' p'⟩
      · rw [if_neg ck] at p'; exact False.elim p'
  · exact p

/-! ### list comprehensions -/
theorem wipe_get (σ : St) (j : Nat) : ∀ vs : List Nat, j ∉ vs → (wipe σ vs)[j]? = σ[j]?
  | [], _ => rfl
  | v :: vs, h => by
    rw [List.mem_cons, not_or] at h
    unfold wipe
    rw [List.getElem?_set_ne (fun e => h.1 e.symm), wipe_get σ j vs h.2]
theorem wipe_in (σ : St) (j : Nat) (hj : j < σ.length) : ∀ vs : List Nat, j ∈ vs → (wipe σ vs)[j]? = some none
  | v :: vs, h => by
    unfold wipe
    by_cases e : v = j
    · subst e
      rw [List.getElem?_set_self (by rw [wipe_length]; exact hj)]
    · rw [List.getElem?_set_ne e]
      rcases List.mem_cons.mp h with z | z
      · exact absurd z.symm e
      · exact wipe_in σ j hj vs z
theorem wipe_same {σ σ' : St} {vs : List Nat} (hl : σ'.length = σ.length) (h : ∀ j, j ∉ vs → σ'[j]? = σ[j]?) : wipe σ' vs = wipe σ vs := by
  apply List.ext_getElem?
  intro j
  by_cases hj : j ∈ vs
  · by_cases hlt : j < σ.length
    · rw [wipe_in σ' j (by rw [hl]; exact hlt) vs hj, wipe_in σ j hlt vs hj]
    · rw [List.getElem?_eq_none (by rw [wipe_length]; omega), List.getElem?_eq_none (by rw [wipe_length]; omega)]
  · rw [wipe_get σ' j vs hj, wipe_get σ j vs hj, h j hj]
theorem SR.wipe {R : Hp} {ρ : List Addr} {s : SL} {σ : St} (h : SR G R ρ s σ) : ∀ vs : List Nat, SR G R ρ (wipeI s vs) (L2.wipe σ vs)
  | [] => h
  | v :: vs => by
    unfold wipeI L2.wipe
    exact (SR.wipe h vs).unset v none
theorem Wd.other {R : Hp} {ρ : List Addr} {M : Store} {H : Hp} {D : Addr} {o : HO} (w : Wd G R ρ M H) (h1 : R D = none) (h2 : D ∉ ρ) : Wd G R ρ M (upd H D o) := by
  refine ⟨fun a u h => ?_, w.len, fun n x h => ?_, w.inj, fun a h => by rw [upd_ne (fun e => h2 (by rw [← e]; exact h))]; exact w.al a h⟩
  · rw [upd_ne (fun e => by subst e; rw [h1] at h; cases h)]
    exact w.sub a u h
  · obtain ⟨a, e, r, c⟩ := w.cel n x h
    refine ⟨a, e, r, celR_mono Gr.refl c fun u q => ?_⟩
    rw [upd_ne (fun z => h2 (by rw [← z]; exact List.mem_of_getElem? e))]
    exact q
theorem Wd.take {R : Hp} {ρ : List Addr} {M : Store} {H : Hp} {D : Addr} {o : HO} (w : Wd G R ρ M H) (h0 : H D = some o) (h1 : R D = none) (h2 : D ∉ ρ) : Wd G (upd R D o) ρ M H := by
  have kR : ∀ a u, R a = some u → upd R D o a = some u := fun a u h => by
    rw [upd_ne (fun e => by subst e; rw [h1] at h; cases h)]
    exact h
  refine ⟨fun a u h => ?_, w.len, fun n x h => ?_, w.inj, w.al⟩
  · by_cases e : a = D
    · subst e; rw [upd_same] at h; rw [h0]; exact h
    · rw [upd_ne e] at h; exact w.sub a u h
  · obtain ⟨a, e, r, c⟩ := w.cel n x h
    exact ⟨a, e, by rw [upd_ne (fun z => h2 (by rw [← z]; exact List.mem_of_getElem? e))]; exact r, celR_mono ⟨kR, fun _ _ q => q⟩ c fun u q => q⟩
theorem Ext.heapNew {R : Hp} {ρ : List Addr} {H : Hp} {p : Addr} {o : HO} (hp : H p = none) : Ext R ρ H R ρ (upd H p o) :=
  ⟨fun _ _ h => h, ⟨[], by simp, by simp⟩, fun a u h _ => by rw [upd_ne (ne_of_none h hp)]; exact h, fun a h => by
    by_cases e : a = p
    · subst e; rw [upd_same]; simp
    · rw [upd_ne e]; exact h, fun a h n => absurd h n⟩
/-- an object that was not there at the start changes -/
theorem Ext.mut {R R' : Hp} {ρ ρ' : List Addr} {H H' : Hp} {p : Addr} {o : HO} (e : Ext R ρ H R' ρ' H') (hp : H p = none) : Ext R ρ H R' ρ' (upd H' p o) :=
  ⟨e.reg, e.cls, fun a u h n => by rw [upd_ne (ne_of_none h hp)]; exact e.keep a u h n, fun a h => by
    by_cases z : a = p
    · subst z; rw [upd_same]; simp
    · rw [upd_ne z]; exact e.dom a h, e.nreg⟩
theorem Ext.take {R R' : Hp} {ρ ρ' : List Addr} {H H' : Hp} {p : Addr} {o : HO} (e : Ext R ρ H R' ρ' H') (hp : H p = none) (hr : R' p = none) : Ext R ρ H (upd R' p o) ρ' H' :=
  ⟨fun a u h => by
    have := e.reg a u h
    rw [upd_ne (fun z => by subst z; rw [hr] at this; cases this)]
    exact this, e.cls, e.keep, e.dom, fun a h n => by
    by_cases z : a = p
    · subst z; exact .inl hp
    · rw [upd_ne z] at n; exact e.nreg a h n⟩
theorem Ext.apart {R R' : Hp} {ρ ρ' : List Addr} {H H' : Hp} {D : Addr} {o : HO} (e : Ext R ρ H R' ρ' H') (h0 : H D = some o) (h1 : R D = none) (h2 : D ∉ ρ) : R' D = none ∧ D ∉ ρ' ∧ H' D = some o := by
  refine ⟨?_, ?_, e.keep D o h0 h2⟩
  · cases q : R' D with
    | none => rfl
    | some u =>
      rcases e.nreg D h1 (by rw [q]; simp) with z | z
      · rw [h0] at z; cases z
      · exact absurd z h2
  · obtain ⟨τ, q, f⟩ := e.cls
    rw [q]
    intro hm
    rcases List.mem_append.mp hm with z | z
    · exact h2 z
    · have := f D z
      rw [h0] at this
      cases this

/-- the core: after the walk, the list stands at D -/
theorem lc_walk {t : Tgt} {tt te : SE} {vs ix : List Nat} {g : TG} (sm : TgSim G g t ix) (hix : ∀ i ∈ ix, i ∈ vs) {σ : St} {R1 : Hp} {ρ1 : List Addr} {M1 M2 : Store} {H1 : Hp} {s : SL} {J : It} {l ys : List Va} {chk : Store → Prop} {Q : VK} {D : Addr}
    (w1 : Wd G R1 ρ1 M1 H1) (sr : SR G R1 ρ1 s σ) (hz : l.length ≤ sizeLine) (js : ItSim G R1 ρ1 J l chk) (hcomp : compL chk t tt te (wipeI s vs) l M1 = some (ys, M2)) (hD : H1 D = none)
    (fin : ∀ R' ρ' H' acc, Ext R1 ρ1 H1 R' ρ' H' → Wd G R' ρ' M2 H' → H' D = some (.lst acc) → R' D = none → D ∉ ρ' → VRs G R' ρ' ys acc → ys.length ≤ sizeLine → Q (.ref D) H') :
    ∃ W : Nat → Nat → Hp → Prop, (∃ m, W 0 m (upd H1 D (.lst []))) ∧ ∀ i m H, W i m H →
      (J.stop i H ∧ Q (.ref D) H) ∨ (J.go i H ∧ ∃ Nx : Hp → Prop, (∀ H', Nx H' → ∃ m', m' < m ∧ W (i + 1) m' H') ∧ ∀ x H', J.yld i H x H' → g x (wipe σ vs) H' fun σ2 H2 => wipe σ2 vs = wipe σ vs ∧ tT G E tt σ2 H2 fun b H3 =>
        if b = true then tE G E te σ2 H3 fun y H4 => ∃ acc, H4 D = some (.lst acc) ∧ acc.length < sizeLine ∧ Nx (upd H4 D (.lst (acc ++ [y]))) else Nx H3) := by
  have nD : D ∉ ρ1 → True := fun _ => trivial
  have rD : R1 D = none := w1.nonR hD
  have pD : ∀ n x, M1.c n = some x → ρ1[n]? ≠ some D := fun n x h z => by
    obtain ⟨a, e, _, c⟩ := w1.cel n x h
    rw [z] at e
    cases e
    exact celR_some c hD
  refine ⟨fun i m Hc => ∃ R' ρ' M' acc accI rest, m = l.length - i ∧ i ≤ l.length ∧ Ext R1 ρ1 H1 R' ρ' Hc ∧ Wd G R' ρ' M' Hc ∧ Hc D = some (.lst acc) ∧ VRs G R' ρ' accI acc ∧ R' D = none ∧ (D ∉ ρ') ∧
    compL chk t tt te (wipeI s vs) (l.drop i) M' = some (rest, M2) ∧ accI ++ rest = ys ∧ accI.length ≤ i, ?_, ?_⟩
  · refine ⟨l.length, R1, ρ1, M1, [], [], ys, rfl, Nat.zero_le _, Ext.heapNew hD, ?_, upd_same, .nil, rD, ?_, hcomp, rfl, Nat.zero_le _⟩
    · exact w1.heap fun a o h => by rw [upd_ne (ne_of_none h hD)]; exact h
    · exact fun hm => w1.al D hm hD
  · rintro i m Hc ⟨R', ρ', M', acc, accI, rest, rfl, hi, e', w', hDc, ra, rDn, nDr, hc, hy, hal⟩
    by_cases hlt : i < l.length
    · have ed : l.drop i = l[i] :: l.drop (i + 1) := List.drop_eq_getElem_cons hlt
      rw [ed] at hc
      unfold compL at hc
      by_cases ck : chk M'
      · rw [if_pos ck] at hc
        obtain ⟨go, _⟩ := js R' ρ' M' Hc e'.gr w' ck
        obtain ⟨go, yld⟩ := go i l[i] (by simp [hlt])
        refine .inr ⟨go, fun H2 => ∃ R2 ρ2 M3 acc accI rest, Ext R1 ρ1 H1 R2 ρ2 H2 ∧ Wd G R2 ρ2 M3 H2 ∧ H2 D = some (.lst acc) ∧ VRs G R2 ρ2 accI acc ∧ R2 D = none ∧ (D ∉ ρ2) ∧
          compL chk t tt te (wipeI s vs) (l.drop (i + 1)) M3 = some (rest, M2) ∧ accI ++ rest = ys ∧ accI.length ≤ i + 1, fun H2 ⟨R2, ρ2, M3, acc, accI, rest, q⟩ => ⟨l.length - (i + 1), by omega, R2, ρ2, M3, acc, accI, rest, rfl, hlt, q⟩, fun x H2 hyl => ?_⟩
        obtain ⟨R2, e2, w2, r2⟩ := yld x H2 hyl
        obtain ⟨rD2, nD2, hD2⟩ := e2.apart hDc rDn nDr
        cases q3 : t l[i] (wipeI s vs) M' with
        | none => rw [q3] at hc; cases hc
        | some s3 =>
          rw [q3] at hc
          have srw : SR G R2 ρ' (wipeI s vs) (wipe σ vs) := (SR.wipe (sr.mono (e'.gr.trans e2.gr)) vs)
          refine sm R2 ρ' M' H2 (wipeI s vs) s3 (wipe σ vs) l[i] x _ w2 srw r2 q3 fun σ3 sr3 hl3 hk3 => ⟨?_, ?_⟩
          · have z1 : wipe σ3 vs = wipe (wipe σ vs) vs := wipe_same hl3 fun j hj => hk3 j fun z => hj (hix j z)
            rw [z1]
            exact wipe_same (wipe_length σ vs) fun j hj => wipe_get σ j vs hj
          · dsimp only at hc
            rcases q4 : tt s3 M' with _ | ⟨y | ⟨c, y⟩, M4⟩ <;> rw [q4] at hc
            · cases hc
            · cases y <;> first | (cases hc; done) | skip
              rename_i bb
              refine ⟨R2, ρ', s3, M', w2, sr3, ?_⟩
              rw [q4]
              intro R5 ρ5 H5 e5 w5
              obtain ⟨rD5, nD5, hD5⟩ := e5.apart hD2 rD2 nD2
              cases bb with
              | false =>
                refine iteF ?_
                exact ⟨R5, ρ5, M4, acc, accI, rest, (e'.trans e2).trans e5, w5, hD5, ra.mono (e2.trans e5).gr, rD5, nD5, hc, hy, Nat.le_succ_of_le hal⟩
              | true =>
                refine iteT ?_
                dsimp only at hc
                rcases q6 : te s3 M4 with _ | ⟨y | ⟨c, y⟩, M6⟩ <;> rw [q6] at hc
                · cases hc
                · refine ⟨R5, ρ5, s3, M4, w5, sr3.mono e5.gr, ?_⟩
                  rw [q6]
                  intro R7 ρ7 H7 v e7 w7 r7
                  obtain ⟨rD7, nD7, hD7⟩ := e7.apart hD5 rD5 nD5
                  dsimp only at hc
                  rcases q8 : compL chk t tt te (wipeI s vs) (l.drop (i + 1)) M6 with _ | ⟨ys8, M8⟩ <;> rw [q8] at hc
                  · cases hc
                  · cases hc
                    have eall := ((e'.trans e2).trans e5).trans e7
                    refine ⟨acc, hD7, ?_, R7, ρ7, M6, acc ++ [v], accI ++ [y], ys8, eall.mut hD, w7.other rD7 nD7, upd_same, VRs.append (ra.mono ((e2.trans e5).trans e7).gr) (.cons r7 .nil), rD7, nD7, q8, by rw [← hy]; simp, by simp; omega⟩
                    rw [← ra.length]
                    omega
                · cases hc
            · cases hc
      · rw [if_neg ck] at hc; cases hc
    · have e0 : i = l.length := by omega
      subst e0
      rw [List.drop_length] at hc
      unfold compL at hc
      by_cases ck : chk M'
      · rw [if_pos ck] at hc
        cases hc
        obtain ⟨_, stop⟩ := js R' ρ' _ Hc e'.gr w' ck
        rw [List.append_nil] at hy
        subst hy
        exact .inl ⟨stop _ (Nat.le_refl _), fin R' ρ' Hc acc e' w' hDc rDn nDr ra (by omega)⟩
      · rw [if_neg ck] at hc; cases hc
end
end PV

set_option Elab.async false
set_option linter.all false
set_option maxRecDepth 100000
set_option maxHeartbeats 4000000
namespace PV
open PySem L2
open PyProof.Rows

section
variable {X : Cx} {G : Sig} {E E2 : XK} {a b c tg elt iter : Expr} {es ifs : List Expr} {st : Stmt} {sts : List Stmt} {ea eb ec : SE} {sa sb : SS} {pos : Pos}
theorem qts_nil : PTs X [] (tT G E evYes) := ⟨fun pins s σ H Q I ⟨R, ρ, s', M, w, sr, p⟩ => pts_nil.run pins s σ H Q I (p R ρ H Ext.refl w)⟩
theorem qts_one (h : PT X a (tT G E ea)) : PTs X [a] (tT G E ea) := pts_one h
variable {src : SI} {t : Tgt} {tt te : SE} {ix : List Nat} {g : TG} {scope : Scope} {own : List (Str × Nat)}
theorem lc_frz {σ : L2.St} {H : Hp} {Q : VK} (sm : TgSim G g t ix) (hix : ∀ i ∈ ix, i ∈ own.map (·.2)) (h : tE G E (evLc src t tt te (own.map (·.2))) σ H Q) : tLc (tI G E src) g (tT G E2 tt) (tE G E2 te) (own.map (·.2)) σ H Q := by
  obtain ⟨R, ρ, s, M, w, sr, p⟩ := h
  refine ⟨R, ρ, s, M, w, sr, ?_⟩
  unfold evLc at p
  rcases q : src s M with _ | ⟨⟨l, chk⟩ | ⟨c, x⟩, M1⟩ <;> rw [q] at p
  · exact p
  · intro R1 ρ1 H1 J e1 w1 hz js D hD
    dsimp only at p
    rcases q2 : compL chk t tt te (wipeI s (own.map (·.2))) l M1 with _ | ⟨ys, M2⟩ <;> rw [q2] at p
    · exact False.elim p
    · refine lc_walk sm hix w1 (sr.mono e1.gr) hz js q2 hD fun R' ρ' H' acc e' w' hDc rDn nDr ra hzy => ?_
      exact p (upd R' D (.lst acc)) ρ' H' (.ref D) (e1.trans (e'.take hD rDn)) (w'.take hDc rDn nDr) (.lst upd_same hzy (ra.mono ⟨fun a o q => by rw [upd_ne (fun z => by subst z; rw [rDn] at q; cases q)]; exact q, fun _ _ q => q⟩))
  · exact p
theorem lc_new {σ : L2.St} {H : Hp} {Q : VK} (sm : TgSim G g t ix) (hix : ∀ i ∈ ix, i ∈ own.map (·.2)) (h : tE G E (evLcC src t tt te (own.map (·.2))) σ H Q) : tLc (tI G E src) g (tT G E2 tt) (tE G E2 te) (own.map (·.2)) σ H Q := by
  obtain ⟨R, ρ, s, M, w, sr, p⟩ := h
  refine ⟨R, ρ, s, M, w, sr, ?_⟩
  unfold evLcC at p
  rcases q : src s M with _ | ⟨⟨l, chk⟩ | ⟨c, x⟩, M1⟩ <;> rw [q] at p
  · exact p
  · intro R1 ρ1 H1 J e1 w1 hz js D hD
    dsimp only at p
    rcases q2 : compL chk t tt te (wipeI s (own.map (·.2))) l M1 with _ | ⟨ys, M2⟩ <;> rw [q2] at p
    · exact False.elim p
    · refine lc_walk sm hix w1 (sr.mono e1.gr) hz js q2 hD fun R' ρ' H' acc e' w' hDc rDn nDr ra hzy => ?_
      have gp : (ρ' ++ [D])[M2.nx]? = some D := by rw [← w'.len]; simp
      have gr : Gr R' ρ' R' (ρ' ++ [D]) := ⟨fun _ _ h => h, fun n a h => by rw [List.getElem?_append_left (List.getElem?_eq_some_iff.mp h).1]; exact h⟩
      have e2 : Ext R1 ρ1 H1 R' (ρ' ++ [D]) H' := by
        obtain ⟨τ, z, f⟩ := e'.cls
        refine ⟨e'.reg, ⟨τ ++ [D], by rw [z, List.append_assoc], fun x hx => ?_⟩, e'.keep, e'.dom, e'.nreg⟩
        rcases List.mem_append.mp hx with h | h
        · exact f x h
        · rw [List.mem_singleton.mp h]; exact hD
      have w2 : Wd G R' (ρ' ++ [D]) (M2.new (.lst ys)) H' := by
        have old : ∀ n x, n ≠ M2.nx → (M2.new (.lst ys)).c n = some x → M2.c n = some x := fun n x hn h => by
          have h' : (if n = M2.nx then some (Cell.lst ys) else M2.c n) = some x := h
          rw [if_neg hn] at h'
          exact h'
        have neD : ∀ n x a, M2.c n = some x → (ρ' ++ [D])[n]? = some a → a ≠ D := fun n x a h e z => by
          obtain ⟨b, e2, _, _⟩ := w'.cel n x h
          rw [gr.get n b e2] at e
          cases e
          exact nDr (by rw [← z]; exact List.mem_of_getElem? e2)
        refine ⟨w'.sub, by simp [Store.new, w'.len], fun n x h => ?_, fun n m b x y h1 h2 f1 f2 => ?_, fun a h => ?_⟩
        · by_cases e : n = M2.nx
          · subst e
            have h' : (if M2.nx = M2.nx then some (Cell.lst ys) else M2.c M2.nx) = some x := h
            rw [if_pos rfl] at h'
            cases h'
            exact ⟨D, gp, rDn, acc, hDc, hzy, ra.mono gr⟩
          · obtain ⟨b, e1, r, c⟩ := w'.cel n x (old n x e h)
            exact ⟨b, gr.get n b e1, r, celR_mono gr c fun u q => q⟩
        · by_cases q1 : n = M2.nx <;> by_cases q2 : m = M2.nx
          · rw [q1, q2]
          · rw [q1, gp] at f1
            cases f1
            exact absurd rfl (neD m y _ (old m y q2 h2) f2)
          · rw [q2, gp] at f2
            cases f2
            exact absurd rfl (neD n x _ (old n x q1 h1) f1)
          · have h1' := old n x q1 h1
            have h2' := old m y q2 h2
            obtain ⟨b1, g1, _⟩ := w'.cel n x h1'
            obtain ⟨b2, g2, _⟩ := w'.cel m y h2'
            rw [gr.get n b1 g1] at f1
            rw [gr.get m b2 g2] at f2
            cases f1
            cases f2
            exact w'.inj n m b x y h1' h2' g1 g2
        · rcases List.mem_append.mp h with h | h
          · exact w'.al a h
          · rw [List.mem_singleton.mp h, hDc]; simp
      exact p R' (ρ' ++ [D]) H' (.ref D) (e1.trans e2) w2 (.cel gp)
  · exact p
theorem q_lc (hc : X.calm = true) (hN : X.N.Nodup) (hi : PI X tg iter (tI G E src)) (ok : BlkOk X.N X.env.scope scope own)
    (hg : ∀ (s : Shared) (H : Hp) (C : Addr) (cl : List (Str × Addr)) (fp : List Addr), QG (X.blk s H scope (compEnvC scope cl C X.env) fp) G tg g t ix)
    (ht : ∀ (s : Shared) (H : Hp) (C : Addr) (cl : List (Str × Addr)) (fp : List Addr), PTs (X.blk s H scope (compEnvC scope cl C X.env) fp) ifs (tT G E2 tt))
    (he : ∀ (s : Shared) (H : Hp) (C : Addr) (cl : List (Str × Addr)) (fp : List Addr), PE (X.blk s H scope (compEnvC scope cl C X.env) fp) elt (tE G E2 te))
    (hix : ∀ i ∈ ix, i ∈ own.map (·.2) := by decide) (hs : ∀ x, foldedSetIterable iter X.env x = pure x := by intro _; rfl) :
    PE X (.ListComp elt [⟨tg, iter, ifs, 0⟩] scope pos) (tE G E (evLc src t tt te (own.map (·.2)))) :=
  ⟨fun pins s σ H Q I h => (pe_lc hc hN hi ok (fun s H C cl fp => (hg s H C cl fp).pg) ht he hs).run pins s σ H Q I (lc_frz (hg s H 0 [] []).sim hix h)⟩
theorem q_lcC (hc : X.calm = true) (hN : X.N.Nodup) (hi : PI X tg iter (tI G E src)) (ok : BlkOk X.N X.env.scope scope own)
    (hg : ∀ (s : Shared) (H : Hp) (C : Addr) (cl : List (Str × Addr)) (fp : List Addr), QG (X.blk s H scope (compEnvC scope cl C X.env) fp) G tg g t ix)
    (ht : ∀ (s : Shared) (H : Hp) (C : Addr) (cl : List (Str × Addr)) (fp : List Addr), PTs (X.blk s H scope (compEnvC scope cl C X.env) fp) ifs (tT G E2 tt))
    (he : ∀ (s : Shared) (H : Hp) (C : Addr) (cl : List (Str × Addr)) (fp : List Addr), PE (X.blk s H scope (compEnvC scope cl C X.env) fp) elt (tE G E2 te))
    (hix : ∀ i ∈ ix, i ∈ own.map (·.2) := by decide) (hs : ∀ x, foldedSetIterable iter X.env x = pure x := by intro _; rfl) :
    PE X (.ListComp elt [⟨tg, iter, ifs, 0⟩] scope pos) (tE G E (evLcC src t tt te (own.map (·.2)))) :=
  ⟨fun pins s σ H Q I h => (pe_lc hc hN hi ok (fun s H C cl fp => (hg s H C cl fp).pg) ht he hs).run pins s σ H Q I (lc_new (hg s H 0 [] []).sim hix h)⟩
theorem qs_setLc {i : Nat} {y : Str} {py spos : Pos} (hc : X.calm = true) (hN : X.N.Nodup) (hy : X.N[i]? = some y) (hyl : X.env.scope.names.lookup y = some .local)
    (hsw : swapsWith (.ListComp elt [⟨tg, iter, ifs, 0⟩] scope pos) (some (.Name y py)) spos.line X.env = pure true) (hi : PI X tg iter (tI G E src)) (ok : BlkOk X.N X.env.scope scope own)
    (hg : ∀ (s : Shared) (H : Hp) (C : Addr) (cl : List (Str × Addr)) (fp : List Addr), QG (X.blk s H scope (compEnvC scope cl C X.env) fp) G tg g t ix)
    (ht : ∀ (s : Shared) (H : Hp) (C : Addr) (cl : List (Str × Addr)) (fp : List Addr), PTs (X.blk s H scope (compEnvC scope cl C X.env) fp) ifs (tT G E2 tt))
    (he : ∀ (s : Shared) (H : Hp) (C : Addr) (cl : List (Str × Addr)) (fp : List Addr), PE (X.blk s H scope (compEnvC scope cl C X.env) fp) elt (tE G E2 te))
    (hix : ∀ i ∈ ix, i ∈ own.map (·.2) := by decide) (hs : ∀ x, foldedSetIterable iter X.env x = pure x := by intro _; rfl) :
    PS X (.Assign [.Name y py] (.ListComp elt [⟨tg, iter, ifs, 0⟩] scope pos) spos) (tS G E (sSet i (evLc src t tt te (own.map (·.2))))) :=
  ⟨fun pins s0 σ H D I ⟨R, ρ, s, M, w, sr, p⟩ => (ps_setLc hc hN hy hyl hsw hi ok (fun s H C cl fp => (hg s H C cl fp).pg) ht he hs).run pins s0 σ H D I (lc_frz (hg s0 H 0 [] []).sim hix
    (stepS (Q' := fun x H1 => gName i x σ H1 D.nx) w sr p fun R1 ρ1 M1 H1 va v e1 w1 sr1 r1 p1 => nxt_now w1 (sr1.set i r1) p1))⟩
theorem qs_setLcC {i : Nat} {y : Str} {py spos : Pos} (hc : X.calm = true) (hN : X.N.Nodup) (hy : X.N[i]? = some y) (hyl : X.env.scope.names.lookup y = some .local)
    (hsw : swapsWith (.ListComp elt [⟨tg, iter, ifs, 0⟩] scope pos) (some (.Name y py)) spos.line X.env = pure true) (hi : PI X tg iter (tI G E src)) (ok : BlkOk X.N X.env.scope scope own)
    (hg : ∀ (s : Shared) (H : Hp) (C : Addr) (cl : List (Str × Addr)) (fp : List Addr), QG (X.blk s H scope (compEnvC scope cl C X.env) fp) G tg g t ix)
    (ht : ∀ (s : Shared) (H : Hp) (C : Addr) (cl : List (Str × Addr)) (fp : List Addr), PTs (X.blk s H scope (compEnvC scope cl C X.env) fp) ifs (tT G E2 tt))
    (he : ∀ (s : Shared) (H : Hp) (C : Addr) (cl : List (Str × Addr)) (fp : List Addr), PE (X.blk s H scope (compEnvC scope cl C X.env) fp) elt (tE G E2 te))
    (hix : ∀ i ∈ ix, i ∈ own.map (·.2) := by decide) (hs : ∀ x, foldedSetIterable iter X.env x = pure x := by intro _; rfl) :
    PS X (.Assign [.Name y py] (.ListComp elt [⟨tg, iter, ifs, 0⟩] scope pos) spos) (tS G E (sSet i (evLcC src t tt te (own.map (·.2))))) :=
  ⟨fun pins s0 σ H D I ⟨R, ρ, s, M, w, sr, p⟩ => (ps_setLc hc hN hy hyl hsw hi ok (fun s H C cl fp => (hg s H C cl fp).pg) ht he hs).run pins s0 σ H D I (lc_new (hg s0 H 0 [] []).sim hix
    (stepS (Q' := fun x H1 => gName i x σ H1 D.nx) w sr p fun R1 ρ1 M1 H1 va v e1 w1 sr1 r1 p1 => nxt_now w1 (sr1.set i r1) p1))⟩
end

/-! ### defs -/
abbrev FM := List Va → Store → Res
def kFn (n : Nat) (f : FM) : FM := fun l M => if l.length = n then f l M else none
def spI (G : Sig) (n : Nat) (f : FM) : Sp := fun vs H Q E => vs.length = n ∧ ∃ R ρ M l, Wd G R ρ M H ∧ VRs G R ρ l vs ∧ Post G R ρ H (f l M) Q E0
def startI (n : Nat) (l : List Va) : SL := l.map some ++ List.replicate (n - l.length) none
def endF (r : RS) : Res := match r with
  | some (.nx, _, M) => some (.val .non, M)
  | some (.ret v, _, M) => some (.val v, M)
  | some (.exc c v, _, M) => some (.exc c v, M)
  | _ => none
def runF (n : Nat) (es : SS) : FM := fun l M => endF (es (startI n l) M)
theorem sr_start {G : Sig} {R : Hp} {ρ : List Addr} {N : List Str} {l : List Va} {vs : List V} (r : VRs G R ρ l vs) : SR G R ρ (startI N.length l) (L2.start N vs) := by
  have hl := r.length
  refine ⟨by unfold startI L2.start; simp [hl], fun i x e => ?_⟩
  unfold startI at e
  unfold L2.start
  by_cases hi : i < l.length
  · rw [List.getElem?_append_left (by simpa using hi), List.getElem?_map] at e
    cases q : l[i]? with
    | none => rw [q] at e; cases e
    | some y =>
      rw [q] at e
      cases e
      obtain ⟨v, h1, h2⟩ := r.get q
      exact ⟨v, by rw [List.getElem?_append_left (by simp; omega), List.getElem?_map, h1]; rfl, h2⟩
  · rw [List.getElem?_append_right (by simpa using hi), List.getElem?_replicate] at e
    split at e <;> cases e
theorem post_end {G : Sig} {R : Hp} {ρ : List Addr} {H : Hp} {r : RS} {Q : VK} {E : XK} (h : Post G R ρ H (endF r) Q E) : PostS G R ρ H r { nx := fun _ H' => Q .non H', rt := Q } E := by
  rcases r with _ | ⟨_ | x | _ | _ | ⟨c, x⟩, s, M⟩
  · exact h
  · exact fun R' ρ' H' σ' e w sr => h R' ρ' H' .non e w .non
  · exact h
  · exact False.elim h
  · exact False.elim h
  · exact h
theorem spI_imp {G : Sig} {n : Nat} {f f' : FM} (h : ∀ l M r, f' l M = some r → f l M = some r) : ∀ vs H Q E, spI G n f' vs H Q E → spI G n f vs H Q E := fun vs H Q E ⟨hl, R, ρ, M, l, w, r, p⟩ => by
  refine ⟨hl, R, ρ, M, l, w, r, ?_⟩
  cases q : f' l M with
  | none => rw [q] at p; exact False.elim p
  | some x => rw [q] at p; rw [h l M x q]; exact p
/-! ### a def's promise where no repr is under way (the guards are known) -/
structure FnG (P : Program) (w : World) (K : PySem.W.Frag) (mg : Str → Option Value) (base : Heap) (CX : CXT) (k : Nat) (f : Addr) (fd : FuncData) (ps : List Str) (sp : Sp) : Prop where
  arity : ∀ vs H Q E, sp vs H Q E → vs.length = ps.length
  go : ∀ (A : Around), Room k A → A.guards = some [] →
    ∀ (outer : List Env) (s : Shared) (H : Hp), Env0 P w K mg base A outer s H →
    ∀ (args : Args) (us : List Value) (vs : List V), BindsTo s fd args (ps.zip us) → Vals vs us →
    ∀ (Q : VK) (E : XK), sp vs H Q E → codeAny (model P w) A (.call (.ref f) args) (CR CX outer P w H s Q E) s
section
variable {P : Program} {w : World} {K : PySem.W.Frag} {mg : Str → Option Value} {base : Heap} {G : Sig} {CX : CXT}
theorem FnG.mono {j k : Nat} {f : Addr} {fd : FuncData} {ps : List Str} {sp : Sp} (F : FnG P w K mg base CX j f fd ps sp) (h : j ≤ k) : FnG P w K mg base CX k f fd ps sp :=
  ⟨F.arity, fun A r g => F.go A (r.mono h) g⟩
theorem FnG.imp {k : Nat} {f : Addr} {fd : FuncData} {ps : List Str} {sp sp' : Sp} (F : FnG P w K mg base CX k f fd ps sp) (h : ∀ vs H Q E, sp' vs H Q E → sp vs H Q E) : FnG P w K mg base CX k f fd ps sp' :=
  ⟨fun vs H Q E q => F.arity vs H Q E (h vs H Q E q), fun A r g outer s H e args us vs b v Q E q => F.go A r g outer s H e args us vs b v Q E (h vs H Q E q)⟩
theorem fnG_of {x qual : Str} {st : Stmt} {f : Addr} {fd : FuncData} {N ps : List Str} {k : Nat} {sp : Sp} (F : Fun K x qual st f fd) (S : FnScope N ps (defScope st)) (ar : ∀ vs H Q E, sp vs H Q E → vs.length = ps.length)
    (body : ∀ (cdv : Value) (A : Around) (outer : List Env) (s : Shared) (H : Hp) (vs : List V) (Q : VK) (E : XK), Room k (A.deeper (envOfC qual (defScope st) s.heap.objs.size f cdv)) → A.guards = some [] → sp vs H Q E →
      ∃ t, PSs (cxOf CX P w K mg base N qual (defScope st) f cdv A outer s H E) (defBody st) t ∧ t { nx := fun _ H' => Q .non H', rt := Q } (L2.start N vs) H) :
    FnG P w K mg base CX (k + 1) f fd ps sp := by
  obtain ⟨oc, od, kV, doc, pm, an, cdv, ct, osl, rfl, lk, hcd⟩ := F.ex
  refine ⟨ar, fun A rm gd outer s H e0 args us vs bt rv Q E q => ?_⟩
  have arl := ar vs H Q E q
  have kh : K.In s.heap := e0.mod.kin.keeps fun b o z => (e0.bs b o z).1
  have nl : s.heap.NoLimit := e0.mod.nolimit.keeps fun b o z => (e0.bs b o z).1
  refine codeAny_call_function rm.depth (kh _ _ lk) rfl S.co S.gen rfl (PySem.W.codeRec_of kh hcd) (bt _ _ _ _ ?_)
  refine wpAny_newFunctionEnv_cells S.kind (fun ⟨n, v⟩ hm => ?_) fun env he s1 ic => ?_
  · have hp := (List.of_mem_zip hm).1
    rcases S.par n hp with z | z
    · exact .inl z
    · exact .inr ⟨z, PySem.W.cellsFrom_some _ _ _ (.inl z)⟩
  · subst he
    refine ⟨nl.keeps ic.toInCall.keep, codeAny_func ?_⟩
    obtain ⟨t, pt, tt⟩ := body cdv A outer s H vs Q E (rm.deeper _) gd q
    have J := inv_start (CX := CX) (E := E) S rm.hd e0 arl rv ic
    refine wpAny_mono (pt.run [] s1 (L2.start N vs) H _ J tt) (fun fl s' z => ?_) fun _ _ z => z
    match fl, z with
    | .next, ⟨_, H', J', q'⟩ => exact ⟨.non, H', J'.os, J'.bare, J'.base, J'.hok, rfl, q'⟩
    | .ret u, ⟨v, _, H', J', rv', q'⟩ => exact ⟨v, H', J'.os, J'.bare, J'.base, J'.hok, rv', q'⟩
    | .brk, ⟨_, _, _, q'⟩ => exact q'.elim
    | .cont, ⟨_, _, _, q'⟩ => exact q'.elim
/-- a def that raises nothing, by the value of its body -/
theorem ok_fn {x qual : Str} {st : Stmt} {f : Addr} {fd : FuncData} {N ps : List Str} {k : Nat} {es : SS} (F : Fun K x qual st f fd) (S : FnScope N ps (defScope st))
    (hb : ∀ (cdv : Value) (A : Around) (outer : List Env) (s : Shared) (H : Hp) (E : XK), Room k (A.deeper (envOfC qual (defScope st) s.heap.objs.size f cdv)) → A.guards = some [] →
      PSs (cxOf CX0 P w K mg base N qual (defScope st) f cdv A outer s H E).nox (defBody st) (tS G E0 es)) : FnG P w K mg base CX0 (k + 1) f fd ps (spI G ps.length (runF N.length es)) :=
  fnG_of F S (fun vs H Q E h => h.1) fun cdv A outer s H vs Q E hr hg ⟨hl, R, ρ, M, l, wd, r, p⟩ =>
    ⟨_, (hb cdv A outer s H E hr hg).nox, R, ρ, startI N.length l, M, wd, sr_start r, post_end p⟩
end
section
variable {X : Cx} {G : Sig} {E : XK} {a o : Expr} {es : List Expr} {ea eo : SE} {pos p' apos : Pos} {k : Nat} {f C : Addr} {fd : FuncData} {ps : List Str} {x m : Str} {n : Nat} {fM : FM} {sp : Sp} {CX : CXT} {ta : TE} {t : TA} {dvs : List V} {ds : List Value}
theorem run_fnG {pins : List (Addr × Obj)} {σ : L2.St} {H : Hp} {s : Shared} {Q : VK} {us : List Value} {vs : List V} (F : FnG X.prog X.w X.K X.mg X.base CX k f fd ps sp) (hr : Room k X.A) (hgd : X.A.guards = some []) (hb : Binds X.K fd ps ds) (hd : Vals dvs ds)
    (hx : Passes CX X E) (I : Inv X pins σ H s) (rv : Vals vs us) (h : sp (vs ++ dvs) H Q E) : wpAny (model X.prog X.w) X.A (call (.ref f) us) (EP X pins σ Q) X.xe s := by
  have r2 := rv.append hd
  have bt := hb s us I.kIn (r2.length ▸ F.arity _ _ _ _ h)
  refine wpAny_call (codeAny_mono (F.go X.A hr hgd X.stack s H I.env0 _ _ _ bt r2 Q E h) fun r s' z => ?_)
  match r, z with
  | .error e, z => exact hx pins σ H s e s' I z
  | .ok (.ret u), z => exact I.after z
  | .ok .next, z => exact False.elim z
  | .ok .brk, z => exact False.elim z
  | .ok .cont, z => exact False.elim z
theorem pe_callG (F : FnG X.prog X.w X.K X.mg X.base CX k f fd ps sp) (hr : Room k X.A) (hgd : X.A.guards = some []) (hg : Gl X x) (hm : X.mg x = some (.ref f)) (hk : PySem.W.keepIn X.K (.ref f) = true) (hb : Binds X.K fd ps ds) (hd : Vals dvs ds) (hx : Passes CX X E)
    (ha : PA X (a :: es) t) (hdb : (x == ("__debug__" : Str)) = false := by decide) (he : starEach (a :: es) X.env = (false, eval a X.env) :: starEach es X.env := by rfl) (hpl : (backTo pos (starEach es X.env)).any (·.1) = false := by rfl) :
    PE X (.Call (.Name x p') (a :: es) [] pos) (tCall sp dvs E t) :=
  ⟨fun pins s σ H Q I h => wpAny_Call_Name_kw (ld_glob I hg hm (PySem.W.callWith_K (h₀ := X.base) I.ok.mod.kin hk
    (thn (ha.run pos pins s σ H _ I h) fun _ _ ⟨_, _, I1, r, q⟩ => ⟨I1.kIn, run_fnG F hr hgd hb hd hx I1 r q⟩) he hpl) hdb)⟩
theorem pe_callG0 (F : FnG X.prog X.w X.K X.mg X.base CX k f fd ps sp) (hr : Room k X.A) (hgd : X.A.guards = some []) (hg : Gl X x) (hm : X.mg x = some (.ref f)) (hk : PySem.W.keepIn X.K (.ref f) = true) (hb : Binds X.K fd ps ds) (hd : Vals dvs ds) (hx : Passes CX X E)
    (hdb : (x == ("__debug__" : Str)) = false := by decide) : PE X (.Call (.Name x p') [] [] pos) (tCall sp dvs E tNil) :=
  ⟨fun pins s σ H Q I h => wpAny_Call_Name_kw (ld_glob I hg hm (PySem.W.callWith_K0 I.kIn hk (run_fnG (us := []) F hr hgd hb hd hx I .nil h)) hdb)⟩
theorem q_fn (F : FnG X.prog X.w X.K X.mg X.base CX0 k f fd ps (spI G n fM)) (hr : Room k X.A) (hgd : X.A.guards = some []) (hg : Gl X x) (hm : X.mg x = some (.ref f)) (hk : PySem.W.keepIn X.K (.ref f) = true) (hb : Binds X.K fd ps [])
    (ha : PA X (a :: es) (tA G E0 ea)) (hdb : (x == ("__debug__" : Str)) = false := by decide) (he : starEach (a :: es) X.env = (false, eval a X.env) :: starEach es X.env := by rfl) (hpl : (backTo pos (starEach es X.env)).any (·.1) = false := by rfl) :
    PE X (.Call (.Name x p') (a :: es) [] pos) (tE G E0 (evL (kFn n fM) ea)) :=
  pe_imp (pe_callG F hr hgd hg hm hk hb .nil pass0 ha hdb he hpl) fun σ H Q ⟨R, ρ, s, M, w, sr, p⟩ => stepA w sr p fun R1 ρ1 M1 H1 l vs e1 w1 sr1 r1 p1 => by
    unfold kFn at p1
    by_cases hl : l.length = n
    · rw [if_pos hl] at p1
      exact ⟨by rw [List.append_nil, ← r1.length]; exact hl, R1, ρ1, M1, l, w1, by rw [List.append_nil]; exact r1, p1⟩
    · rw [if_neg hl] at p1; exact False.elim p1
theorem q_fn0 (F : FnG X.prog X.w X.K X.mg X.base CX0 k f fd ps (spI G 0 fM)) (hr : Room k X.A) (hgd : X.A.guards = some []) (hg : Gl X x) (hm : X.mg x = some (.ref f)) (hk : PySem.W.keepIn X.K (.ref f) = true) (hb : Binds X.K fd ps [])
    (hdb : (x == ("__debug__" : Str)) = false := by decide) : PE X (.Call (.Name x p') [] [] pos) (tE G E0 (evL (kFn 0 fM) evNil)) :=
  pe_imp (pe_callG0 F hr hgd hg hm hk hb .nil pass0 hdb) fun σ H Q ⟨R, ρ, s, M, w, sr, p⟩ => ⟨rfl, R, ρ, M, [], w, .nil, p⟩
end

/-! ### the law's end -/
/-- the law's call, its promise by value -/
theorem law_end {P : Program} {w : World} {K : PySem.W.Frag} {mg mb : Str → Option Value} {k : Nat} {fa a : Addr} {fd : FuncData} {x : Str} {s : Shared} {vs : List Value} {ns : List Int} {CA : Nat → Addr} {f : FM} {M' : Store}
    (kin : K.In s.heap) (gl : s.heap.Ns mainGlobals mg) (bl : s.heap.Ns builtinsNs mb) (blt : ∀ x : Str, x ≠ "__name__" → mb x = bootBuiltins x) (nl : s.heap.NoLimit) (md : ∃ mm, s.heap.Ns sysModules mm) (ng : s.gens = #[])
    (ha : s.heap.get? a = some { cls := .type "list", data := .seq vs.toArray }) (hi : IntsAre vs ns) (hz : ns.length ≤ sizeLine) (rm : Room k callerA)
    (F : ∀ base : Heap, K.In base → base.Ns mainGlobals mg → (∃ mm, base.Ns sysModules mm) → FnG P w K mg base CX0 k fa fd [x] (spI ⟨K, CA⟩ 1 f)) (bt : ∀ (s : Shared) (u : Value), BindsTo s fd ⟨[u], []⟩ [(x, u)])
    (hf : f [.scr ns] ⟨fun _ => none, 0⟩ = some (.val (.bl true), M')) :
    codeAny (model P w) callerA (.call (.ref fa) ⟨[.ref a], []⟩) (fun r s' => r = .ok (.ret (.bool true)) ∧ OldK s.heap s'.heap ∧ s'.os = s.os ∧ AllBare s'.gens) s := by
  have rv : Vals (ns.map V.int) vs := L2.vals_ints hi
  have main : ∀ H : Hp, SqL K H a (ns.map V.int) → HOk P w H s.heap → (∀ b u, H b = some u → b = a ∧ K.lookup a = none ∧ ∃ o xs, u = .frz o (.lst xs)) →
      codeAny (model P w) callerA (.call (.ref fa) ⟨[.ref a], []⟩) (fun r s' => r = .ok (.ret (.bool true)) ∧ OldK s.heap s'.heap ∧ s'.os = s.os ∧ AllBare s'.gens) s := by
    intro H sq ok only
    have un : ∀ {b : Addr} {o : Obj}, s.heap.get? b = some o → (b = a → K.lookup a ≠ none ∨ ∃ es ep, o.data = .dict es ep) → (hidT s.heap H).get? b = some o := fun {b o} e h => by
      refine hidT_get e ?_
      cases q : H b with
      | none => rfl
      | some u =>
        obtain ⟨rfl, z, _⟩ := only b u q
        rcases h rfl with h | ⟨es, ep, d⟩
        · exact absurd z h
        · rw [ha] at e
          cases e
          cases d
    have ns' : ∀ {b : Addr} {m : Str → Option Value}, s.heap.Ns b m → (hidT s.heap H).Ns b m := fun ⟨o, es, ep, e, d, r⟩ => ⟨o, es, ep, un e fun _ => .inr ⟨es, ep, d⟩, d, r⟩
    have kin' : K.In (hidT s.heap H) := fun b o e => un (kin b o e) fun z => .inl (by rw [← z, e]; simp)
    have nl' : (hidT s.heap H).NoLimit := nl.elim fun m z => ⟨m, ns' z.1, z.2⟩
    have e0 : Env0 P w K mg (hidT s.heap H) callerA [] s H :=
      { frames := rfl, mod := { kin := kin', glob := ns' gl, blt := ⟨mb, ns' bl, blt⟩, nolimit := nl' }, bs := fun b o e => of_hidT e, bsz := Nat.le_of_eq (hidT_size _ _), funs := trivial,
        frf := fun b hb => (nomatch hb), hok := ok, bare := .of_eq ng }
    have wd : Wd ⟨K, CA⟩ H [] ⟨fun _ => none, 0⟩ H := ⟨fun _ _ h => h, rfl, fun _ _ h => (nomatch h), fun _ _ _ _ _ h => (nomatch h), fun _ h => (nomatch h)⟩
    have sp : spI ⟨K, CA⟩ 1 f [.ref a] H (fun v H' => v = .bl true) fun _ _ _ => False :=
      ⟨rfl, H, [], ⟨fun _ => none, 0⟩, [.scr ns], wd, .cons (.scr sq hz) .nil, by
        rw [hf]
        intro R' ρ' H' v _ _ r
        cases r
        rfl⟩
    refine codeAny_mono ((F _ kin' (ns' gl) (md.elim fun m z => ⟨m, ns' z⟩)).go callerA rm rfl [] s H e0 ⟨[.ref a], []⟩ [.ref a] [.ref a] (bt s (.ref a)) (.cons rfl .nil) _ _ sp) fun r s' z => ?_
    match r, z with
    | .error e, z => exact z.elim
    | .ok .next, z => exact z.elim
    | .ok .brk, z => exact z.elim
    | .ok .cont, z => exact z.elim
    | .ok (.ret u), ⟨v, H', os, bare, keep, ok', ru, q⟩ =>
      subst q
      obtain rfl : u = Value.bool true := ru
      refine ⟨rfl, OldK.of_keep fun b o e => ?_, os, bare⟩
      cases q : H b with
      | none => exact keep.keep b o e q (fun z => nomatch z) fun z => nomatch z
      | some u =>
        obtain ⟨_, _, ob, xs, rfl⟩ := only b u q
        have f1 := (ok b _ q).1
        have f2 := (ok' b _ (keep.frzs b ob _ q)).1
        rw [e] at f1
        cases f1
        exact f2
  by_cases kl : K.lookup a = none
  · refine main (fun b => if b = a then some (.frz { cls := .type "list", data := .seq vs.toArray } (.lst (ns.map V.int))) else none) (.inl (.inr ⟨_, if_pos rfl⟩)) (fun b u z => ?_) fun b u z => ?_
    all_goals
      try dsimp only at z
      by_cases q : b = a
      · subst q
        rw [if_pos rfl] at z
        cases z
        first
          | exact ⟨rfl, kl, _, _, rfl⟩
          | exact ⟨ha, by rw [List.length_map]; exact hz, vs, 0, rv, ha⟩
      · rw [if_neg q] at z
        cases z
  · obtain ⟨o, kl⟩ := Option.ne_none_iff_exists'.mp kl
    have e := kin a o kl
    rw [ha] at e
    cases e
    exact main (fun _ => none) (.inr ⟨_, vs.toArray, 0, kl, rfl, rfl, rfl, by rw [List.size_toArray, ← rv.length, List.length_map]; exact hz, rv⟩) (fun b u z => by cases z) fun b u z => by cases z
end PV

set_option Elab.async false
set_option linter.all false
set_option maxRecDepth 100000
set_option maxHeartbeats 4000000
namespace PV
open PySem L2

/-! ### numbers -/
def divOk (j : Int) : Prop := 0 < j ∧ j.natAbs.log2 < 9000
def powOk (i j : Int) : Prop := 0 ≤ j ∧ (Builtin.Int.intBits i : Int) * j ≤ 2 ^ 27
noncomputable section
open Classical
def opAdd (M : Store) (a b : Va) : Option Va := match a, b with
  | .int i, .int j => some (.int (i + j))
  | .str x, .str y => if x.length + y.length ≤ sizeLine then some (.str (x ++ y)) else none
  | a, b => match ownOf M a, ownOf M b with
    | some l, some m => if l.length + m.length ≤ sizeLine then some (.lst (l ++ m)) else none
    | _, _ => none
def opSub (M : Store) (a b : Va) : Option Va := match a, b with
  | .int i, .int j => some (.int (i - j))
  | _, _ => none
def opMul (M : Store) (a b : Va) : Option Va := match a, b with
  | .int i, .int j => if IntMulOk i j then some (.int (i * j)) else none
  | a, .int k => match ownOf M a with
    | some l => if -(2 ^ 63) ≤ k ∧ k < 2 ^ 63 ∧ l.length * k.toNat ≤ sizeLine then some (.lst (List.replicate k.toNat l).flatten) else none
    | none => none
  | _, _ => none
def opDiv (M : Store) (a b : Va) : Option Va := match a, b with
  | .int i, .int j => if divOk j then some (.int (i / j)) else none
  | _, _ => none
def opMod (M : Store) (a b : Va) : Option Va := match a, b with
  | .int i, .int j => if 0 < j then some (.int (i % j)) else none
  | _, _ => none
def opPow (M : Store) (a b : Va) : Option Va := match a, b with
  | .int i, .int j => if powOk i j then some (.int (i ^ j.toNat)) else none
  | _, _ => none
end
def opLt (M : Store) (a b : Va) : Option Va := match a, b with
  | .int i, .int j => some (.bl (decide (i < j)))
  | _, _ => none
def opLe (M : Store) (a b : Va) : Option Va := match a, b with
  | .int i, .int j => some (.bl (decide (i ≤ j)))
  | _, _ => none
def opGt (M : Store) (a b : Va) : Option Va := match a, b with
  | .int i, .int j => some (.bl (decide (j < i)))
  | _, _ => none
def opGe (M : Store) (a b : Va) : Option Va := match a, b with
  | .int i, .int j => some (.bl (decide (j ≤ i)))
  | _, _ => none
def opNeg (M : Store) (a : Va) : Option Va := match a with
  | .int i => some (.int (-i))
  | _ => none

abbrev rAddS : R2 := fun x y H Q => ∃ i j, x = .str i ∧ y = .str j ∧ i.length + j.length ≤ sizeLine ∧ Q (.str (i ++ j)) H
section
variable {G : Sig} {X : Cx}
theorem s_add : Op2 G (fun x y H Q => rI0 (fun i j => .int (i + j)) x y H Q ∨ (rAddS x y H Q ∨ rCat x y H Q)) opAdd := by
  intro R ρ M H x y va vb res Q w ra rb h g
  have lists : (match ownOf M va, ownOf M vb with
    | some l, some m => if l.length + m.length ≤ sizeLine then some (Va.lst (l ++ m)) else none
    | _, _ => none) = some res → rCat x y H Q := fun h => by
    split at h
    · rename_i l m h1 h2
      obtain ⟨a, vs, rfl, ha, rv, z⟩ := own_read w ra h1
      obtain ⟨b, ws, rfl, hb, rw', z'⟩ := own_read w rb h2
      split at h
      · rename_i hz
        cases h
        exact ⟨a, b, vs, ws, rfl, rfl, ha, hb, by rw [← rv.length, ← rw'.length]; exact hz, fun p hp => gives_lst w (rv.append rw') (by simpa using hz) g hp⟩
      · cases h
    · cases h
  unfold opAdd at h
  split at h
  · cases h; cases ra; cases rb
    exact .inl ⟨_, _, rfl, rfl, gives_now w (.int _) g⟩
  · cases ra; cases rb
    split at h
    · rename_i hz; cases h
      exact .inr (.inl ⟨_, _, rfl, rfl, hz, gives_now w (.str _) g⟩)
    · cases h
  · exact .inr (.inr (lists h))
theorem q_add {E : XK} {a b : Expr} {ea eb : SE} {pos : Pos} (ha : PE X a (tE G E ea)) (hb : PE X b (tE G E eb)) : PE X (.BinOp a .Add b pos) (tE G E (ev2 opAdd ea eb)) := q_op (op_add.or (op_add_str.or op_cat)) s_add ha hb
theorem s_sub : Op2 G (rI0 fun i j => .int (i - j)) opSub := by
  intro R ρ M H x y va vb res Q w ra rb h g
  unfold opSub at h
  split at h
  · cases h; cases ra; cases rb
    exact ⟨_, _, rfl, rfl, gives_now w (.int _) g⟩
  · cases h
theorem q_sub {E : XK} {a b : Expr} {ea eb : SE} {pos : Pos} (ha : PE X a (tE G E ea)) (hb : PE X b (tE G E eb)) : PE X (.BinOp a .Sub b pos) (tE G E (ev2 opSub ea eb)) := q_op op_sub s_sub ha hb
theorem op_mulA : OpR X (binaryOp .Mult) (rI IntMulOk fun i j => .int (i * j)) := opI fun _ _ _ _ _ _ _ hc q => PyProof.Rows.mul_int q hc
theorem VRs.rep {R : Hp} {ρ : List Addr} {l : List Va} {vs : List V} (r : VRs G R ρ l vs) : ∀ n : Nat, VRs G R ρ (List.replicate n l).flatten (List.replicate n vs).flatten
  | 0 => .nil
  | n + 1 => by
    rw [List.replicate_succ, List.replicate_succ, List.flatten_cons, List.flatten_cons]
    exact r.append (VRs.rep r n)
theorem s_mul : Op2 G (fun x y H Q => rI IntMulOk (fun i j => .int (i * j)) x y H Q ∨ rRep x y H Q) opMul := by
  intro R ρ M H x y va vb res Q w ra rb h g
  unfold opMul at h
  split at h
  · cases ra; cases rb
    split at h
    · rename_i hz; cases h
      exact .inl ⟨_, _, rfl, rfl, hz, gives_now w (.int _) g⟩
    · cases h
  · cases rb
    split at h
    · rename_i l h1
      obtain ⟨a, vs, rfl, ha, rv, z⟩ := own_read w ra h1
      split at h
      · rename_i hz
        cases h
        refine .inr ⟨a, _, vs, rfl, rfl, ha, hz.1, hz.2.1, by rw [← rv.length]; exact hz.2.2, fun p hp => gives_lst w (rv.rep _) ?_ g hp⟩
        rw [List.length_flatten, List.map_replicate, List.sum_replicate_nat]
        rw [Nat.mul_comm]
        exact hz.2.2
      · cases h
    · cases h
  · cases h
theorem q_mul {E : XK} {a b : Expr} {ea eb : SE} {pos : Pos} (ha : PE X a (tE G E ea)) (hb : PE X b (tE G E eb)) : PE X (.BinOp a .Mult b pos) (tE G E (ev2 opMul ea eb)) := q_op (op_mulA.or op_rep) s_mul ha hb
theorem s_div : Op2 G (rI CDivW fun i j => .int (i / j)) opDiv := by
  intro R ρ M H x y va vb res Q w ra rb h g
  unfold opDiv at h
  split at h
  · cases ra; cases rb
    split at h
    · rename_i hz; cases h
      exact ⟨_, _, rfl, rfl, hz, gives_now w (.int _) g⟩
    · cases h
  · cases h
theorem q_div {E : XK} {a b : Expr} {ea eb : SE} {pos : Pos} (ha : PE X a (tE G E ea)) (hb : PE X b (tE G E eb)) : PE X (.BinOp a .FloorDiv b pos) (tE G E (ev2 opDiv ea eb)) := q_op op_fdivW s_div ha hb
theorem s_mod : Op2 G (rI (fun _ j => 0 < j) fun i j => .int (i % j)) opMod := by
  intro R ρ M H x y va vb res Q w ra rb h g
  unfold opMod at h
  split at h
  · cases ra; cases rb
    split at h
    · rename_i hz; cases h
      exact ⟨_, _, rfl, rfl, hz, gives_now w (.int _) g⟩
    · cases h
  · cases h
theorem q_mod {E : XK} {a b : Expr} {ea eb : SE} {pos : Pos} (ha : PE X a (tE G E ea)) (hb : PE X b (tE G E eb)) : PE X (.BinOp a .Mod b pos) (tE G E (ev2 opMod ea eb)) := q_op op_mod s_mod ha hb
theorem op_powW : OpR X (binaryOp .Pow) (rI powOk fun i j => .int (i ^ j.toNat)) := opI fun _ _ _ _ _ _ _ hc q => PyProof.Rows.pow_int hc.1 hc.2 q
theorem s_pow : Op2 G (rI powOk fun i j => .int (i ^ j.toNat)) opPow := by
  intro R ρ M H x y va vb res Q w ra rb h g
  unfold opPow at h
  split at h
  · cases ra; cases rb
    split at h
    · rename_i hz; cases h
      exact ⟨_, _, rfl, rfl, hz, gives_now w (.int _) g⟩
    · cases h
  · cases h
theorem q_pow {E : XK} {a b : Expr} {ea eb : SE} {pos : Pos} (ha : PE X a (tE G E ea)) (hb : PE X b (tE G E eb)) : PE X (.BinOp a .Pow b pos) (tE G E (ev2 opPow ea eb)) := q_op op_powW s_pow ha hb
theorem s_lt : Op2 G (rI0 fun i j => .bl (decide (i < j))) opLt := by
  intro R ρ M H x y va vb res Q w ra rb h g
  unfold opLt at h
  split at h
  · cases h; cases ra; cases rb
    exact ⟨_, _, rfl, rfl, gives_now w (.bl _) g⟩
  · cases h
theorem s_le : Op2 G (rI0 fun i j => .bl (decide (i ≤ j))) opLe := by
  intro R ρ M H x y va vb res Q w ra rb h g
  unfold opLe at h
  split at h
  · cases h; cases ra; cases rb
    exact ⟨_, _, rfl, rfl, gives_now w (.bl _) g⟩
  · cases h
theorem s_gt : Op2 G (rI0 fun i j => .bl (decide (j < i))) opGt := by
  intro R ρ M H x y va vb res Q w ra rb h g
  unfold opGt at h
  split at h
  · cases h; cases ra; cases rb
    exact ⟨_, _, rfl, rfl, gives_now w (.bl _) g⟩
  · cases h
theorem s_ge : Op2 G (rI0 fun i j => .bl (decide (j ≤ i))) opGe := by
  intro R ρ M H x y va vb res Q w ra rb h g
  unfold opGe at h
  split at h
  · cases h; cases ra; cases rb
    exact ⟨_, _, rfl, rfl, gives_now w (.bl _) g⟩
  · cases h
theorem s_neg : Op1 G (rU fun i => .int (-i)) opNeg := by
  intro R ρ M H x va res Q w ra h g
  unfold opNeg at h
  split at h
  · cases h; cases ra
    exact ⟨_, rfl, gives_now w (.int _) g⟩
  · cases h
theorem q_neg {E : XK} {a : Expr} {ea : SE} {pos : Pos} (ha : PE X a (tE G E ea)) : PE X (.UnaryOp .USub a pos) (tE G E (ev1 opNeg ea)) := q_un un_neg s_neg ha
end

/-! ### plain data -/
def kPd : Key → PyData
  | .inl i => .int i
  | .inr x => .str x
mutual
inductive PdR (M : Store) : Va → PyData → Prop
  | non : PdR M .non .none
  | bl (b : Bool) : PdR M (.bl b) (.bool b)
  | int (i : Int) : PdR M (.int i) (.int i)
  | str (x : Str) : PdR M (.str x) (.str x)
  | lst {x : Va} {l : List Va} {ds : List PyData} : lstOf M x = some l → PdRs M l ds → PdR M x (.list ds)
  | tup {l : List Va} {ds : List PyData} : PdRs M l ds → PdR M (.tup l) (.tuple ds)
  | dic {x : Va} {l : List (Key × Va)} {ds : List (PyData × PyData)} : dicOf M x = some l → PdRk M l ds → PdR M x (.dict ds)
inductive PdRs (M : Store) : List Va → List PyData → Prop
  | nil : PdRs M [] []
  | cons {x : Va} {d : PyData} {l : List Va} {ds : List PyData} : PdR M x d → PdRs M l ds → PdRs M (x :: l) (d :: ds)
inductive PdRk (M : Store) : List (Key × Va) → List (PyData × PyData) → Prop
  | nil : PdRk M [] []
  | cons {k : Key} {x : Va} {d : PyData} {l : List (Key × Va)} {ds : List (PyData × PyData)} : PdR M x d → PdRk M l ds → PdRk M ((k, x) :: l) ((kPd k, d) :: ds)
end
section
variable {M : Store}
mutual
theorem PdR.det : ∀ {x : Va} {d e : PyData}, PdR M x d → PdR M x e → d = e
  | _, _, _, .non, h => by cases h with
    | non => rfl
    | lst h _ => cases h
    | dic h _ => cases h
  | _, _, _, .bl b, h => by cases h with
    | bl => rfl
    | lst h _ => cases h
    | dic h _ => cases h
  | _, _, _, .int b, h => by cases h with
    | int => rfl
    | lst h _ => cases h
    | dic h _ => cases h
  | _, _, _, .str b, h => by cases h with
    | str => rfl
    | lst h _ => cases h
    | dic h _ => cases h
  | x, _, _, .lst h1 h2, h => by cases h with
    | lst g1 g2 =>
      rw [h1] at g1
      cases g1
      rw [PdRs.det h2 g2]
    | dic g1 g2 =>
      cases x <;> first | cases h1 <;> done | cases g1 <;> done | skip
      rename_i n
      unfold lstOf at h1
      unfold dicOf at g1
      dsimp only at h1 g1
      rcases q : M.c n with _ | _ | _ | _ <;> rw [q] at h1 g1 <;> first | cases h1 <;> done | cases g1
    | _ => cases h1
  | _, _, _, .tup h2, h => by cases h with
    | tup g2 => rw [PdRs.det h2 g2]
    | lst h _ => cases h
    | dic h _ => cases h
  | x, _, _, .dic h1 h2, h => by cases h with
    | dic g1 g2 =>
      rw [h1] at g1
      cases g1
      rw [PdRk.det h2 g2]
    | lst g1 g2 =>
      cases x <;> first | cases h1 <;> done | cases g1 <;> done | skip
      rename_i n
      unfold dicOf at h1
      unfold lstOf at g1
      dsimp only at h1 g1
      rcases q : M.c n with _ | _ | _ | _ <;> rw [q] at h1 g1 <;> first | cases h1 <;> done | cases g1
    | _ => cases h1
theorem PdRs.det : ∀ {x : List Va} {d e : List PyData}, PdRs M x d → PdRs M x e → d = e
  | _, _, _, .nil, h => by cases h; rfl
  | _, _, _, .cons h1 h2, h => by cases h with
    | cons g1 g2 => rw [PdR.det h1 g1, PdRs.det h2 g2]
theorem PdRk.det : ∀ {x : List (Key × Va)} {d e : List (PyData × PyData)}, PdRk M x d → PdRk M x e → d = e
  | _, _, _, .nil, h => by cases h; rfl
  | _, _, _, .cons h1 h2, h => by cases h with
    | cons g1 g2 => rw [PdR.det h1 g1, PdRk.det h2 g2]
end
end
noncomputable section
open Classical
def pdOf (M : Store) (x : Va) : Option PyData := if h : ∃ d, PdR M x d then some h.choose else none
theorem pdOf_eq {M : Store} {x : Va} {d : PyData} (h : PdR M x d) : pdOf M x = some d := by
  unfold pdOf
  have q : ∃ d, PdR M x d := ⟨d, h⟩
  rw [dif_pos q, PdR.det q.choose_spec h]
theorem pdOf_some {M : Store} {x : Va} {d : PyData} (h : pdOf M x = some d) : PdR M x d := by
  unfold pdOf at h
  split at h
  · rename_i q
    cases h
    exact q.choose_spec
  · cases h
end
section
variable {X : Cx} {pins : List (Addr × Obj)} {σ : L2.St} {H R : Hp} {s : Shared} {G : Sig} {ρ : List Addr} {M : Store}
/-- a datum without dicts is read off the heap -/
theorem hasDict_of {d : PyData} {ds : List PyData} (h : PyData.hasDictAll (d :: ds) = false) : d.hasDict = false ∧ PyData.hasDictAll ds = false := by
  simpa [PyData.hasDictAll] using h
mutual
theorem pd_reads (I : Inv X pins σ H s) (hK : X.K = G.K) (w : Wd G R ρ M H) : ∀ {x : Va} {d : PyData} {v : V} {u : Value}, PdR M x d → VR G R ρ x v → RelV v u → d.hasDict = false → ∃ as, Reads s.heap u d as
  | _, _, _, _, .non, r, q, _ => by cases r; cases q; exact ⟨_, .none⟩
  | _, _, _, _, .bl b, r, q, _ => by cases r; cases q; exact ⟨_, .bool b⟩
  | _, _, _, _, .int b, r, q, _ => by cases r; obtain ⟨t, rfl⟩ := q; exact ⟨_, .int b t⟩
  | _, _, _, _, .str b, r, q, _ => by cases r; obtain ⟨t, rfl⟩ := q; exact ⟨_, .str b t⟩
  | _, _, _, _, .lst h1 h2, r, q, hd => by
    obtain ⟨a, vs, rfl, sq, rv, _⟩ := lst_read w r h1
    cases q
    rw [← hK] at sq
    obtain ⟨its, r', ⟨o, n, ho, hc, _, hdt⟩, _⟩ := I.list sq
    obtain ⟨as, hr⟩ := pd_readsAll I hK w h2 rv r' (by simpa [PyData.hasDict] using hd)
    exact ⟨_, .list ho hc hdt hr⟩
  | _, _, _, _, .tup h2, r, q, hd => by
    obtain ⟨a, vs, rfl, sq, rv, _⟩ := tup_read w r rfl
    cases q
    obtain ⟨its, r', ⟨o, ho, hc, n, hdt⟩, _⟩ := I.tuple (.of sq)
    obtain ⟨as, hr⟩ := pd_readsAll I hK w h2 rv r' (by simpa [PyData.hasDict] using hd)
    exact ⟨_, .tuple ho hc hdt hr⟩
  | _, _, _, _, .dic _ _, _, _, hd => by simp [PyData.hasDict] at hd
theorem pd_readsAll (I : Inv X pins σ H s) (hK : X.K = G.K) (w : Wd G R ρ M H) : ∀ {l : List Va} {ds : List PyData} {vs : List V} {us : List Value}, PdRs M l ds → VRs G R ρ l vs → Vals vs us → PyData.hasDictAll ds = false → ∃ as, ReadsAll s.heap us ds as
  | _, _, _, _, .nil, r, q, _ => by cases r; cases q; exact ⟨_, .nil⟩
  | _, _, _, _, .cons h1 h2, r, q, hd => by
    cases r with
    | cons r1 r2 =>
      cases q with
      | cons q1 q2 =>
        obtain ⟨d1, d2⟩ := hasDict_of hd
        obtain ⟨as, e1⟩ := pd_reads I hK w h1 r1 q1 d1
        obtain ⟨bs, e2⟩ := pd_readsAll I hK w h2 r2 q2 d2
        exact ⟨_, .cons e1 e2⟩
end
end
section
variable {X : Cx} {pins : List (Addr × Obj)} {σ : L2.St} {H R : Hp} {s : Shared} {G : Sig} {ρ : List Addr} {M : Store}
theorem not_mods (I : Inv X pins σ H s) (hsb : ∃ mm, X.base.Ns sysModules mm) {a : Addr} {o : Obj} {vs : Array Value} {n : Nat} (h : s.heap.get? a = some o) (hd : o.data = .seq vs n) : a ≠ sysModules := fun e => by
  obtain ⟨mm, o', es, ep, e', d', _⟩ := hsb
  have := I.bk _ _ e'
  rw [e] at h
  rw [this] at h
  cases h
  rw [d'] at hd
  cases hd
theorem key_reads {k : Key} {u : Value} {h : Heap} (p1 : keyIs k u = true) : Reads h u (kPd k) [] := by
  rcases keyIs_shape p1 with ⟨i, t, ek, ev⟩ | ⟨x, t, ek, ev⟩
  · subst ek; rw [ev]; exact .int i t
  · subst ek; rw [ev]; exact .str x t
mutual
theorem pd_readsD (I : Inv X pins σ H s) (hsb : ∃ mm, X.base.Ns sysModules mm) (hK : X.K = G.K) (w : Wd G R ρ M H) : ∀ {x : Va} {d : PyData} {v : V} {u : Value}, PdR M x d → VR G R ρ x v → RelV v u → ∃ as, Reads s.heap u d as ∧ sysModules ∉ as
  | _, _, _, _, .non, r, q => by cases r; cases q; exact ⟨_, .none, by simp⟩
  | _, _, _, _, .bl b, r, q => by cases r; cases q; exact ⟨_, .bool b, by simp⟩
  | _, _, _, _, .int b, r, q => by cases r; obtain ⟨t, rfl⟩ := q; exact ⟨_, .int b t, by simp⟩
  | _, _, _, _, .str b, r, q => by cases r; obtain ⟨t, rfl⟩ := q; exact ⟨_, .str b t, by simp⟩
  | _, _, _, _, .lst h1 h2, r, q => by
    obtain ⟨a, vs, rfl, sq, rv, _⟩ := lst_read w r h1
    cases q
    rw [← hK] at sq
    obtain ⟨its, r', ⟨o, n, ho, hc, _, hdt⟩, _⟩ := I.list sq
    obtain ⟨as, hr, hm⟩ := pd_readsAllD I hsb hK w h2 rv r'
    refine ⟨_, .list ho hc hdt hr, fun z => ?_⟩
    rcases List.mem_cons.mp z with z | z
    · exact not_mods I hsb ho hdt z.symm
    · exact hm z
  | _, _, _, _, .tup h2, r, q => by
    obtain ⟨a, vs, rfl, sq, rv, _⟩ := tup_read w r rfl
    cases q
    obtain ⟨its, r', ⟨o, ho, hc, n, hdt⟩, _⟩ := I.tuple (.of sq)
    obtain ⟨as, hr, hm⟩ := pd_readsAllD I hsb hK w h2 rv r'
    exact ⟨_, .tuple ho hc hdt hr, hm⟩
  | _, _, _, _, .dic h1 h2, r, q => by
    obtain ⟨a, vs, rfl, ha, rv, _⟩ := dic_read w r h1
    cases q
    obtain ⟨_, hs, vs', kv, o, es, ep, ho, hex, hdt, _, hp, _⟩ := dk_of I.hok ha
    obtain ⟨as, bs, r1, r2, m1, m2⟩ := pd_readsKD I hsb hK w h2 rv kv hp
    refine ⟨_, .dict ho hex.1 hdt r1 r2, fun z => ?_⟩
    rcases List.mem_append.mp z with z | z
    · rcases List.mem_cons.mp z with z | z
      · rw [← z] at hs; simp at hs
      · exact m1 z
    · exact m2 z
theorem pd_readsAllD (I : Inv X pins σ H s) (hsb : ∃ mm, X.base.Ns sysModules mm) (hK : X.K = G.K) (w : Wd G R ρ M H) : ∀ {l : List Va} {ds : List PyData} {vs : List V} {us : List Value}, PdRs M l ds → VRs G R ρ l vs → Vals vs us → ∃ as, ReadsAll s.heap us ds as ∧ sysModules ∉ as
  | _, _, _, _, .nil, r, q => by cases r; cases q; exact ⟨_, .nil, by simp⟩
  | _, _, _, _, .cons h1 h2, r, q => by
    cases r with
    | cons r1 r2 =>
      cases q with
      | cons q1 q2 =>
        obtain ⟨as, e1, m1⟩ := pd_readsD I hsb hK w h1 r1 q1
        obtain ⟨bs, e2, m2⟩ := pd_readsAllD I hsb hK w h2 r2 q2
        exact ⟨_, .cons e1 e2, fun z => (List.mem_append.mp z).elim m1 m2⟩
theorem pd_readsKD (I : Inv X pins σ H s) (hsb : ∃ mm, X.base.Ns sysModules mm) (hK : X.K = G.K) (w : Wd G R ρ M H) : ∀ {l : List (Key × Va)} {ds : List (PyData × PyData)} {vs : List (Key × V)} {us : List (Key × Value)} {es : List DictEntry}, PdRk M l ds → VRk G R ρ l vs → KV vs us → Pairs (mixKind X.prog X.w) es us →
    ∃ as bs, ReadsAll s.heap (es.map (·.key)) (ds.map (·.1)) as ∧ ReadsAll s.heap (es.map (·.val)) (ds.map (·.2)) bs ∧ sysModules ∉ as ∧ sysModules ∉ bs
  | _, _, _, _, _, .nil, r, q, p => by cases r; cases q; cases p; exact ⟨_, _, .nil, .nil, by simp, by simp⟩
  | _, _, _, _, _, .cons (k := k) h1 h2, r, q, p => by
    cases r with
    | cons r1 r2 =>
      cases q with
      | cons q1 q2 =>
        cases p with
        | cons p1 p2 p3 =>
          obtain ⟨e1, rv⟩ := q1
          obtain ⟨as, g1, m1⟩ := pd_readsD I hsb hK w h1 r1 rv
          obtain ⟨bs, cs, g2, g3, m2, m3⟩ := pd_readsKD I hsb hK w h2 r2 q2 p3
          rw [← p2] at g1
          replace p1 : keyIs _ _ = true := p1
          rw [← e1] at p1
          exact ⟨_, _, .cons (key_reads p1) g2, .cons g1 g3, fun z => (List.mem_append.mp z).elim (by simp) m2, fun z => (List.mem_append.mp z).elim m1 m3⟩
end
end
/-- repr -/
noncomputable def kRepr (l : List Va) (M : Store) : Res := match l with
  | [x] => (match pdOf M x with
    | some d => if d.showable = true ∧ d.shown.length ≤ sizeLine ∧ d.depth ≤ 60 then some (.val (.str d.shown), M) else none
    | none => none)
  | _ => none
def rRepr (G : Sig) : List V → Hp → VK → Prop := fun xs H Q => ∃ x R ρ M va d, xs = [x] ∧ Wd G R ρ M H ∧ VR G R ρ va x ∧ PdR M va d ∧ (d.showable = true ∧ d.shown.length ≤ sizeLine ∧ d.depth ≤ 60) ∧ Q (.str d.shown) H
theorem repr_leaf {prog : Program} {w : World} {A : Around} {E : Value → Shared → Prop} {s : Shared} {Q : Value → Shared → Prop} {u : Value} {d : PyData} {as : List Addr} (r : Reads s.heap u d as) (hs : d.showable = true) (hd : sysModules ∉ as) (hz : d.shown.length ≤ sizeLine)
    (hg : A.guards = some []) (hu : A.units + (d.depth + 1) < cLine) (hQ : ∀ h' t tk, (∀ b o, s.heap.get? b = some o → h'.get? b = some o) → Q (.str d.shown t) { s with heap := h', toks := tk }) : wpAny (model prog w) A (call (.builtin "repr") [u]) Q E s := by
  cases r with
  | none => exact PySem.P.repr_of_none (hQ s.heap _ _ fun _ _ e => e)
  | bool b => exact PySem.P.repr_of_bool (hQ s.heap _ _ fun _ _ e => e)
  | int i t => exact PySem.P.repr_of_int (by simpa [PyData.showable] using hs) (hQ s.heap _ _ fun _ _ e => e)
  | str x t => exact PySem.P.repr_of_str (hQ s.heap _ _ fun _ _ e => e) hz
  | list h1 h2 h3 h4 => exact repr_of_reads' (.list h1 h2 h3 h4) hs (fun _ => hd) hg hu (fun _ _ e => e) hQ hz
  | tuple h1 h2 h3 h4 => exact repr_of_reads' (.tuple h1 h2 h3 h4) hs (fun _ => hd) hg hu (fun _ _ e => e) hQ hz
  | dict h1 h2 h3 h4 h5 => exact repr_of_reads' (.dict h1 h2 h3 h4 h5) hs (fun _ => hd) hg hu (fun _ _ e => e) hQ hz
section
variable {X : Cx} {G : Sig}
theorem call_reprA {k : Nat} (hK : X.K = G.K) (hr : Room k X.A) (hg : X.A.guards = some []) (hsb : ∃ mm, X.base.Ns sysModules mm) : CallR X (.builtin "repr") (rRepr G) := by
  intro pins s σ H xs us Q I rv ⟨x, R, ρ, M, va, d, e, w, r, pd, ⟨h1, h3, h4⟩, q⟩
  subst e
  obtain ⟨u, rfl, ru⟩ := vals1 rv
  obtain ⟨as, rd, h2⟩ := pd_readsD I hsb hK w pd r ru
  have un := hr.units
  exact repr_leaf rd h1 h2 h3 hg (by omega) fun h' t tk kp => ⟨.str d.shown, H, I.kept (t' := tk) kp, ⟨t, rfl⟩, q⟩
theorem s_repr : OpL G (rRepr G) kRepr := by
  intro R ρ M H xs l Q E w rv p
  unfold kRepr at p
  split at p
  · cases rv with
    | cons r1 r2 =>
      cases r2
      split at p
      · rename_i d hd
        split at p
        · rename_i hc
          exact ⟨_, R, ρ, M, _, d, rfl, w, r1, pdOf_some hd, hc, gives_now w (.str _) p⟩
        · exact False.elim p
      · exact False.elim p
  · exact False.elim p
end
/-! ### == -/
noncomputable section
open Classical
def eqS : Va → Va → Option Bool
  | .non, .non => some true | .non, .int _ => some false | .int _, .non => some false | .non, .bl _ => some false | .bl _, .non => some false | .non, .str _ => some false | .str _, .non => some false
  | .int i, .int j => some (decide (i = j)) | .bl i, .bl j => some (decide (i = j)) | .str i, .str j => some (decide (i = j))
  | .int _, .str _ => some false | .str _, .int _ => some false | .bl _, .str _ => some false | .str _, .bl _ => some false
  | _, _ => none
def eqP (M : Store) (a b : Va) : Option Bool := match pdOf M a, pdOf M b with
  | some d, some e => if SeqAt.shaped d = true ∧ SeqAt.shaped e = true then some (PyData.eqv d e) else none
  | _, _ => none
def opEq (M : Store) (a b : Va) : Option Va := match eqS a b with
  | some k => some (.bl k)
  | none => (eqP M a b).map Va.bl
def opNe (M : Store) (a b : Va) : Option Va := match eqS a b with
  | some k => some (.bl (!k))
  | none => (eqP M a b).map fun k => Va.bl (!k)
end
def rEqA (G : Sig) (neg : Bool) : R2 := fun x y H Q => ∃ R ρ M va vb d e, Wd G R ρ M H ∧ VR G R ρ va x ∧ VR G R ρ vb y ∧ PdR M va d ∧ PdR M vb e ∧ SeqAt.shaped d = true ∧ SeqAt.shaped e = true ∧ Q (.bl (if neg then !PyData.eqv d e else PyData.eqv d e)) H
section
variable {X : Cx} {G : Sig}
theorem op_eqA {k : Nat} (hK : X.K = G.K) (hr : Room k X.A) : OpR X (compareOp .Eq) (rEqA G false) := by
  intro pins s σ H x y v u Q I rx ry ⟨R, ρ, M, va, vb, d, e, w, ra, rb, pd, pe, sd, se, q⟩
  have nd : ∀ {d : PyData}, SeqAt.shaped d = true → d.hasDict = false := fun h => PyData.hasDict_of_canLay _ (SeqAt.canLay_of_shaped h)
  obtain ⟨as, r1⟩ := pd_reads I hK w pd ra rx (nd sd)
  obtain ⟨bs, r2⟩ := pd_reads I hK w pe rb ry (nd se)
  exact SeqAt.compareEq_shaped r1 r2 sd se hr.units ⟨.bl _, H, I, rfl, q⟩
theorem op_neA {k : Nat} (hK : X.K = G.K) (hr : Room k X.A) : OpR X (compareOp .NotEq) (rEqA G true) := by
  intro pins s σ H x y v u Q I rx ry ⟨R, ρ, M, va, vb, d, e, w, ra, rb, pd, pe, sd, se, q⟩
  have nd : ∀ {d : PyData}, SeqAt.shaped d = true → d.hasDict = false := fun h => PyData.hasDict_of_canLay _ (SeqAt.canLay_of_shaped h)
  obtain ⟨as, r1⟩ := pd_reads I hK w pd ra rx (nd sd)
  obtain ⟨bs, r2⟩ := pd_reads I hK w pe rb ry (nd se)
  exact SeqAt.compareNe_shaped r1 r2 sd se hr.units ⟨.bl _, H, I, rfl, q⟩
theorem eqS_scal {R : Hp} {ρ : List Addr} {va vb : Va} {x y : V} {k : Bool} (ra : VR G R ρ va x) (rb : VR G R ρ vb y) (h : eqS va vb = some k) : scal x y = true ∧ k = decide (x = y) := by
  cases ra <;> cases rb <;> first
    | (cases h; done)
    | (cases h; exact ⟨rfl, by simp⟩)
theorem s_eq : Op2 G (fun x y H Q => rEq x y H Q ∨ rEqA G false x y H Q) opEq := by
  intro R ρ M H x y va vb res Q w ra rb h g
  unfold opEq at h
  cases e : eqS va vb with
  | some k =>
    rw [e] at h
    cases h
    obtain ⟨h1, rfl⟩ := eqS_scal ra rb e
    exact .inl ⟨h1, gives_now w (.bl _) g⟩
  | none =>
    rw [e] at h
    unfold eqP at h
    dsimp only at h
    cases h1 : pdOf M va with
    | none => rw [h1] at h; cases h
    | some d =>
      cases h2 : pdOf M vb with
      | none => rw [h1, h2] at h; cases h
      | some f =>
        rw [h1, h2] at h
        dsimp only at h
        split at h
        · rename_i hz; cases h
          exact .inr ⟨R, ρ, M, va, vb, d, f, w, ra, rb, pdOf_some h1, pdOf_some h2, hz.1, hz.2, gives_now w (.bl _) g⟩
        · cases h
theorem s_ne : Op2 G (fun x y H Q => rNe x y H Q ∨ rEqA G true x y H Q) opNe := by
  intro R ρ M H x y va vb res Q w ra rb h g
  unfold opNe at h
  cases e : eqS va vb with
  | some k =>
    rw [e] at h
    cases h
    obtain ⟨h1, rfl⟩ := eqS_scal ra rb e
    exact .inl ⟨h1, gives_now w (.bl _) g⟩
  | none =>
    rw [e] at h
    unfold eqP at h
    dsimp only at h
    cases h1 : pdOf M va with
    | none => rw [h1] at h; cases h
    | some d =>
      cases h2 : pdOf M vb with
      | none => rw [h1, h2] at h; cases h
      | some f =>
        rw [h1, h2] at h
        dsimp only at h
        split at h
        · rename_i hz; cases h
          exact .inr ⟨R, ρ, M, va, vb, d, f, w, ra, rb, pdOf_some h1, pdOf_some h2, hz.1, hz.2, gives_now w (.bl _) g⟩
        · cases h
end
/-! ### in, is None -/
def flatA : Va → Bool
  | .non => true
  | .bl _ => true
  | .int _ => true
  | .str _ => true
  | _ => false
def eqF : Va → Va → Bool
  | .non, .non => true
  | .bl a, .bl b => a == b
  | .bl a, .int b => (if a then 1 else 0) == b
  | .int a, .bl b => a == (if b then 1 else 0)
  | .int a, .int b => a == b
  | .str a, .str b => a == b
  | _, _ => false
def inA (x : Va) (xs : List Va) : Bool := xs.any fun y => eqF y x
def opIn (M : Store) (a b : Va) : Option Va := match a, b with
  | .str x, .str z => (match x.cps.toList with
    | [c] => some (.bl (decide (c ∈ z.cps.toList)))
    | _ => none)
  | a, b => match seqOf M b with
    | some l => if flatA a = true ∧ l.all flatA = true then some (.bl (inA a l)) else none
    | none => none
def opNotIn (M : Store) (a b : Va) : Option Va := match a, b with
  | .str x, .str z => (match x.cps.toList with
    | [c] => some (.bl (!decide (c ∈ z.cps.toList)))
    | _ => none)
  | a, b => match seqOf M b with
    | some l => if flatA a = true ∧ l.all flatA = true then some (.bl (!inA a l)) else none
    | none => none
def isNonA : Va → Bool
  | .non => true
  | _ => false
def opIsN (M : Store) (a b : Va) : Option Va := match b with
  | .non => some (.bl (isNonA a))
  | _ => none
def opNotN (M : Store) (a b : Va) : Option Va := match b with
  | .non => some (.bl (!isNonA a))
  | _ => none
abbrev rInS : R2 := fun x y H Q => ∃ (c : Nat) (z : Str), x = .str ⟨#[c]⟩ ∧ y = .str z ∧ Q (.bl (decide (c ∈ z.cps.toList))) H
abbrev rNotInS : R2 := fun x y H Q => ∃ (c : Nat) (z : Str), x = .str ⟨#[c]⟩ ∧ y = .str z ∧ Q (.bl (!decide (c ∈ z.cps.toList))) H
theorem one_sign {x : Str} {c : Nat} (h : x.cps.toList = [c]) : x = ⟨#[c]⟩ := by
  obtain ⟨a⟩ := x
  congr
  exact Array.toList_inj.mp h
section
variable {X : Cx} {G : Sig} {R : Hp} {ρ : List Addr} {M : Store} {H : Hp}
theorem flat_of {x : Va} {v : V} (r : VR G R ρ x v) (h : flatA x = true) : flatV v = true := by
  cases r <;> first | rfl | (cases h)
theorem flats_of : ∀ {l : List Va} {vs : List V}, VRs G R ρ l vs → l.all flatA = true → vs.all flatV = true
  | _, _, .nil, _ => rfl
  | _, _, .cons r t, h => by
    rw [List.all_cons, Bool.and_eq_true] at h ⊢
    exact ⟨flat_of r h.1, flats_of t h.2⟩
theorem eqF_of {x y : Va} {u v : V} (r : VR G R ρ x u) (q : VR G R ρ y v) : eqF x y = eqV u v := by
  cases r <;> cases q <;> rfl
theorem inA_of {x : Va} {v : V} (r : VR G R ρ x v) : ∀ {l : List Va} {vs : List V}, VRs G R ρ l vs → inA x l = inV v vs
  | _, _, .nil => rfl
  | _, _, .cons q t => by
    unfold inA inV
    rw [List.any_cons, List.any_cons, eqF_of q r]
    congr 1
    exact inA_of r t
theorem s_in (hK : X.K = G.K) : Op2 G (fun x y H Q => rInS x y H Q ∨ rIn X.K false x y H Q) opIn := by
  intro R ρ M H x y va vb res Q w ra rb h g
  unfold opIn at h
  split at h
  · cases ra; cases rb
    split at h
    · rename_i c hc
      cases h
      exact .inl ⟨c, _, by rw [one_sign hc], rfl, gives_now w (.bl _) g⟩
    · cases h
  · split at h
    · rename_i l hl
      split at h
      · rename_i hf
        cases h
        obtain ⟨a, vs, rfl, sq, rv, _⟩ := seq_read w rb hl
        refine .inr ⟨a, vs, rfl, by rw [hK]; exact sq, flat_of ra hf.1, flats_of rv hf.2, ?_⟩
        rw [← inA_of ra rv]
        exact gives_now w (.bl _) g
      · cases h
    · cases h
theorem s_notIn (hK : X.K = G.K) : Op2 G (fun x y H Q => rNotInS x y H Q ∨ rIn X.K true x y H Q) opNotIn := by
  intro R ρ M H x y va vb res Q w ra rb h g
  unfold opNotIn at h
  split at h
  · cases ra; cases rb
    split at h
    · rename_i c hc
      cases h
      exact .inl ⟨c, _, by rw [one_sign hc], rfl, gives_now w (.bl _) g⟩
    · cases h
  · split at h
    · rename_i l hl
      split at h
      · rename_i hf
        cases h
        obtain ⟨a, vs, rfl, sq, rv, _⟩ := seq_read w rb hl
        refine .inr ⟨a, vs, rfl, by rw [hK]; exact sq, flat_of ra hf.1, flats_of rv hf.2, ?_⟩
        rw [← inA_of ra rv]
        exact gives_now w (.bl _) g
      · cases h
    · cases h
theorem non_of {x : Va} {v : V} (r : VR G R ρ x v) : decide (v = .non) = isNonA x := by
  cases r <;> simp [isNonA]
theorem s_isN : Op2 G (fun x y H Q => y = .non ∧ Q (.bl (decide (x = .non))) H) opIsN := by
  intro R ρ M H x y va vb res Q w ra rb h g
  unfold opIsN at h
  split at h
  · cases h; cases rb
    refine ⟨rfl, ?_⟩
    rw [non_of ra]
    exact gives_now w (.bl _) g
  · cases h
theorem s_notN : Op2 G (fun x y H Q => y = .non ∧ Q (.bl (!decide (x = .non))) H) opNotN := by
  intro R ρ M H x y va vb res Q w ra rb h g
  unfold opNotN at h
  split at h
  · cases h; cases rb
    refine ⟨rfl, ?_⟩
    rw [non_of ra]
    exact gives_now w (.bl _) g
  · cases h
end

/-- x in xs, the items data of any depth -/
def pdList : PyData → Option (List PyData)
  | .list ds => some ds
  | _ => none
noncomputable def inP (M : Store) (a b : Va) : Option Bool := match pdOf M a, (pdOf M b).bind pdList with
  | some d, some ds => if SeqAt.shaped d = true ∧ SeqAt.shaped (.list ds) = true then some (ds.any fun z => PyData.eqv z d) else none
  | _, _ => none
noncomputable def opInD (M : Store) (a b : Va) : Option Va := match opIn M a b with
  | some r => some r
  | none => (inP M a b).map Va.bl
noncomputable def opNotInD (M : Store) (a b : Va) : Option Va := match opNotIn M a b with
  | some r => some r
  | none => (inP M a b).map fun k => Va.bl (!k)
def rInP (G : Sig) (neg : Bool) : R2 := fun x y H Q => ∃ R ρ M va vb d ds, Wd G R ρ M H ∧ VR G R ρ va x ∧ VR G R ρ vb y ∧ PdR M va d ∧ PdR M vb (.list ds) ∧ SeqAt.shaped d = true ∧ SeqAt.shaped (.list ds) = true ∧
  Q (.bl (if neg then !(ds.any fun z => PyData.eqv z d) else ds.any fun z => PyData.eqv z d)) H
section
variable {X : Cx} {G : Sig}
theorem room_shaped {A : Around} {d : PyData} {m : Nat} (h : SeqAt.shaped d = true) (hu : A.units + 65 < cLine) : A.units + 1 + min m d.depth < cLine := by
  have h1 := SeqAt.depth_of_shaped h
  have h2 : min m d.depth ≤ d.depth := Nat.min_le_right _ _
  omega
theorem op_inP {k : Nat} (hK : X.K = G.K) (hr : Room k X.A) : OpR X (compareOp .In) (rInP G false) := by
  intro pins s σ H x y v u Q I rx ry ⟨R, ρ, M, va, vb, d, ds, w, ra, rb, pd, pe, sd, se, q⟩
  have nd : ∀ {d : PyData}, SeqAt.shaped d = true → d.hasDict = false := fun h => PyData.hasDict_of_canLay _ (SeqAt.canLay_of_shaped h)
  obtain ⟨as, r1⟩ := pd_reads I hK w pd ra rx (nd sd)
  obtain ⟨bs, r2⟩ := pd_reads I hK w pe rb ry (nd se)
  have un := hr.un
  exact SeqAt.in_list_reads r2 r1 (SeqAt.canLay_of_shaped se) (SeqAt.canLay_of_shaped sd) (room_shaped sd (by omega)) ⟨.bl _, H, I, rfl, q⟩
theorem op_notInP {k : Nat} (hK : X.K = G.K) (hr : Room k X.A) : OpR X (compareOp .NotIn) (rInP G true) := by
  intro pins s σ H x y v u Q I rx ry ⟨R, ρ, M, va, vb, d, ds, w, ra, rb, pd, pe, sd, se, q⟩
  have nd : ∀ {d : PyData}, SeqAt.shaped d = true → d.hasDict = false := fun h => PyData.hasDict_of_canLay _ (SeqAt.canLay_of_shaped h)
  obtain ⟨as, r1⟩ := pd_reads I hK w pd ra rx (nd sd)
  obtain ⟨bs, r2⟩ := pd_reads I hK w pe rb ry (nd se)
  have un := hr.un
  exact SeqAt.notIn_list_reads r2 r1 (SeqAt.canLay_of_shaped se) (SeqAt.canLay_of_shaped sd) (room_shaped sd (by omega)) ⟨.bl _, H, I, rfl, q⟩
theorem inP_some {M : Store} {a b : Va} {k : Bool} (h : inP M a b = some k) : ∃ d ds, PdR M a d ∧ PdR M b (.list ds) ∧ SeqAt.shaped d = true ∧ SeqAt.shaped (.list ds) = true ∧ k = ds.any fun z => PyData.eqv z d := by
  unfold inP at h
  cases h1 : pdOf M a with
  | none => rw [h1] at h; cases h
  | some d =>
    cases h2 : pdOf M b with
    | none => rw [h1, h2] at h; cases h
    | some e =>
      rw [h1, h2] at h
      cases e <;> first | (cases h; done) | skip
      rename_i ds
      dsimp only [Option.bind, pdList] at h
      split at h
      · rename_i hz; cases h
        exact ⟨d, ds, pdOf_some h1, pdOf_some h2, hz.1, hz.2, rfl⟩
      · cases h
theorem s_inD (hK : X.K = G.K) : Op2 G (fun x y H Q => (rInS x y H Q ∨ rIn X.K false x y H Q) ∨ rInP G false x y H Q) opInD := by
  intro R ρ M H x y va vb res Q w ra rb h g
  unfold opInD at h
  split at h
  · rename_i r hr
    cases h
    exact .inl (s_in hK R ρ M H x y va vb _ Q w ra rb hr g)
  · cases q : inP M va vb with
    | none => rw [q] at h; cases h
    | some k =>
      rw [q] at h
      cases h
      obtain ⟨d, ds, h1, h2, h3, h4, rfl⟩ := inP_some q
      exact .inr ⟨R, ρ, M, va, vb, d, ds, w, ra, rb, h1, h2, h3, h4, gives_now w (.bl _) g⟩
theorem s_notInD (hK : X.K = G.K) : Op2 G (fun x y H Q => (rNotInS x y H Q ∨ rIn X.K true x y H Q) ∨ rInP G true x y H Q) opNotInD := by
  intro R ρ M H x y va vb res Q w ra rb h g
  unfold opNotInD at h
  split at h
  · rename_i r hr
    cases h
    exact .inl (s_notIn hK R ρ M H x y va vb _ Q w ra rb hr g)
  · cases q : inP M va vb with
    | none => rw [q] at h; cases h
    | some k =>
      rw [q] at h
      cases h
      obtain ⟨d, ds, h1, h2, h3, h4, rfl⟩ := inP_some q
      exact .inr ⟨R, ρ, M, va, vb, d, ds, w, ra, rb, h1, h2, h3, h4, gives_now w (.bl _) g⟩
end

/-! ### items, slices -/
def opIx (M : Store) (a b : Va) : Option Va := match b with
  | .int i => (match a with
    | .str z => if z.length ≤ sizeLine then (atI z.cps.toList i).map fun c => Va.str ⟨#[c]⟩ else none
    | a => match seqOf M a with
      | some l => atI l i
      | none => none)
  | _ => none
section
variable {X : Cx} {G : Sig} {R : Hp} {ρ : List Addr} {M : Store} {H : Hp}
theorem VRs.atI {l : List Va} {vs : List V} (r : VRs G R ρ l vs) {i : Int} {x : Va} (h : L2.atI l i = some x) : ∃ v, L2.atI vs i = some v ∧ VR G R ρ x v := by
  unfold L2.atI at h ⊢
  rw [← r.length]
  cases q : ixN l.length i with
  | none => rw [q] at h; cases h
  | some j =>
    rw [q] at h
    exact r.get h
theorem s_ix (hK : X.K = G.K) : Op2 G (rIx X.K) opIx := by
  intro R ρ M H x y va vb res Q w ra rb h g
  have lists : ∀ i, (match seqOf M va with | some l => L2.atI l i | none => none) = some res → y = .int i → rIx X.K x y H Q := fun i h e => by
    subst e
    split at h
    · rename_i l hl
      obtain ⟨a, vs, rfl, sq, rv, _⟩ := seq_read w ra hl
      obtain ⟨v, e, r⟩ := rv.atI h
      rw [← hK] at sq
      rcases sq with sq | sq
      · exact .inl ⟨a, vs, i, v, rfl, rfl, sq, e, gives_now w r g⟩
      · exact .inr (.inl ⟨a, vs, i, v, rfl, rfl, sq, e, gives_now w r g⟩)
    · cases h
  unfold opIx at h
  split at h
  · cases rb
    rename_i i
    split at h
    · rename_i z
      cases ra
      split at h
      · rename_i hz
        cases q : L2.atI z.cps.toList i with
        | none => rw [q] at h; cases h
        | some c =>
          rw [q] at h
          cases h
          exact .inr (.inr ⟨z, i, c, rfl, rfl, hz, q, gives_now w (.str _) g⟩)
      · cases h
    · exact lists i h rfl
  · cases h
end
/-- bounds of a slice -/
def evPart (e : Option SE) : SE := match e with
  | none => fun _ M => some (.val .non, M)
  | some e => e
def boundOf : Va → Option (Option Int)
  | .non => some none
  | .int i => some (some i)
  | _ => none
def cutA {α : Type} (l : List α) (lo hi : Option Int) : List α := (l.drop (HT.sIx l.length 0 lo)).take (HT.sIx l.length l.length hi - HT.sIx l.length 0 lo)
def opSl (M : Store) (x : Va) (lo hi : Option Int) : Option Va := match x with
  | .str z => if z.length ≤ sizeLine then some (.str (cutS z lo hi)) else none
  | .tup l => if HT.sIx l.length 0 lo = 0 ∧ HT.sIx l.length l.length hi = l.length then none else some (.tup (cutA l lo hi))
  | x => match lstOf M x with
    | some l => some (.lst (cutA l lo hi))
    | none => none
def evSl (e l u : SE) : SE := fun s M => bindO (e s M) fun x M1 => bindO (l s M1) fun vl M2 => bindO (u s M2) fun vu M3 => match boundOf vl, boundOf vu with
  | some lo, some hi => (match opSl M3 x lo hi with
    | some r => some (.val r, M3)
    | none => none)
  | _, _ => none
def tO (G : Sig) (E : XK) (ev : SE) : TO := fun σ H Q => ∃ R ρ s M, Wd G R ρ M H ∧ SR G R ρ s σ ∧ match ev s M with
  | none => False
  | some (.val v, M1) => ∀ R' ρ' H' b, Ext R ρ H R' ρ' H' → Wd G R' ρ' M1 H' → boundOf v = some b → Q b H'
  | some (.exc c x, M1) => PostX G R ρ H M1 E c x
section
variable {X : Cx} {G : Sig} {E : XK} {R : Hp} {ρ : List Addr} {M : Store} {H : Hp} {a b c : Expr} {ea eb ec : SE} {pos p2 : Pos} {lo hi : Option Expr}
theorem qo_none : PO X none (tO G E (evC .non)) := ⟨fun pins s σ H Q I ⟨R, ρ, s', M, w, sr, p⟩ => po_none.run pins s σ H Q I (p R ρ H none Ext.refl w rfl)⟩
theorem VRs.cut {l : List Va} {vs : List V} (r : VRs G R ρ l vs) (lo hi : Option Int) : VRs G R ρ (cutA l lo hi) (cutV vs lo hi) := by
  unfold cutA cutV
  rw [r.length]
  exact (r.drop _).take _
theorem cutA_le {α : Type} (l : List α) (lo hi : Option Int) : (cutA l lo hi).length ≤ l.length := by
  unfold cutA
  rw [List.length_take, List.length_drop]
  omega
end
section
variable {X : Cx} {G : Sig} {E : XK} {H : Hp} {a : Expr} {ea el eu : SE} {pos p2 : Pos} {lo hi : Option Expr}
theorem qo_some (h : PE X a (tE G E ea)) : PO X (some a) (tO G E (fun s M => bindO (ea s M) fun v M1 => match v with | .int i => some (.val (.int i), M1) | _ => none)) :=
  ⟨fun pins s σ H Q I ⟨R, ρ, s', M, w, sr, p⟩ => (po_some h).run pins s σ H Q I (by
    refine ⟨R, ρ, s', M, w, sr, ?_⟩
    dsimp only at p
    rcases q : ea s' M with _ | ⟨x | ⟨c, x⟩, M1⟩ <;> rw [q] at p
    · exact p
    · cases x <;> first | exact False.elim p | skip
      intro R1 ρ1 H1 v e1 w1 r1
      cases r1
      exact ⟨_, rfl, p R1 ρ1 H1 _ e1 w1 rfl⟩
    · exact p)⟩
def evB (e : SE) : SE := fun s M => bindO (e s M) fun v M1 => match v with | .int i => some (.val (.int i), M1) | _ => none
theorem qo_b (h : PE X a (tE G E ea)) : PO X (some a) (tO G E (evB ea)) := qo_some h
theorem s_sl (hK : X.K = G.K) {R : Hp} {ρ : List Addr} {M : Store} {x : V} {va res : Va} {l u : Option Int} {Q : VK} (w : Wd G R ρ M H) (r : VR G R ρ va x) (h : opSl M va l u = some res) (g : Gives G R ρ H M res Q) : (rSlL X.K x l u H Q ∨ rSlS x l u H Q) ∨ rSlT X.K x l u H Q := by
  have lists : (match lstOf M va with | some m => some (Va.lst (cutA m l u)) | none => none) = some res → rSlL X.K x l u H Q := fun h => by
    split at h
    · rename_i m hm
      cases h
      obtain ⟨a, vs, rfl, sq, rv, z⟩ := lst_read w r hm
      exact ⟨a, vs, rfl, by rw [hK]; exact sq, fun p hp => gives_lst w (rv.cut l u) (Nat.le_trans (cutA_le m l u) z) g hp⟩
    · cases h
  unfold opSl at h
  split at h
  · cases r
    split at h
    · rename_i hz; cases h
      exact .inl (.inr ⟨_, rfl, hz, gives_now w (.str _) g⟩)
    · cases h
  · obtain ⟨a, vs, rfl, sq, rv, z⟩ := tup_read w r rfl
    split at h
    · cases h
    · rename_i hz; cases h
      exact .inr ⟨a, vs, rfl, .of sq, by rw [← rv.length]; exact hz, fun p hp => gives_tup w (rv.cut l u) (Nat.le_trans (cutA_le _ l u) z) g hp⟩
  · exact .inl (.inl (lists h))
theorem q_sl (hK : X.K = G.K) (ha : PE X a (tE G E ea)) (hl : PO X lo (tO G E el)) (hu : PO X hi (tO G E eu)) : PE X (.Subscript a (.Slice lo hi none p2) pos) (tE G E (evSl ea el eu)) :=
  pe_imp (pe_slice ((sl_list.or sl_str).or sl_tup) ha hl hu) fun σ H Q ⟨R, ρ, s, M, w, sr, p⟩ => stepE w sr p fun R1 ρ1 M1 H1 va v e1 w1 sr1 r1 p1 => by
    refine ⟨R1, ρ1, s, M1, w1, sr1, ?_⟩
    rcases q : el s M1 with _ | ⟨x | ⟨c, x⟩, M2⟩ <;> rw [q] at p1
    · exact p1
    · intro R2 ρ2 H2 b e2 w2 hb
      replace p1 := Post.ext e2 p1
      refine ⟨R2, ρ2, s, M2, w2, sr1.mono e2.gr, ?_⟩
      rw [bindO_val] at p1
      rcases q2 : eu s M2 with _ | ⟨y | ⟨c, y⟩, M3⟩ <;> rw [q2] at p1
      · exact p1
      · intro R3 ρ3 H3 b3 e3 w3 hb3
        replace p1 := Post.ext e3 p1
        rw [bindO_val] at p1
        rw [hb, hb3] at p1
        replace p1 : Post G R3 ρ3 H3 (match opSl M3 va b b3 with | some r => some (.val r, M3) | none => none) Q E := p1
        cases q4 : opSl M3 va b b3 with
        | none => rw [q4] at p1; exact False.elim p1
        | some res => rw [q4] at p1; exact s_sl hK w3 (r1.mono (e2.trans e3).gr) q4 p1
      · exact p1
    · exact p1
end
end PV

set_option Elab.async false
set_option linter.all false
set_option maxRecDepth 100000
set_option maxHeartbeats 4000000
namespace PV
open PySem L2

/-! ### lists of one kind -/
def intsOf : List Va → Option (List Int)
  | [] => some []
  | .int i :: r => (intsOf r).map (i :: ·)
  | _ :: _ => none
def strsOf : List Va → Option (List Str)
  | [] => some []
  | .str i :: r => (strsOf r).map (i :: ·)
  | _ :: _ => none
def blsOf : List Va → Option (List Bool)
  | [] => some []
  | .bl i :: r => (blsOf r).map (i :: ·)
  | _ :: _ => none
@[simp] theorem intsOf_map : ∀ ns : List Int, intsOf (ns.map Va.int) = some ns
  | [] => rfl
  | n :: ns => by simp [intsOf, intsOf_map ns]
@[simp] theorem strsOf_map : ∀ ns : List Str, strsOf (ns.map Va.str) = some ns
  | [] => rfl
  | n :: ns => by simp [strsOf, strsOf_map ns]
@[simp] theorem blsOf_map : ∀ ns : List Bool, blsOf (ns.map Va.bl) = some ns
  | [] => rfl
  | n :: ns => by simp [blsOf, blsOf_map ns]
section
variable {G : Sig} {R : Hp} {ρ : List Addr}
theorem ints_of : ∀ {l : List Va} {vs : List V} {ns : List Int}, VRs G R ρ l vs → intsOf l = some ns → vs = ns.map V.int
  | _, _, _, .nil, h => by cases h; rfl
  | _, _, _, .cons (x := x) r t, h => by
    cases x <;> first | (cases h; done) | skip
    cases r
    rename_i i
    unfold intsOf at h
    cases q : intsOf _ with
    | none => rw [q] at h; cases h
    | some m => rw [q] at h; cases h; rw [ints_of t q]; rfl
theorem strs_of : ∀ {l : List Va} {vs : List V} {ns : List Str}, VRs G R ρ l vs → strsOf l = some ns → vs = ns.map V.str
  | _, _, _, .nil, h => by cases h; rfl
  | _, _, _, .cons (x := x) r t, h => by
    cases x <;> first | (cases h; done) | skip
    cases r
    rename_i i
    unfold strsOf at h
    cases q : strsOf _ with
    | none => rw [q] at h; cases h
    | some m => rw [q] at h; cases h; rw [strs_of t q]; rfl
theorem bls_of : ∀ {l : List Va} {vs : List V} {ns : List Bool}, VRs G R ρ l vs → blsOf l = some ns → vs = ns.map V.bl
  | _, _, _, .nil, h => by cases h; rfl
  | _, _, _, .cons (x := x) r t, h => by
    cases x <;> first | (cases h; done) | skip
    cases r
    rename_i i
    unfold blsOf at h
    cases q : blsOf _ with
    | none => rw [q] at h; cases h
    | some m => rw [q] at h; cases h; rw [bls_of t q]; rfl
theorem VRs.strs : ∀ (ns : List Str), VRs G R ρ (ns.map Va.str) (ns.map V.str)
  | [] => .nil
  | n :: ns => .cons (.str n) (VRs.strs ns)
theorem lst_ints {M : Store} {H : Hp} {x : Va} {v : V} {l : List Va} {ns : List Int} (w : Wd G R ρ M H) (r : VR G R ρ x v) (h : lstOf M x = some l) (h2 : intsOf l = some ns) : ∃ a, v = .ref a ∧ SqL G.K H a (ns.map V.int) := by
  obtain ⟨a, vs, rfl, sq, rv, _⟩ := lst_read w r h
  rw [ints_of rv h2] at sq
  exact ⟨a, rfl, sq⟩
end
def maxL (n : Int) (ns : List Int) : Int := ns.foldl (fun m y => if y > m then y else m) n
def minL (n : Int) (ns : List Int) : Int := ns.foldl (fun m y => if y < m then y else m) n
theorem maxL_mem : ∀ (ns : List Int) (n : Int), maxL n ns ∈ n :: ns
  | [], n => by simp [maxL]
  | y :: ns, n => by
    have h := maxL_mem ns (if y > n then y else n)
    show maxL (if y > n then y else n) ns ∈ n :: y :: ns
    rcases List.mem_cons.mp h with h | h
    · rw [h]; split <;> simp
    · simp [h]
theorem maxL_le : ∀ (ns : List Int) (n : Int), ∀ y ∈ n :: ns, y ≤ maxL n ns
  | [], n, y, h => by simp [maxL] at h ⊢; omega
  | z :: ns, n, y, h => by
    show y ≤ maxL (if z > n then z else n) ns
    have hm : n ≤ (if z > n then z else n) ∧ z ≤ (if z > n then z else n) := by split <;> omega
    generalize (if z > n then z else n) = m at hm ⊢
    have ih := maxL_le ns m
    have h0 := ih m (by simp)
    rcases List.mem_cons.mp h with h | h
    · subst h; omega
    · rcases List.mem_cons.mp h with h | h
      · subst h; omega
      · exact ih y (by simp [h])
theorem minL_mem : ∀ (ns : List Int) (n : Int), minL n ns ∈ n :: ns
  | [], n => by simp [minL]
  | y :: ns, n => by
    have h := minL_mem ns (if y < n then y else n)
    show minL (if y < n then y else n) ns ∈ n :: y :: ns
    rcases List.mem_cons.mp h with h | h
    · rw [h]; split <;> simp
    · simp [h]
theorem minL_le : ∀ (ns : List Int) (n : Int), ∀ y ∈ n :: ns, minL n ns ≤ y
  | [], n, y, h => by simp [minL] at h ⊢; omega
  | z :: ns, n, y, h => by
    show minL (if z < n then z else n) ns ≤ y
    have hm : (if z < n then z else n) ≤ n ∧ (if z < n then z else n) ≤ z := by split <;> omega
    generalize (if z < n then z else n) = m at hm ⊢
    have ih := minL_le ns m
    have h0 := ih m (by simp)
    rcases List.mem_cons.mp h with h | h
    · subst h; omega
    · rcases List.mem_cons.mp h with h | h
      · subst h; omega
      · exact ih y (by simp [h])

/-! ### calls -/
def gLen (M : Store) : List Va → Option Va
  | [.str z] => if z.length ≤ sizeLine then some (.int z.length) else none
  | [x] => match seqOf M x with
    | some l => some (.int l.length)
    | none => (dicOf M x).map fun l => .int l.length
  | _ => none
def gMax (M : Store) : List Va → Option Va
  | [.int i, .int j] => some (.int (if j > i then j else i))
  | [x] => match lstOf M x with
    | some l => (match intsOf l with
      | some (n :: ns) => some (.int (maxL n ns))
      | _ => none)
    | none => none
  | _ => none
def gMin (M : Store) : List Va → Option Va
  | [.int i, .int j] => some (.int (if j < i then j else i))
  | [x] => match lstOf M x with
    | some l => (match intsOf l with
      | some (n :: ns) => some (.int (minL n ns))
      | _ => none)
    | none => none
  | _ => none
def gAbs (_ : Store) : List Va → Option Va
  | [.int i] => some (.int (if i < 0 then -i else i))
  | _ => none
def gInt (_ : Store) : List Va → Option Va
  | [.int i] => some (.int i)
  | [.bl k] => some (.int (if k then 1 else 0))
  | [.str a] => if a.length ≤ 640 then (PySem.intText? a).map Va.int else none
  | _ => none
def gStr (_ : Store) : List Va → Option Va
  | [.int i] => if i.natAbs.log2 < 1920 then some (.str (toString i)) else none
  | [.str a] => some (.str a)
  | _ => none
def gSum (M : Store) : List Va → Option Va
  | [x] => match lstOf M x with
    | some l => (intsOf l).map fun ns => .int ns.sum
    | none => none
  | _ => none
def gAll (M : Store) : List Va → Option Va
  | [x] => match lstOf M x with
    | some l => (blsOf l).map fun ns => .bl (ns.all id)
    | none => none
  | _ => none
def gAny (M : Store) : List Va → Option Va
  | [x] => match lstOf M x with
    | some l => (blsOf l).map fun ns => .bl (ns.any id)
    | none => none
  | _ => none
def gList (M : Store) : List Va → Option Va
  | [x] => (seqOf M x).map Va.lst
  | _ => none
def kList (l : List Va) (M : Store) : Res := match l with
  | [x] => (match seqOf M x with
    | some l => some (.val (.cel M.nx), M.new (.lst l))
    | none => none)
  | _ => none
section
variable {X : Cx} {G : Sig}
theorem pure_of {r : List V → Hp → VK → Prop} {g : Store → List Va → Option Va} (h : ∀ R ρ M H xs l res Q, Wd G R ρ M H → VRs G R ρ l xs → g M l = some res → Gives G R ρ H M res Q → r xs H Q) : OpL G r (kPure g) := fun R ρ M H xs l Q E w rv p => by
  unfold kPure at p
  cases q : g M l with
  | none => rw [q] at p; exact False.elim p
  | some res => rw [q] at p; exact h R ρ M H xs l res Q w rv q p
theorem one_of {R : Hp} {ρ : List Addr} {x : Va} {vs : List V} (r : VRs G R ρ [x] vs) : ∃ v, vs = [v] ∧ VR G R ρ x v := by
  cases r with
  | cons r t => cases t; exact ⟨_, rfl, r⟩
theorem two_of {R : Hp} {ρ : List Addr} {x y : Va} {vs : List V} (r : VRs G R ρ [x, y] vs) : ∃ v u, vs = [v, u] ∧ VR G R ρ x v ∧ VR G R ρ y u := by
  cases r with
  | cons r t =>
    obtain ⟨u, rfl, q⟩ := one_of t
    exact ⟨_, u, rfl, r, q⟩
abbrev rLenA (K : PySem.W.Frag) : List V → Hp → VK → Prop := fun xs H Q => (∃ p ys, xs = [.ref p] ∧ (SqL K H p ys ∨ SqT K H p ys) ∧ Q (.int ys.length) H) ∨ ((∃ z, xs = [.str z] ∧ z.length ≤ sizeLine ∧ Q (.int z.length) H) ∨ ∃ d kvs, xs = [.ref d] ∧ H d = some (.dK kvs) ∧ Q (.int kvs.length) H)
theorem s_len (hK : X.K = G.K) : OpL G (rLenA X.K) (kPure gLen) := pure_of fun R ρ M H xs l res Q w rv h g => by
  unfold gLen at h
  split at h
  · obtain ⟨v, rfl, r⟩ := one_of rv
    cases r
    split at h
    · rename_i hz; cases h
      exact .inr (.inl ⟨_, rfl, hz, gives_now w (.int _) g⟩)
    · cases h
  · obtain ⟨v, rfl, r⟩ := one_of rv
    split at h
    · rename_i l hl
      cases h
      obtain ⟨a, vs, rfl, sq, rv', _⟩ := seq_read w r hl
      refine .inl ⟨a, vs, rfl, by rw [hK]; exact sq, ?_⟩
      rw [← rv'.length]
      exact gives_now w (.int _) g
    · rename_i x _ _ _
      cases q : dicOf M x with
      | none => rw [q] at h; cases h
      | some l =>
        rw [q] at h
        cases h
        obtain ⟨a, vs, rfl, hd, rk, _⟩ := dic_read w r q
        refine .inr (.inr ⟨a, vs, rfl, hd, ?_⟩)
        rw [← rk.length]
        exact gives_now w (.int _) g
  · cases h
theorem s_max (hK : X.K = G.K) : OpL G (fun xs H Q => (∃ i j, xs = [.int i, .int j] ∧ Q (.int (if j > i then j else i)) H) ∨ rMax X.K xs H Q) (kPure gMax) := pure_of fun R ρ M H xs l res Q w rv h g => by
  unfold gMax at h
  split at h
  · obtain ⟨v, u, rfl, r, q⟩ := two_of rv
    cases r; cases q; cases h
    exact .inl ⟨_, _, rfl, gives_now w (.int _) g⟩
  · obtain ⟨v, rfl, r⟩ := one_of rv
    split at h
    · rename_i l hl
      split at h
      · rename_i n ns hn
        cases h
        obtain ⟨a, rfl, sq⟩ := lst_ints w r hl hn
        refine .inr ⟨a, n :: ns, rfl, by rw [hK]; exact sq, by simp, fun m h1 h2 => ?_⟩
        have e : m = maxL n ns := Int.le_antisymm (maxL_le ns n m h1) (h2 _ (maxL_mem ns n))
        rw [e]
        exact gives_now w (.int _) g
      · cases h
    · cases h
  · cases h
theorem s_min (hK : X.K = G.K) : OpL G (fun xs H Q => (∃ i j, xs = [.int i, .int j] ∧ Q (.int (if j < i then j else i)) H) ∨ rMin X.K xs H Q) (kPure gMin) := pure_of fun R ρ M H xs l res Q w rv h g => by
  unfold gMin at h
  split at h
  · obtain ⟨v, u, rfl, r, q⟩ := two_of rv
    cases r; cases q; cases h
    exact .inl ⟨_, _, rfl, gives_now w (.int _) g⟩
  · obtain ⟨v, rfl, r⟩ := one_of rv
    split at h
    · rename_i l hl
      split at h
      · rename_i n ns hn
        cases h
        obtain ⟨a, rfl, sq⟩ := lst_ints w r hl hn
        refine .inr ⟨a, n :: ns, rfl, by rw [hK]; exact sq, by simp, fun m h1 h2 => ?_⟩
        have e : m = minL n ns := Int.le_antisymm (h2 _ (minL_mem ns n)) (minL_le ns n m h1)
        rw [e]
        exact gives_now w (.int _) g
      · cases h
    · cases h
  · cases h
theorem s_abs : OpL G (fun xs H Q => ∃ i, xs = [.int i] ∧ Q (.int (if i < 0 then -i else i)) H) (kPure gAbs) := pure_of fun R ρ M H xs l res Q w rv h g => by
  unfold gAbs at h
  split at h
  · obtain ⟨v, rfl, r⟩ := one_of rv
    cases r; cases h
    exact ⟨_, rfl, gives_now w (.int _) g⟩
  · cases h
theorem s_int : OpL G (fun xs H Q => ((∃ i, xs = [.int i] ∧ Q (.int i) H) ∨ ∃ k, xs = [.bl k] ∧ Q (.int (if k then 1 else 0)) H) ∨ ∃ a n, xs = [.str a] ∧ PySem.intText? a = some n ∧ a.length ≤ 640 ∧ Q (.int n) H) (kPure gInt) := pure_of fun R ρ M H xs l res Q w rv h g => by
  unfold gInt at h
  split at h
  · obtain ⟨v, rfl, r⟩ := one_of rv
    cases r; cases h
    exact .inl (.inl ⟨_, rfl, gives_now w (.int _) g⟩)
  · obtain ⟨v, rfl, r⟩ := one_of rv
    cases r; cases h
    exact .inl (.inr ⟨_, rfl, gives_now w (.int _) g⟩)
  · obtain ⟨v, rfl, r⟩ := one_of rv
    cases r
    rename_i a
    split at h
    · rename_i hz
      cases q : PySem.intText? a with
      | none => rw [q] at h; cases h
      | some n =>
        rw [q] at h
        cases h
        exact .inr ⟨a, n, rfl, q, hz, gives_now w (.int _) g⟩
    · cases h
  · cases h
theorem s_str : OpL G (fun xs H Q => (∃ i, xs = [.int i] ∧ i.natAbs.log2 < 1920 ∧ Q (.str (toString i)) H) ∨ ∃ a, xs = [.str a] ∧ Q (.str a) H) (kPure gStr) := pure_of fun R ρ M H xs l res Q w rv h g => by
  unfold gStr at h
  split at h
  · obtain ⟨v, rfl, r⟩ := one_of rv
    cases r
    split at h
    · rename_i hz; cases h
      exact .inl ⟨_, rfl, hz, gives_now w (.str _) g⟩
    · cases h
  · obtain ⟨v, rfl, r⟩ := one_of rv
    cases r; cases h
    exact .inr ⟨_, rfl, gives_now w (.str _) g⟩
  · cases h
theorem s_sum (hK : X.K = G.K) : OpL G (rSum X.K) (kPure gSum) := pure_of fun R ρ M H xs l res Q w rv h g => by
  unfold gSum at h
  split at h
  · obtain ⟨v, rfl, r⟩ := one_of rv
    split at h
    · rename_i l hl
      cases q : intsOf l with
      | none => rw [q] at h; cases h
      | some ns =>
        rw [q] at h
        cases h
        obtain ⟨a, rfl, sq⟩ := lst_ints w r hl q
        exact ⟨a, ns, rfl, by rw [hK]; exact sq, gives_now w (.int _) g⟩
    · cases h
  · cases h
theorem s_all (hK : X.K = G.K) : OpL G (rAll X.K) (kPure gAll) := pure_of fun R ρ M H xs l res Q w rv h g => by
  unfold gAll at h
  split at h
  · obtain ⟨v, rfl, r⟩ := one_of rv
    split at h
    · rename_i l hl
      cases q : blsOf l with
      | none => rw [q] at h; cases h
      | some ns =>
        rw [q] at h
        cases h
        obtain ⟨a, vs, rfl, sq, rv', _⟩ := lst_read w r hl
        rw [bls_of rv' q] at sq
        exact ⟨a, ns, rfl, by rw [hK]; exact sq, gives_now w (.bl _) g⟩
    · cases h
  · cases h
theorem s_any (hK : X.K = G.K) : OpL G (rAny X.K) (kPure gAny) := pure_of fun R ρ M H xs l res Q w rv h g => by
  unfold gAny at h
  split at h
  · obtain ⟨v, rfl, r⟩ := one_of rv
    split at h
    · rename_i l hl
      cases q : blsOf l with
      | none => rw [q] at h; cases h
      | some ns =>
        rw [q] at h
        cases h
        obtain ⟨a, vs, rfl, sq, rv', _⟩ := lst_read w r hl
        rw [bls_of rv' q] at sq
        exact ⟨a, ns, rfl, by rw [hK]; exact sq, gives_now w (.bl _) g⟩
    · cases h
  · cases h
abbrev rListA (K : PySem.W.Frag) : List V → Hp → VK → Prop := fun xs H Q => ∃ p ys, xs = [.ref p] ∧ (SqL K H p ys ∨ SqT K H p ys) ∧ ∀ l, H l = none → Q (.ref l) (upd H l (.lst ys))
theorem s_listF (hK : X.K = G.K) : OpL G (rListA X.K) (kPure gList) := pure_of fun R ρ M H xs l res Q w rv h g => by
  unfold gList at h
  split at h
  · obtain ⟨v, rfl, r⟩ := one_of rv
    rename_i x
    cases q : seqOf M x with
    | none => rw [q] at h; cases h
    | some l =>
      rw [q] at h
      cases h
      obtain ⟨a, vs, rfl, sq, rv', z⟩ := seq_read w r q
      exact ⟨a, vs, rfl, by rw [hK]; exact sq, fun p hp => gives_lst w rv' z g hp⟩
  · cases h
theorem s_listC (hK : X.K = G.K) : OpL G (rListA X.K) kList := fun R ρ M H xs l Q E w rv p => by
  unfold kList at p
  split at p
  · obtain ⟨v, rfl, r⟩ := one_of rv
    split at p
    · rename_i l hl
      obtain ⟨a, vs, rfl, sq, rv', z⟩ := seq_read w r hl
      exact ⟨a, vs, rfl, by rw [hK]; exact sq, fun q hq => gives_new w rv' z p hq⟩
    · exact False.elim p
  · exact False.elim p
end

/-! ### methods of what is built in -/
def evM2 (ty : Store → Va → Bool) (k : Va → List Va → Store → Res) (eo ea : SE) : SE := fun s M => bindO (eo s M) fun o M1 => if ty M1 o = true then bindO (ea s M1) fun t M2 => match t with
  | .tup l => k o l M2
  | _ => none
  else none
def isStrA (_ : Store) : Va → Bool
  | .str _ => true
  | _ => false
def isLstA (M : Store) (x : Va) : Bool := (lstOf M x).isSome
def isDicA (M : Store) (x : Va) : Bool := (dicOf M x).isSome
def TyOk (G : Sig) (T : String) (ty : Store → Va → Bool) : Prop := ∀ R ρ M H x o, Wd G R ρ M H → VR G R ρ o x → ty M o = true → tyV G.K T x H
theorem tyStr {G : Sig} : TyOk G "str" isStrA := fun R ρ M H x o w r h => by
  cases r <;> first | (cases h; done) | rfl
theorem tyLst {G : Sig} : TyOk G "list" isLstA := fun R ρ M H x o w r h => by
  unfold isLstA at h
  cases q : lstOf M o with
  | none => rw [q] at h; cases h
  | some l =>
    obtain ⟨a, vs, rfl, sq, _⟩ := lst_read w r q
    exact .inl ⟨rfl, vs, sq⟩
theorem tyDic {G : Sig} : TyOk G "dict" isDicA := fun R ρ M H x o w r h => by
  unfold isDicA at h
  cases q : dicOf M o with
  | none => rw [q] at h; cases h
  | some l =>
    obtain ⟨a, vs, rfl, sq, _⟩ := dic_read w r q
    exact .inr (.inr (.inl ⟨rfl, .inl ⟨vs, sq⟩⟩))
section
variable {X : Cx} {G : Sig} {E : XK} {o e : Expr} {es : List Expr} {eo ea : SE} {name : Str} {apos cpos : Pos} {T id : String} {r : V → List V → Hp → VK → Prop} {ty : Store → Va → Bool} {k : Va → List Va → Store → Res}
theorem q_bm (hK : X.K = G.K) (pa : PlainAttrs T) (slot : Slot T name id) (hty : typeOf (.builtin id) = pure (.type "method_descriptor")) (hm : MtR X id r) (ht : TyOk G T ty) (hs : OpM G T r k) (ho : PE X o (tE G E eo)) (ha : PA X (e :: es) (tA G E ea))
    (hbase : attributeBase o name X.env (eval o X.env) = eval o X.env := by rfl)
    (hfew : ((backTo cpos (starEach (e :: es) X.env)).all (fun x => !x.1) && (backToKw cpos (keywordEach [] X.env)).all (fun x => x.1.isSome)
      && decide ((e :: es).length + ([] : List Keyword).length + (if ([] : List Keyword).isEmpty then 0 else 1) < 30)) = true := by rfl)
    (hline : (apos.endLine == cpos.line) = true := by rfl) (hst : starEach (e :: es) X.env = (false, eval e X.env) :: starEach es X.env := by rfl) (hplain : (backTo cpos (starEach es X.env)).any (·.1) = false := by rfl) :
    PE X (.Call (.Attribute o name apos) (e :: es) [] cpos) (tE G E (evM2 ty k eo ea)) :=
  pe_imp (pe_bm pa slot hty hm ho ha hbase hfew hline hst hplain) fun σ H Q ⟨R, ρ, s, M, w, sr, p⟩ => stepE w sr p fun R1 ρ1 M1 H1 va v e1 w1 sr1 r1 p1 => by
    split at p1
    · rename_i hh
      exact ⟨by rw [hK]; exact ht R1 ρ1 M1 H1 v va w1 r1 hh, stepA w1 sr1 p1 fun R2 ρ2 M2 H2 l vs e2 w2 sr2 r2 p2 => hs R2 ρ2 M2 H2 v vs va l Q E w2 (r1.mono e2.gr) r2 p2⟩
    · exact False.elim p1
theorem q_bm0 (hK : X.K = G.K) (pa : PlainAttrs T) (slot : Slot T name id) (hty : typeOf (.builtin id) = pure (.type "method_descriptor")) (hm : MtR X id r) (ht : TyOk G T ty) (hs : OpM G T r k) (ho : PE X o (tE G E eo))
    (hbase : attributeBase o name X.env (eval o X.env) = eval o X.env := by rfl) (hline : (apos.endLine == cpos.line) = true := by rfl) :
    PE X (.Call (.Attribute o name apos) [] [] cpos) (tE G E (evM2 ty k eo evNil)) :=
  pe_imp (pe_bm0 pa slot hty hm ho hbase hline) fun σ H Q ⟨R, ρ, s, M, w, sr, p⟩ => stepE w sr p fun R1 ρ1 M1 H1 va v e1 w1 sr1 r1 p1 => by
    split at p1
    · rename_i hh
      exact ⟨by rw [hK]; exact ht R1 ρ1 M1 H1 v va w1 r1 hh, hs R1 ρ1 M1 H1 v [] va [] Q E w1 r1 .nil p1⟩
    · exact False.elim p1
end
def kVal (g : Store → Va → List Va → Option Va) (o : Va) (l : List Va) (M : Store) : Res := match g M o l with
  | some r => some (.val r, M)
  | none => none
/-- a change of the cell -/
def kMut (g : Cell → List Va → Option (Cell × Va)) (o : Va) (l : List Va) (M : Store) : Res := match o with
  | .cel n => (match M.c n with
    | some c => (match g c l with
      | some (c', r) => some (.val r, M.put n c')
      | none => none)
    | none => none)
  | _ => none
def gJoin (M : Store) : Va → List Va → Option Va
  | .str a, [x] => (match seqOf M x with
    | some l => (match strsOf l with
      | some ys => if (ys.map (·.length)).sum + ys.length * a.length ≤ 16777216 then some (.str (Txt.join a ys)) else none
      | none => none)
    | none => none)
  | _, _ => none
def gSplit (_ : Store) : Va → List Va → Option Va
  | .str a, [.str b] => if (b.length == 0) = false ∧ a.length + 2 ≤ sizeLine then some (.lst ((Txt.split a b).map Va.str)) else none
  | _, _ => none
def gStarts (_ : Store) : Va → List Va → Option Va
  | .str a, [.str b] => some (.bl (Txt.startswith a b))
  | _, _ => none
def gEnds (_ : Store) : Va → List Va → Option Va
  | .str a, [.str b] => some (.bl (Txt.endswith a b))
  | _, _ => none
def gFind (_ : Store) : Va → List Va → Option Va
  | .str a, [.str b] => some (.int (Txt.find a b))
  | _, _ => none
def gPart (_ : Store) : Va → List Va → Option Va
  | .str a, [.str b] => if (b.length == 0) = false ∧ a.length ≤ sizeLine then some (.tup [.str (Txt.partition a b).1, .str (Txt.partition a b).2.1, .str (Txt.partition a b).2.2]) else none
  | _, _ => none
def cAppend : Cell → List Va → Option (Cell × Va)
  | .lst l, [y] => if l.length < sizeLine then some (.lst (l ++ [y]), .non) else none
  | _, _ => none
def cPop : Cell → List Va → Option (Cell × Va)
  | .lst l, [] => (match l[l.length - 1]? with
    | some y => some (.lst l.dropLast, y)
    | none => none)
  | _, _ => none
def cPopAt : Cell → List Va → Option (Cell × Va)
  | .lst l, [.int i] => if -(2 ^ 63) ≤ i ∧ i < 2 ^ 63 then (match seqIndex? i l.length with
    | some k => (match l[k]? with
      | some y => some (.lst (l.eraseIdx k), y)
      | none => none)
    | none => none) else none
  | _, _ => none
def cReverse : Cell → List Va → Option (Cell × Va)
  | .lst l, [] => some (.lst l.reverse, .non)
  | _, _ => none
def cClear : Cell → List Va → Option (Cell × Va)
  | .lst _, [] => some (.lst [], .non)
  | _, _ => none
section
variable {X : Cx} {G : Sig}
theorem val_of {T : String} {r : V → List V → Hp → VK → Prop} {g : Store → Va → List Va → Option Va} (h : ∀ R ρ M H x xs o l res Q, Wd G R ρ M H → VR G R ρ o x → VRs G R ρ l xs → g M o l = some res → Gives G R ρ H M res Q → r x xs H Q) : OpM G T r (kVal g) := fun R ρ M H x xs o l Q E w ro rv p => by
  unfold kVal at p
  cases q : g M o l with
  | none => rw [q] at p; exact False.elim p
  | some res => rw [q] at p; exact h R ρ M H x xs o l res Q w ro rv q p
theorem s_join (hK : X.K = G.K) : OpM G "str" (fun x xs H Q => ∃ a p, ∃ ys : List Str, x = .str a ∧ xs = [.ref p] ∧ (SqL X.K H p (ys.map V.str) ∨ SqT X.K H p (ys.map V.str)) ∧ (ys.map (·.length)).sum + ys.length * a.length ≤ 16777216 ∧ Q (.str (Txt.join a ys)) H) (kVal gJoin) :=
  val_of fun R ρ M H x xs o l res Q w ro rv h g => by
    unfold gJoin at h
    split at h
    · cases ro
      obtain ⟨v, rfl, r⟩ := one_of rv
      split at h
      · rename_i l hl
        split at h
        · rename_i ys hy
          split at h
          · rename_i hz; cases h
            obtain ⟨a, vs, rfl, sq, rv', _⟩ := seq_read w r hl
            rw [strs_of rv' hy] at sq
            exact ⟨_, a, ys, rfl, rfl, by rw [hK]; exact sq, hz, gives_now w (.str _) g⟩
          · cases h
        · cases h
      · cases h
    · cases h
theorem s_split : OpM G "str" (fun x xs H Q => ∃ a b, x = .str a ∧ xs = [.str b] ∧ (b.length == 0) = false ∧ a.length + 2 ≤ sizeLine ∧ rNewStrs (Txt.split a b) H Q) (kVal gSplit) :=
  val_of fun R ρ M H x xs o l res Q w ro rv h g => by
    unfold gSplit at h
    split at h
    · cases ro
      rename_i a b
      obtain ⟨v, rfl, r⟩ := one_of rv
      cases r
      split at h
      · rename_i hz; cases h
        refine ⟨a, b, rfl, rfl, hz.1, hz.2, fun p hp => gives_lst w (VRs.strs _) ?_ g hp⟩
        rw [List.length_map]
        exact Nat.le_trans (PyProof.Rows.split_le a b) hz.2
      · cases h
    · cases h
theorem s_starts : OpM G "str" (fun x xs H Q => ∃ a b, x = .str a ∧ xs = [.str b] ∧ Q (.bl (Txt.startswith a b)) H) (kVal gStarts) :=
  val_of fun R ρ M H x xs o l res Q w ro rv h g => by
    unfold gStarts at h
    split at h
    · cases ro
      obtain ⟨v, rfl, r⟩ := one_of rv
      cases r; cases h
      exact ⟨_, _, rfl, rfl, gives_now w (.bl _) g⟩
    · cases h
theorem s_ends : OpM G "str" (fun x xs H Q => ∃ a b, x = .str a ∧ xs = [.str b] ∧ Q (.bl (Txt.endswith a b)) H) (kVal gEnds) :=
  val_of fun R ρ M H x xs o l res Q w ro rv h g => by
    unfold gEnds at h
    split at h
    · cases ro
      obtain ⟨v, rfl, r⟩ := one_of rv
      cases r; cases h
      exact ⟨_, _, rfl, rfl, gives_now w (.bl _) g⟩
    · cases h
theorem s_find : OpM G "str" (fun x xs H Q => ∃ a b, x = .str a ∧ xs = [.str b] ∧ Q (.int (Txt.find a b)) H) (kVal gFind) :=
  val_of fun R ρ M H x xs o l res Q w ro rv h g => by
    unfold gFind at h
    split at h
    · cases ro
      obtain ⟨v, rfl, r⟩ := one_of rv
      cases r; cases h
      exact ⟨_, _, rfl, rfl, gives_now w (.int _) g⟩
    · cases h
theorem s_part : OpM G "str" (fun x xs H Q => ∃ a b, x = .str a ∧ xs = [.str b] ∧ (b.length == 0) = false ∧ a.length ≤ sizeLine ∧
    ∀ p, H p = none → Q (.ref p) (upd H p (.tup [.str (Txt.partition a b).1, .str (Txt.partition a b).2.1, .str (Txt.partition a b).2.2]))) (kVal gPart) :=
  val_of fun R ρ M H x xs o l res Q w ro rv h g => by
    unfold gPart at h
    split at h
    · cases ro
      obtain ⟨v, rfl, r⟩ := one_of rv
      cases r
      split at h
      · rename_i hz; cases h
        exact ⟨_, _, rfl, rfl, hz.1, hz.2, fun p hp => gives_tup w (.cons (.str _) (.cons (.str _) (.cons (.str _) .nil))) (by show 3 ≤ sizeLine; decide) g hp⟩
      · cases h
    · cases h
/-- a cell of a list changes -/
theorem mut_of {T : String} {r : V → List V → Hp → VK → Prop} {g : Cell → List Va → Option (Cell × Va)} (hg : ∀ c l c' y, g c l = some (c', y) → ∃ l0, c = .lst l0)
    (h : ∀ R ρ M H a vs l0 l xs l' y (Q : VK), Wd G R ρ M H → H a = some (.lst vs) → VRs G R ρ l0 vs → l0.length ≤ sizeLine → VRs G R ρ l xs → g (.lst l0) l = some (l', y) →
      (∀ vs' v, VR G R ρ y v → (∀ H', H' a = some (.lst vs') → CelR G R ρ H' a l') → Q v (upd H a (.lst vs'))) → r (.ref a) xs H Q) : OpM G T r (kMut g) := fun R ρ M H x xs o l Q E w ro rv p => by
  unfold kMut at p
  split at p
  · rename_i n
    split at p
    · rename_i c hc
      split at p
      · rename_i c' y hg'
        obtain ⟨l0, rfl⟩ := hg c l c' y hg'
        cases ro with
        | cel e =>
          obtain ⟨a, e1, ra, vs, ha, z, r0⟩ := w.cel n _ hc
          rw [e] at e1
          cases e1
          refine h R ρ M H _ vs l0 l xs c' y Q w ha r0 z rv hg' fun vs' v ry hc' => ?_
          obtain ⟨ex, wd⟩ := write_cel w hc e (hc' (upd H _ (.lst vs')) upd_same)
          exact p _ _ _ _ ex wd (ry.mono ex.gr)
      · exact False.elim p
    · exact False.elim p
  · exact False.elim p
theorem s_append : OpM G "list" rAppend (kMut cAppend) := mut_of (fun c l c' y h => by unfold cAppend at h; split at h; exact ⟨_, rfl⟩; cases h) fun R ρ M H a vs l0 l xs l' y Q w ha r0 z rv h k => by
  unfold cAppend at h
  split at h
  · rename_i l1 y1 e1
    cases e1
    obtain ⟨v, rfl, r⟩ := one_of rv
    split at h
    · rename_i hz; cases h
      exact ⟨a, vs, v, rfl, rfl, ha, by rw [← r0.length]; exact hz, k (vs ++ [v]) .non .non fun H' hH => ⟨_, hH, by simp; omega, r0.append (.cons r .nil)⟩⟩
    · cases h
  · cases h
theorem s_pop : OpM G "list" rPop (kMut cPop) := mut_of (fun c l c' y h => by unfold cPop at h; split at h; exact ⟨_, rfl⟩; cases h) fun R ρ M H a vs l0 l xs l' y Q w ha r0 z rv h k => by
  unfold cPop at h
  split at h
  · rename_i l1 e1
    cases e1
    cases rv
    split at h
    · rename_i y' hy
      cases h
      obtain ⟨v, hv, ry⟩ := r0.get hy
      exact ⟨a, vs, v, rfl, rfl, ha, by rw [← r0.length]; exact hv, k vs.dropLast v ry fun H' hH => ⟨_, hH, by rw [List.length_dropLast]; omega, r0.dropLast⟩⟩
    · cases h
  · cases h
theorem s_popAt : OpM G "list" rPopAt (kMut cPopAt) := mut_of (fun c l c' y h => by unfold cPopAt at h; split at h; exact ⟨_, rfl⟩; cases h) fun R ρ M H a vs l0 l xs l' y Q w ha r0 z rv h k => by
  unfold cPopAt at h
  split at h
  · rename_i l1 i e1
    cases e1
    obtain ⟨v, rfl, r⟩ := one_of rv
    cases r
    split at h
    · rename_i hz
      split at h
      · rename_i j hj
        split at h
        · rename_i y' hy
          cases h
          obtain ⟨v, hv, ry⟩ := r0.get hy
          exact ⟨a, vs, i, j, v, rfl, rfl, ha, hz.1, hz.2, by rw [← r0.length]; exact hj, hv, k (vs.eraseIdx j) v ry fun H' hH => ⟨_, hH, Nat.le_trans (List.length_eraseIdx_le ..) z, r0.eraseIdx j⟩⟩
        · cases h
      · cases h
    · cases h
  · cases h
theorem s_reverse : OpM G "list" rReverse (kMut cReverse) := mut_of (fun c l c' y h => by unfold cReverse at h; split at h; exact ⟨_, rfl⟩; cases h) fun R ρ M H a vs l0 l xs l' y Q w ha r0 z rv h k => by
  unfold cReverse at h
  split at h
  · rename_i l1 e1
    cases e1
    cases rv
    cases h
    exact ⟨a, vs, rfl, rfl, ha, k vs.reverse .non .non fun H' hH => ⟨_, hH, by rw [List.length_reverse]; exact z, r0.reverse⟩⟩
  · cases h
theorem s_clear : OpM G "list" rClear (kMut cClear) := mut_of (fun c l c' y h => by unfold cClear at h; split at h; exact ⟨_, rfl⟩; cases h) fun R ρ M H a vs l0 l xs l' y Q w ha r0 z rv h k => by
  unfold cClear at h
  split at h
  · rename_i l1 e1
    cases e1
    cases rv
    cases h
    exact ⟨a, vs, rfl, rfl, ha, k [] .non .non fun H' hH => ⟨_, hH, by simp, .nil⟩⟩
  · cases h
/-- xs[i] = v -/
def cSetAt (o i v : Va) (M : Store) : Option Store := match o, i with
  | .cel n, .int k => (match M.c n with
    | some (.lst l) => (match ixN l.length k with
      | some j => some (M.put n (.lst (l.set j v)))
      | none => none)
    | _ => none)
  | _, _ => none
theorem s_setAt : SubSim G rSetL cSetAt := fun R ρ M M' H o i x vo vi v k w ro ri rv h q => by
  unfold cSetAt at h
  split at h
  · rename_i n j
    cases ri
    split at h
    · rename_i l hc
      split at h
      · rename_i j' hj
        cases h
        cases ro with
        | cel e =>
          obtain ⟨a, e1, ra, vs, ha, z, r0⟩ := w.cel n _ hc
          rw [e] at e1
          cases e1
          obtain ⟨ex, wd⟩ := write_cel (o := .lst (vs.set j' x)) (y := .lst (l.set j' v)) w hc e ⟨_, upd_same, by rw [List.length_set]; exact z, r0.set rv j'⟩
          exact ⟨_, vs, j, j', rfl, rfl, ha, by rw [← r0.length]; exact hj, q _ ex wd⟩
      · cases h
    · cases h
  · cases h
end
end PV

set_option Elab.async false
set_option linter.all false
set_option maxRecDepth 100000
set_option maxHeartbeats 4000000
namespace PV
open PySem L2

section
variable {X : Cx} {G : Sig} {E : XK} {a b c tg : Expr} {es : List Expr} {ea eb ec : SE} {pos : Pos}
theorem chain_sim {r r' : R2} {g g' : Store → Va → Va → Option Va} (hs : Op2 G r g) (hs' : Op2 G r' g') {σ : L2.St} {H : Hp} {Q : VK} (h : tE G E (evChain g g' ea eb ec) σ H Q) : tChain r r' (tE G E ea) (tE G E eb) (tE G E ec) σ H Q := by
  obtain ⟨R, ρ, s, M, w, sr, p⟩ := h
  refine stepE w sr p fun R1 ρ1 M1 H1 va v e1 w1 sr1 r1 p1 => ?_
  refine stepE w1 sr1 p1 fun R2 ρ2 M2 H2 vb u e2 w2 sr2 r2 p2 => ?_
  cases q : g M2 va vb with
  | none => rw [q] at p2; exact False.elim p2
  | some res =>
    rw [q] at p2
    cases res <;> first | exact False.elim p2 | skip
    rename_i bb
    refine hs R2 ρ2 M2 H2 v u va vb _ _ w2 (r1.mono e2.gr) r2 q fun R3 ρ3 H3 z e3 w3 r3 => ?_
    cases r3
    refine ⟨bb, rfl, ?_⟩
    cases bb with
    | false => exact iteF (p2 R3 ρ3 H3 _ e3 w3 (.bl false))
    | true =>
      refine iteT ?_
      refine stepE w3 (sr2.mono e3.gr) (Post.ext e3 p2) fun R4 ρ4 M4 H4 vc t e4 w4 sr4 r4 p4 => ?_
      cases q4 : g' M4 vb vc with
      | none => rw [q4] at p4; exact False.elim p4
      | some res =>
        rw [q4] at p4
        cases res <;> first | exact False.elim p4 | skip
        exact hs' R4 ρ4 M4 H4 u t vb vc _ Q w4 (r2.mono (e3.trans e4).gr) r4 q4 p4
theorem q_chain {op op' : CmpOp} {r r' : R2} {g g' : Store → Va → Va → Option Va} (ho : OpR X (compareOp op) r) (hs : Op2 G r g) (ho' : OpR X (compareOp op') r') (hs' : Op2 G r' g') (ha : PE X a (tE G E ea)) (hb : PE X b (tE G E eb)) (hc : PE X c (tE G E ec))
    (hm : lastMarks [op, op'] [b, c] = false := by with_unfolding_all rfl) : PE X (.Compare a [op, op'] [b, c] pos) (tE G E (evChain g g' ea eb ec)) := pe_imp (pe_chain ho ho' ha hb hc hm) fun σ H Q h => chain_sim hs hs' h
theorem qt_chain {op op' : CmpOp} {r r' : R2} {g g' : Store → Va → Va → Option Va} (ho : OpR X (compareOp op) r) (hs : Op2 G r g) (ho' : OpR X (compareOp op') r') (hs' : Op2 G r' g') (ha : PE X a (tE G E ea)) (hb : PE X b (tE G E eb)) (hc : PE X c (tE G E ec))
    (hm : lastMarks [op, op'] [b, c] = false := by with_unfolding_all rfl) : PT X (.Compare a [op, op'] [b, c] pos) (tT G E (evChain g g' ea eb ec)) := pt_imp (pt_chain ho ho' ha hb hc hm) fun σ H Q h => chain_sim hs hs' (toT h)

/-! ### any source -/
theorem qi_str (ha : PE X a (tE G E ea)) : PI X tg a (tI G E (itS ea)) :=
  pi_imp (pi_str ha) fun σ H Q ⟨R, ρ, s, M, w, sr, p⟩ => by
    refine ⟨R, ρ, s, M, w, sr, ?_⟩
    unfold itS at p
    rcases q : ea s M with _ | ⟨x | ⟨c, x⟩, M1⟩ <;> rw [q] at p
    · exact p
    · cases x <;> first | exact False.elim p | skip
      rename_i z
      intro R1 ρ1 H1 v e1 w1 r1
      cases r1
      dsimp only at p
      by_cases hz : z.length ≤ sizeLine
      · rw [if_pos hz] at p
        refine ⟨z, rfl, p R1 ρ1 H1 _ e1 w1 (by rw [List.length_map]; exact hz) fun R2 ρ2 M2 H2 g2 w2 _ => ⟨fun i y hy => ?_, fun i hi => ?_⟩⟩
        · rw [List.getElem?_map] at hy
          cases q2 : z.cps.toList[i]? with
          | none => rw [q2] at hy; cases hy
          | some c =>
            rw [q2] at hy
            cases hy
            have hc : z.cps[i]? = some c := by rw [← Array.getElem?_toList]; exact q2
            refine ⟨(Array.getElem?_eq_some_iff.mp hc).1, fun v H' ⟨e3, c', hc', ev⟩ => ?_⟩
            rw [hc] at hc'
            cases hc'
            subst ev e3
            exact ⟨R2, Ext.refl, w2, .str _⟩
        · rw [List.length_map] at hi
          show z.cps.size ≤ i
          simpa using hi
      · rw [if_neg hz] at p; exact False.elim p
    · exact p
def itA (e : SE) : SI := fun s M => match e s M with
  | some (.val (.str _), _) => itS e s M
  | some (.val (.tup _), _) => itT e s M
  | _ => itL e s M
theorem qi_any (hK : X.K = G.K) (ha : PE X a (tE G E ea)) : PI X tg a (tI G E (itA ea)) :=
  ⟨fun pins s σ H k I ⟨R, ρ, s', M, w, sr, p⟩ => by
    unfold itA at p
    split at p
    · exact (qi_str ha).run pins s σ H k I ⟨R, ρ, s', M, w, sr, p⟩
    · exact (qi_tup hK ha).run pins s σ H k I ⟨R, ρ, s', M, w, sr, p⟩
    · exact (qi_list hK ha).run pins s σ H k I ⟨R, ρ, s', M, w, sr, p⟩⟩
end

/-! ### parts of a text, by places -/
def noE : Expr := .Constant .none 0 ⟨0, 0, 0, 0⟩
def noS : Stmt := .Pass ⟨0, 0, 0, 0⟩
/-- the i-th part of an expression -/
def eAt (i : Nat) : Expr → Expr
  | .BinOp a _ b _ => if i = 0 then a else b
  | .UnaryOp _ a _ => a
  | .BoolOp _ es _ => es.getD i noE
  | .Compare a _ es _ => if i = 0 then a else es.getD (i - 1) noE
  | .Call f es _ _ => if i = 0 then f else es.getD (i - 1) noE
  | .IfExp c a b _ => if i = 0 then c else if i = 1 then a else b
  | .Subscript a b _ => if i = 0 then a else b
  | .Slice a b _ _ => ((if i = 0 then a else b).getD noE)
  | .List es _ => es.getD i noE
  | .Tuple es _ _ => es.getD i noE
  | .Attribute a _ _ => a
  | .ListComp e gs _ _ => if i = 0 then e else if i = 1 then (match gs with | g :: _ => g.iter | [] => noE) else (match gs with | g :: _ => g.ifs.getD (i - 2) noE | [] => noE)
  | .DictComp k v gs _ _ => if i = 0 then k else if i = 1 then v else (match gs with | g :: _ => g.iter | [] => noE)
  | .Dict ks vs _ => vs.getD i noE
  | .FormattedValue e _ _ _ => e
  | .JoinedStr es _ => es.getD i noE
  | .Lambda _ e _ _ => e
  | e => e
/-- the keyword i of a call -/
def eKw (i : Nat) : Expr → Expr
  | .Call _ _ ks _ => (match ks[i]? with | some k => k.value | none => noE)
  | e => e
def eSc : Expr → Scope
  | .ListComp _ _ s _ => s
  | .DictComp _ _ _ s _ => s
  | .Lambda _ _ s _ => s
  | _ => defScope noS
/-- the i-th expression of a statement -/
def sEx (i : Nat) : Stmt → Expr
  | .Return (some e) _ => e
  | .Assign ts e _ => if i = 0 then e else ts.getD (i - 1) noE
  | .AugAssign t _ e _ => if i = 0 then e else t
  | .Expr e _ => e
  | .If c _ _ _ => c
  | .While c _ _ _ => c
  | .For t e _ _ _ => if i = 0 then e else t
  | .Raise (some e) _ _ => e
  | _ => noE
def sIn (k i : Nat) : Stmt → Stmt
  | .If _ a b _ => (if k = 0 then a else b).getD i noS
  | .While _ a b _ => (if k = 0 then a else b).getD i noS
  | .For _ _ a b _ => (if k = 0 then a else b).getD i noS
  | .Try a hs b c _ => (if k = 0 then a else if k = 1 then b else c).getD i noS
  | s => s
def sAt (i : Nat) (l : List Stmt) : Stmt := l.getD i noS

/-! ### built-in names -/
theorem bt_len : bootBuiltins "len" = some (.builtin "len") := by decide +kernel
theorem bt_max : bootBuiltins "max" = some (.builtin "max") := by decide +kernel
theorem bt_min : bootBuiltins "min" = some (.builtin "min") := by decide +kernel
theorem bt_abs : bootBuiltins "abs" = some (.builtin "abs") := by decide +kernel
theorem bt_sum : bootBuiltins "sum" = some (.builtin "sum") := by decide +kernel
theorem bt_all : bootBuiltins "all" = some (.builtin "all") := by decide +kernel
theorem bt_any : bootBuiltins "any" = some (.builtin "any") := by decide +kernel
theorem bt_repr : bootBuiltins "repr" = some (.builtin "repr") := by decide +kernel
theorem bt_sorted : bootBuiltins "sorted" = some (.builtin "sorted") := by decide +kernel
theorem bt_int : bootBuiltins "int" = some (.type "int") := by decide +kernel
theorem bt_str : bootBuiltins "str" = some (.type "str") := by decide +kernel
theorem bt_list : bootBuiltins "list" = some (.type "list") := by decide +kernel
theorem bt_dict : bootBuiltins "dict" = some (.type "dict") := by decide +kernel
end PV

set_option Elab.async false
set_option linter.all false
set_option maxRecDepth 100000
set_option maxHeartbeats 4000000
namespace PV
open PySem L2
open PyProof.Rows

/-- a def of the text that stands under its name, by value -/
structure Cal (P : Program) (w : World) (K : PySem.W.Frag) (mg : Str → Option Value) (base : Heap) (G : Sig) (x : Str) (lv n : Nat) (fM : FM) : Prop where
  ex : ∃ (f : Addr) (fd : FuncData) (ps : List Str), mg x = some (.ref f) ∧ PySem.W.keepIn K (.ref f) = true ∧ Binds K fd ps [] ∧ FnG P w K mg base CX0 lv f fd ps (spI G n fM)
section
variable {X : Cx} {G : Sig} {a : Expr} {es : List Expr} {ea : SE} {pos p' : Pos} {lv k n : Nat} {x : Str} {fM : FM}
theorem q_cal (C : Cal X.prog X.w X.K X.mg X.base G x lv n fM) (hr : Room k X.A) (hl : lv ≤ k) (hgd : X.A.guards = some []) (hg : Gl X x) (ha : PA X (a :: es) (tA G E0 ea)) (hdb : (x == ("__debug__" : Str)) = false := by decide)
    (he : starEach (a :: es) X.env = (false, eval a X.env) :: starEach es X.env := by rfl) (hpl : (backTo pos (starEach es X.env)).any (·.1) = false := by rfl) :
    PE X (.Call (.Name x p') (a :: es) [] pos) (tE G E0 (evL (kFn n fM) ea)) := by
  obtain ⟨f, fd, ps, hm, hk, hb, F⟩ := C.ex
  exact q_fn F (hr.mono hl) hgd hg hm hk hb ha hdb he hpl
theorem q_cal0 (C : Cal X.prog X.w X.K X.mg X.base G x lv 0 fM) (hr : Room k X.A) (hl : lv ≤ k) (hgd : X.A.guards = some []) (hg : Gl X x) (hdb : (x == ("__debug__" : Str)) = false := by decide) :
    PE X (.Call (.Name x p') [] [] pos) (tE G E0 (evL (kFn 0 fM) evNil)) := by
  obtain ⟨f, fd, ps, hm, hk, hb, F⟩ := C.ex
  exact q_fn0 F (hr.mono hl) hgd hg hm hk hb hdb
end
/-- a def's place in the text, its body by value: what callers know of it -/
theorem cal_of {P : Program} {w : World} {K : PySem.W.Frag} {mg : Str → Option Value} {base : Heap} {CA : Nat → Addr} {x : Str} {st : Stmt} {f : Addr} {fd : FuncData} {N ps : List Str} {k n N' : Nat} {es : SS} {c : FM} (F : Fun K x x st f fd) (S : FnScope N ps (defScope st)) (m : mg x = some (.ref f))
    (hb : Binds K fd ps []) (hn : ps.length = n) (hN : N.length = N') (hc : c = runF N' es)
    (body : ∀ (cdv : Value) (A : Around) (outer : List Env) (s : Shared) (H : Hp) (E : XK), Room k (A.deeper (envOfC x (defScope st) s.heap.objs.size f cdv)) → A.guards = some [] →
      PSs (cxOf CX0 P w K mg base N x (defScope st) f cdv A outer s H E).nox (defBody st) (tS ⟨K, CA⟩ E0 es)) : Cal P w K mg base ⟨K, CA⟩ x (k + 1) n c := by
  subst hn hN hc
  exact ⟨f, fd, ps, m, F.kp, hb, ok_fn F S body⟩
theorem okF {P : Program} {w : World} {K : PySem.W.Frag} {mg : Str → Option Value} {base : Heap} {CA : Nat → Addr} {x : Str} {st : Stmt} {f : Addr} {fd : FuncData} {N ps : List Str} {k n N' : Nat} {es : SS} {c : FM} (F : Fun K x x st f fd) (S : FnScope N ps (defScope st))
    (hn : ps.length = n) (hN : N.length = N') (hc : c = runF N' es)
    (body : ∀ (cdv : Value) (A : Around) (outer : List Env) (s : Shared) (H : Hp) (E : XK), Room k (A.deeper (envOfC x (defScope st) s.heap.objs.size f cdv)) → A.guards = some [] →
      PSs (cxOf CX0 P w K mg base N x (defScope st) f cdv A outer s H E).nox (defBody st) (tS ⟨K, CA⟩ E0 es)) : FnG P w K mg base CX0 (k + 1) f fd ps (spI ⟨K, CA⟩ n c) := by
  subst hn hN hc
  exact ok_fn F S body
theorem walkG {l : PySem.W.OpenLaw} {n k : Nat} {q : Program} {loose : List Str} {XP : (Str → Option Value) → Heap → Prop} {YP : World → Heap → Prop} {d : DefRec} {K : Params → PySem.W.Frag} {x : Str}
    (hi : PyProof.Rows.importsNone q = true) (hn : l.most = some n) (hn2 : n ≤ sizeLine) (hdf : d.params.defaults = []) (hr : Room k callerA) (hY : ∀ (w : World) (h : Heap), YP w h → (K w.params).In h)
    (F : ∀ (w : World) (mg : Str → Option Value) (fa : Addr) (h : Heap), (K w.params).In h → h.Ns mainGlobals mg → mg d.name = some (.ref fa) →
      ∃ (fd : FuncData) (CA : Nat → Addr) (f : FM), (∀ (s : Shared) (u : Value), BindsTo s fd ⟨[u], []⟩ [(x, u)]) ∧
        (∀ base : Heap, (K w.params).In base → base.Ns mainGlobals mg → (∃ mm, base.Ns sysModules mm) → FnG l.prog w (K w.params) mg base CX0 k fa fd [x] (spI ⟨K w.params, CA⟩ 1 f)) ∧
        ∀ ns : List Int, ns.length ≤ n → ∃ M', f [.scr ns] ⟨fun _ => none, 0⟩ = some (.val (.bl true), M')) :
    PySem.W.WalkO q loose XP YP l.row.toRowW d [] (fun f vs => PySem.call f vs) := by
  refine Att.attach_call hn hdf fun w s₀ s mg mb fa o pm cd doc a vs ns G Y ho hd hcd hmg hobj hints hlen hg => ?_
  obtain ⟨fd, CA, f, hb, hF, hf⟩ := F w mg fa _ (hY w _ Y) G.T.g hmg
  obtain ⟨M', hm⟩ := hf ns hlen
  exact law_end (hY w _ Y) G.T.g G.T.b G.T.builtins G.T.nolimit ((G.T.seer hi).mods.elim fun mm z => ⟨mm, z.1⟩) hg hobj hints (Nat.le_trans hlen hn2) hr hF hb hm
end PV

set_option Elab.async false
set_option linter.all false
set_option maxRecDepth 100000
set_option maxHeartbeats 4000000
namespace PV
open PySem L2

/-! ### evaluation, as rewriting -/
section
variable {s : SL} {M : Store} {i j : Nat} {v va vb : Va} {ea eb ec : SE} {sa sb : SS}
@[simp] theorem x_c : evC v s M = some (.val v, M) := rfl
@[simp] theorem x_var0 {a : Option Va} : evVar 0 (a :: s) M = (match a with | some v => some (.val v, M) | none => none) := by cases a <;> rfl
@[simp] theorem x_varS {a : Option Va} : evVar (i + 1) (a :: s) M = evVar i s M := rfl
@[simp] theorem x_1 {g} : ev1 g ea s M = bindO (ea s M) fun va M1 => (match g M1 va with | some r => some (.val r, M1) | none => none) := rfl
@[simp] theorem x_2 {g} : ev2 g ea eb s M = bindO (ea s M) fun va M1 => bindO (eb s M1) fun vb M2 => (match g M2 va vb with | some r => some (.val r, M2) | none => none) := rfl
@[simp] theorem x_nil : evNil s M = some (.val (.tup []), M) := rfl
@[simp] theorem x_cons : evCons ea eb s M = bindO (ea s M) fun v M1 => bindO (eb s M1) fun t M2 => (match t with | .tup l => some (.val (.tup (v :: l)), M2) | _ => none) := rfl
@[simp] theorem x_L {k} : evL k ea s M = bindO (ea s M) fun t M1 => (match t with | .tup l => k l M1 | _ => none) := rfl
@[simp] theorem x_M2 {ty k} : evM2 ty k ea eb s M = bindO (ea s M) fun o M1 => if ty M1 o = true then bindO (eb s M1) fun t M2 => (match t with | .tup l => k o l M2 | _ => none) else none := rfl
@[simp] theorem x_if : evIf ec ea eb s M = bindO (ec s M) fun c M1 => (match c with | .bl true => ea s M1 | .bl false => eb s M1 | _ => none) := rfl
@[simp] theorem x_and : evAnd ea eb s M = bindO (ea s M) fun c M1 => (match c with | .bl true => eb s M1 | .bl false => some (.val (.bl false), M1) | _ => none) := rfl
@[simp] theorem x_or : evOr ea eb s M = bindO (ea s M) fun c M1 => (match c with | .bl true => some (.val (.bl true), M1) | .bl false => eb s M1 | _ => none) := rfl
@[simp] theorem x_not : evNot ea s M = bindO (ea s M) fun c M1 => (match c with | .bl b => some (.val (.bl (!b)), M1) | _ => none) := rfl
@[simp] theorem x_chain {g g'} : evChain g g' ea eb ec s M = bindO (ea s M) fun va M1 => bindO (eb s M1) fun vb M2 => (match g M2 va vb with
  | some (.bl true) => bindO (ec s M2) fun vc M3 => (match g' M3 vb vc with | some (.bl b) => some (.val (.bl b), M3) | _ => none)
  | some (.bl false) => some (.val (.bl false), M2)
  | _ => none) := rfl
@[simp] theorem x_tru : evTru ea s M = bindO (ea s M) fun va M1 => (match (truO M1 va).map Va.bl with | some r => some (.val r, M1) | none => none) := rfl
@[simp] theorem x_yes : evYes s M = some (.val (.bl true), M) := rfl
@[simp] theorem x_B : evB ea s M = bindO (ea s M) fun v M1 => (match v with | .int i => some (.val (.int i), M1) | _ => none) := rfl
@[simp] theorem x_sl : evSl ea eb ec s M = bindO (ea s M) fun x M1 => bindO (eb s M1) fun vl M2 => bindO (ec s M2) fun vu M3 => (match boundOf vl, boundOf vu with
  | some lo, some hi => (match opSl M3 x lo hi with | some r => some (.val r, M3) | none => none)
  | _, _ => none) := rfl
@[simp] theorem x_frz : evFrz ea s M = frzO (ea s M) := rfl
@[simp] theorem frz_none : frzO none = none := rfl
@[simp] theorem frz_exc {c x} : frzO (some (.exc c x, M)) = some (.exc c x, M) := rfl
@[simp] theorem frz_non : frzO (some (.val .non, M)) = some (.val .non, M) := rfl
@[simp] theorem frz_bl {b} : frzO (some (.val (.bl b), M)) = some (.val (.bl b), M) := rfl
@[simp] theorem frz_int {b} : frzO (some (.val (.int b), M)) = some (.val (.int b), M) := rfl
@[simp] theorem frz_str {b} : frzO (some (.val (.str b), M)) = some (.val (.str b), M) := rfl
@[simp] theorem frz_lst {b} : frzO (some (.val (.lst b), M)) = some (.val (.lst b), M) := rfl
@[simp] theorem frz_tup {b} : frzO (some (.val (.tup b), M)) = some (.val (.tup b), M) := rfl
@[simp] theorem frz_dic {b} : frzO (some (.val (.dic b), M)) = some (.val (.dic b), M) := rfl
@[simp] theorem frz_cel {n : Nat} : frzO (some (.val (.cel n), M)) = (match M.c n with
    | some (.lst l) => some (.val (.lst l), M.del n)
    | some (.dic l) => some (.val (.dic l), M.del n)
    | _ => some (.val (.cel n), M)) := rfl
@[simp] theorem x_sE {e k} : sE e k s M = (match e s M with | none => none | some (.val v, M1) => k v s M1 | some (.exc c v, M1) => some (.exc c v, s, M1)) := rfl
@[simp] theorem x_nx : sNx s M = some (.nx, s, M) := rfl
@[simp] theorem x_bk : sBk s M = some (.bk, s, M) := rfl
@[simp] theorem x_ct : sCt s M = some (.ct, s, M) := rfl
@[simp] theorem x_never : sNever s M = none := rfl
@[simp] theorem x_retN : sRetN s M = some (.ret .non, s, M) := rfl
@[simp] theorem x_ret {e} : sRet e s M = (match e s M with | none => none | some (.val v, M1) => some (.ret v, s, M1) | some (.exc c v, M1) => some (.exc c v, s, M1)) := rfl
@[simp] theorem x_set {e} : sSet i e s M = (match e s M with | none => none | some (.val v, M1) => some (.nx, s.set i (some v), M1) | some (.exc c v, M1) => some (.exc c v, s, M1)) := rfl
@[simp] theorem x_drop {e} : sDrop e s M = (match e s M with | none => none | some (.val v, M1) => some (.nx, s, M1) | some (.exc c v, M1) => some (.exc c v, s, M1)) := rfl
@[simp] theorem x_asg {e t} : sAsg e t s M = (match e s M with | none => none | some (.val v, M1) => (match t v s M1 with | some s1 => some (.nx, s1, M1) | none => none) | some (.exc c v, M1) => some (.exc c v, s, M1)) := rfl
@[simp] theorem x_sIf {t} : sIf t sa sb s M = (match t s M with | none => none | some (.val v, M1) => (match v with | .bl true => sa s M1 | .bl false => sb s M1 | _ => none) | some (.exc c v, M1) => some (.exc c v, s, M1)) := rfl
@[simp] theorem x_seq : sSeq sa sb s M = (match sa s M with | some (.nx, s1, M1) => sb s1 M1 | r => r) := rfl
@[simp] theorem x_sub {e eo ei g} : sSub e eo ei g s M = sE e (fun v s M => sE eo (fun o s M => sE ei (fun i s M => (match g o i v M with | some M1 => some (.nx, s, M1) | none => none)) s M) s M) s M := rfl
@[simp] theorem x_tgName : tgName i v s M = some (s.set i (some v)) := rfl
@[simp] theorem x_tgTup {ts} {l : List Va} : tgTup ts (.tup l) s M = tgAll ts l s M := rfl
@[simp] theorem x_tgNil : tgAll [] [] s M = some s := rfl
@[simp] theorem x_tgCons {t : Tgt} {ts : List Tgt} {l : List Va} : tgAll (t :: ts) (v :: l) s M = (match t v s M with | some s1 => tgAll ts l s1 M | none => none) := rfl
@[simp] theorem x_endNx : endF (some (.nx, s, M)) = some (.val .non, M) := rfl
@[simp] theorem x_endRet : endF (some (.ret v, s, M)) = some (.val v, M) := rfl
@[simp] theorem x_endNone : endF none = none := rfl
@[simp] theorem x_endExc {c} : endF (some (.exc c v, s, M)) = some (.exc c v, M) := rfl
@[simp] theorem x_kFn {n f} {l : List Va} : kFn n f l M = if l.length = n then f l M else none := rfl
@[simp] theorem x_kPure {g} {l : List Va} : kPure g l M = (match g M l with | some r => some (.val r, M) | none => none) := rfl
@[simp] theorem x_kVal {g} {l : List Va} : kVal g v l M = (match g M v l with | some r => some (.val r, M) | none => none) := rfl
@[simp] theorem x_kMut {g} {l : List Va} {n : Nat} : kMut g (.cel n) l M = (match M.c n with | some c => (match g c l with | some (c', r) => some (.val r, M.put n c') | none => none) | none => none) := rfl
@[simp] theorem x_tup {l : List Va} : kTup l M = if l.length ≤ sizeLine then some (.val (.tup l), M) else none := rfl
@[simp] theorem x_lst {l : List Va} : kLst l M = if l.length ≤ sizeLine then some (.val (.lst l), M) else none := rfl
@[simp] theorem x_new {l : List Va} : kNew l M = if l.length ≤ sizeLine then some (.val (.cel M.nx), M.new (.lst l)) else none := rfl
theorem le_line {n : Nat} (h : n ≤ 16777216) : n ≤ sizeLine := h
theorem lt_line {n : Nat} (h : n < 16777216) : n < sizeLine := h
@[simp] theorem line_eq : sizeLine = 16777216 := rfl

/-! ### the store -/
@[simp] theorem put_same {n : Nat} {x : Cell} : (M.put n x).c n = some x := by show (if n = n then some x else M.c n) = some x; rw [if_pos rfl]
theorem put_ne {n m : Nat} {x : Cell} (h : m ≠ n) : (M.put n x).c m = M.c m := by show (if m = n then some x else M.c m) = M.c m; rw [if_neg h]
@[simp] theorem put_nx {n : Nat} {x : Cell} : (M.put n x).nx = M.nx := rfl
@[simp] theorem put_put {n : Nat} {x y : Cell} : (M.put n x).put n y = M.put n y := by
  unfold Store.put
  congr 1
  funext m
  dsimp only
  split <;> rfl
@[simp] theorem new_same {x : Cell} : (M.new x).c M.nx = some x := by show (if M.nx = M.nx then some x else M.c M.nx) = some x; rw [if_pos rfl]
theorem new_ne {m : Nat} {x : Cell} (h : m ≠ M.nx) : (M.new x).c m = M.c m := by show (if m = M.nx then some x else M.c m) = M.c m; rw [if_neg h]
@[simp] theorem new_nx {x : Cell} : (M.new x).nx = M.nx + 1 := rfl
theorem del_ne {n m : Nat} (h : m ≠ n) : (M.del n).c m = M.c m := by show (if m = n then none else M.c m) = M.c m; rw [if_neg h]
@[simp] theorem del_nx {n : Nat} : (M.del n).nx = M.nx := rfl

/-! ### operations on known values -/
@[simp] theorem y_add {i j : Int} : opAdd M (.int i) (.int j) = some (.int (i + j)) := rfl
@[simp] theorem y_sub {i j : Int} : opSub M (.int i) (.int j) = some (.int (i - j)) := rfl
theorem y_addS {x y : Str} (h : x.length + y.length ≤ 16777216) : opAdd M (.str x) (.str y) = some (.str (x ++ y)) := if_pos h
theorem y_mulR {i j : Int} (h1 : -(2 ^ 64) < j) (h2 : j < 2 ^ 64) : opMul M (.int i) (.int j) = some (.int (i * j)) := if_pos (CMul.ok (.inr ⟨h1, h2⟩))
theorem y_mulL {i j : Int} (h1 : -(2 ^ 64) < i) (h2 : i < 2 ^ 64) : opMul M (.int i) (.int j) = some (.int (i * j)) := if_pos (CMul.ok (.inl ⟨h1, h2⟩))
theorem y_mulW {i j : Int} (h : CMulW i j) : opMul M (.int i) (.int j) = some (.int (i * j)) := if_pos h.ok
theorem y_div {i j : Int} (h : 0 < j) (h2 : j < 2 ^ 200) : opDiv M (.int i) (.int j) = some (.int (i / j)) := if_pos ⟨h, by
  have : j.natAbs < 2 ^ 200 := by
    have e : ((2 ^ 200 : Nat) : Int) = 2 ^ 200 := by norm_cast
    omega
  have := PySem.Flt.log2_lt_of (by decide) this
  omega⟩
theorem y_mulN {i j : Int} (h1 : 0 ≤ i) (h2 : i < 2 ^ 200) (h3 : 0 ≤ j) (h4 : j < 2 ^ 200) : opMul M (.int i) (.int j) = some (.int (i * j)) := by
  have e : ((2 ^ 200 : Nat) : Int) = 2 ^ 200 := by norm_cast
  exact y_mulW (wide_mul (a := 200) (b := 200) (by omega) (by omega) (by decide) (by decide) (by decide))
theorem y_pow {i j : Int} (h0 : 0 ≤ j) (h : j ≤ 1000) (h1 : -(2 ^ 64) < i) (h2 : i < 2 ^ 64) : opPow M (.int i) (.int j) = some (.int (i ^ j.toNat)) := if_pos ⟨h0, by
  have hb : Builtin.Int.intBits i ≤ 64 := by
    unfold Builtin.Int.intBits
    split
    · omega
    · have e : ((2 ^ 64 : Nat) : Int) = 2 ^ 64 := by norm_cast
      have := PySem.Flt.log2_lt_of (k := 64) (by decide) (show i.natAbs < 2 ^ 64 by omega)
      omega
  have : (Builtin.Int.intBits i : Int) * j ≤ 64 * 1000 := Int.mul_le_mul (by omega) h h0 (by omega)
  omega⟩
theorem y_pow3 {i : Int} (h1 : -(2 ^ 200) < i) (h2 : i < 2 ^ 200) : opPow M (.int i) (.int 3) = some (.int (i ^ 3)) := if_pos ⟨by decide, by
  have hb : Builtin.Int.intBits i ≤ 200 := by
    unfold Builtin.Int.intBits
    split
    · omega
    · have e : ((2 ^ 200 : Nat) : Int) = 2 ^ 200 := by norm_cast
      have := PySem.Flt.log2_lt_of (k := 200) (by decide) (show i.natAbs < 2 ^ 200 by omega)
      omega
  omega⟩
theorem y_mod {i j : Int} (h : 0 < j) : opMod M (.int i) (.int j) = some (.int (i % j)) := if_pos h
@[simp] theorem y_lt {i j : Int} : opLt M (.int i) (.int j) = some (.bl (decide (i < j))) := rfl
@[simp] theorem y_le {i j : Int} : opLe M (.int i) (.int j) = some (.bl (decide (i ≤ j))) := rfl
@[simp] theorem y_gt {i j : Int} : opGt M (.int i) (.int j) = some (.bl (decide (j < i))) := rfl
@[simp] theorem y_ge {i j : Int} : opGe M (.int i) (.int j) = some (.bl (decide (j ≤ i))) := rfl
@[simp] theorem y_eqI {i j : Int} : opEq M (.int i) (.int j) = some (.bl (decide (i = j))) := rfl
@[simp] theorem y_neI {i j : Int} : opNe M (.int i) (.int j) = some (.bl (!decide (i = j))) := rfl
@[simp] theorem y_eqS {i j : Str} : opEq M (.str i) (.str j) = some (.bl (decide (i = j))) := rfl
@[simp] theorem y_neS {i j : Str} : opNe M (.str i) (.str j) = some (.bl (!decide (i = j))) := rfl
@[simp] theorem y_eqB {i j : Bool} : opEq M (.bl i) (.bl j) = some (.bl (decide (i = j))) := rfl
@[simp] theorem y_isN : opIsN M v .non = some (.bl (isNonA v)) := rfl
@[simp] theorem y_notN : opNotN M v .non = some (.bl (!isNonA v)) := rfl
@[simp] theorem y_int {i : Int} : gInt M [.int i] = some (.int i) := rfl
@[simp] theorem y_intB {b : Bool} : gInt M [.bl b] = some (.int (if b then 1 else 0)) := rfl
@[simp] theorem y_max {i j : Int} : gMax M [.int i, .int j] = some (.int (if j > i then j else i)) := rfl
@[simp] theorem y_min {i j : Int} : gMin M [.int i, .int j] = some (.int (if j < i then j else i)) := rfl
@[simp] theorem y_abs {i : Int} : gAbs M [.int i] = some (.int (if i < 0 then -i else i)) := rfl
@[simp] theorem y_isStr {x : Str} : isStrA M (.str x) = true := rfl
@[simp] theorem y_truB {b : Bool} : truO M (.bl b) = some b := rfl
@[simp] theorem y_truI {i : Int} : truO M (.int i) = some (i != 0) := rfl
@[simp] theorem y_lstL {l : List Va} : lstOf M (.lst l) = some l := rfl
@[simp] theorem y_lstC {n : Nat} : lstOf M (.cel n) = (match M.c n with | some (.lst l) => some l | _ => none) := rfl
@[simp] theorem y_lstS {l : List Int} : lstOf M (.scr l) = some (l.map Va.int) := rfl
@[simp] theorem y_ownL {l : List Va} : ownOf M (.lst l) = some l := rfl
@[simp] theorem y_ownC {n : Nat} : ownOf M (.cel n) = (match M.c n with | some (.lst l) => some l | _ => none) := rfl
@[simp] theorem y_seqL {l : List Va} : seqOf M (.lst l) = some l := rfl
@[simp] theorem y_seqT {l : List Va} : seqOf M (.tup l) = some l := rfl
@[simp] theorem y_seqC {n : Nat} : seqOf M (.cel n) = (match M.c n with | some (.lst l) => some l | _ => none) := rfl
@[simp] theorem y_seqS {l : List Int} : seqOf M (.scr l) = some (l.map Va.int) := rfl
@[simp] theorem y_lenL {l : List Va} : gLen M [.lst l] = some (.int l.length) := rfl
@[simp] theorem y_lenT {l : List Va} : gLen M [.tup l] = some (.int l.length) := rfl
theorem y_lenS {z : Str} (h : z.length ≤ 16777216) : gLen M [.str z] = some (.int z.length) := if_pos h
theorem y_strI {i : Int} (h : i.natAbs.log2 < 1920) : gStr M [.int i] = some (.str (toString i)) := if_pos h
@[simp] theorem y_strS {i : Str} : gStr M [.str i] = some (.str i) := rfl
@[simp] theorem y_ixL {l : List Va} {i : Int} : opIx M (.lst l) (.int i) = atI l i := rfl
@[simp] theorem y_ixT {l : List Va} {i : Int} : opIx M (.tup l) (.int i) = atI l i := rfl
@[simp] theorem y_ixC {n : Nat} {i : Int} : opIx M (.cel n) (.int i) = (match (match M.c n with | some (.lst l) => some l | _ => none) with | some l => atI l i | none => none) := rfl
@[simp] theorem at_0 {α : Type} {a : α} {l : List α} : atI (a :: l) 0 = some a := by
  have e : ixN (a :: l).length 0 = some 0 := by unfold ixN; simp
  unfold atI; rw [e]; rfl
@[simp] theorem at_1 {α : Type} {a b : α} {l : List α} : atI (a :: b :: l) 1 = some b := by
  have e : ixN (a :: b :: l).length 1 = some 1 := by unfold ixN; simp; omega
  unfold atI; rw [e]; rfl
@[simp] theorem at_2 {α : Type} {a b c : α} {l : List α} : atI (a :: b :: c :: l) 2 = some c := by
  have e : ixN (a :: b :: c :: l).length 2 = some 2 := by unfold ixN; simp; omega
  unfold atI; rw [e]; rfl
theorem at_nat {α : Type} {l : List α} {i : Int} (h0 : 0 ≤ i) (h : i < l.length) : ∃ x, atI l i = some x ∧ x ∈ l ∧ l[i.toNat]? = some x := by
  have e : ixN l.length i = some i.toNat := by unfold ixN; rw [if_pos h0, if_pos h]
  have hl : i.toNat < l.length := by omega
  refine ⟨l[i.toNat], ?_, List.getElem_mem hl, by simp [hl]⟩
  unfold atI
  rw [e]
  simp [hl]
end
end PV

set_option Elab.async false
set_option linter.all false
set_option maxRecDepth 100000
set_option maxHeartbeats 4000000
namespace PV
open PySem L2

/-! ### comprehensions and loops, by invariants -/
inductive Al2 {α β : Type} (P : α → β → Prop) : List α → List β → Prop
  | nil : Al2 P [] []
  | cons {a : α} {b : β} {l : List α} {m : List β} : P a b → Al2 P l m → Al2 P (a :: l) (b :: m)
theorem Al2.len {α β : Type} {P : α → β → Prop} : ∀ {l : List α} {m : List β}, Al2 P l m → l.length = m.length
  | _, _, .nil => rfl
  | _, _, .cons _ t => by simp [t.len]
theorem Al2.all {α β : Type} {P : α → β → Prop} {Q : β → Prop} (h : ∀ a b, P a b → Q b) : ∀ {l : List α} {m : List β}, Al2 P l m → ∀ b ∈ m, Q b
  | _, _, .nil, _, hb => by cases hb
  | _, _, .cons p t, b, hb => by
    rcases List.mem_cons.mp hb with e | hb
    · subst e; exact h _ _ p
    · exact t.all h b hb
theorem compL_map {chk : Store → Prop} {tg : Tgt} {tt te : SE} {sw : SL} {M : Store} {α : Type} (enc f : α → Va) (hc : chk M) : ∀ (l : List α), (∀ x ∈ l, ∃ s1, tg (enc x) sw M = some s1 ∧ tt s1 M = some (.val (.bl true), M) ∧ te s1 M = some (.val (f x), M)) →
    compL chk tg tt te sw (l.map enc) M = some (l.map f, M)
  | [], _ => by
    show compL chk tg tt te sw [] M = _
    unfold compL
    rw [if_pos hc]; rfl
  | x :: l, h => by
    obtain ⟨s1, h1, h2, h3⟩ := h x (by simp)
    have ih := compL_map (tg := tg) (tt := tt) (te := te) (sw := sw) enc f hc l fun y hy => h y (by simp [hy])
    show compL chk tg tt te sw (enc x :: l.map enc) M = _
    unfold compL
    rw [if_pos hc, h1]
    dsimp only
    rw [h2]
    dsimp only
    rw [h3]
    dsimp only
    rw [ih]; rfl
theorem compL_filter {chk : Store → Prop} {tg : Tgt} {tt te : SE} {sw : SL} {M : Store} {α : Type} (enc f : α → Va) (p : α → Bool) (hc : chk M) : ∀ (l : List α), (∀ x ∈ l, ∃ s1, tg (enc x) sw M = some s1 ∧ tt s1 M = some (.val (.bl (p x)), M) ∧ (p x = true → te s1 M = some (.val (f x), M))) →
    compL chk tg tt te sw (l.map enc) M = some ((l.filter p).map f, M)
  | [], _ => by
    show compL chk tg tt te sw [] M = _
    unfold compL
    rw [if_pos hc]; rfl
  | x :: l, h => by
    obtain ⟨s1, h1, h2, h3⟩ := h x (by simp)
    have ih := compL_filter (tg := tg) (tt := tt) (te := te) (sw := sw) enc f p hc l fun y hy => h y (by simp [hy])
    show compL chk tg tt te sw (enc x :: l.map enc) M = _
    unfold compL
    rw [if_pos hc, h1]
    dsimp only
    rw [h2]
    cases q : p x with
    | true =>
      dsimp only
      rw [h3 q]
      dsimp only
      rw [ih, List.filter_cons_of_pos q]; rfl
    | false =>
      dsimp only
      rw [ih, List.filter_cons_of_neg (by simp [q])]
theorem compL_inv {chk : Store → Prop} {tg : Tgt} {tt te : SE} {sw : SL} (Inv : Nat → Store → Prop) (Good : Va → Va → Prop) (n : Nat) : ∀ (l : List Va) (i : Nat) (M : Store), i + l.length = n → Inv i M → (∀ i M, Inv i M → chk M) →
    (∀ i x M, i < n → x ∈ l → Inv i M → ∃ s1, tg x sw M = some s1 ∧ tt s1 M = some (.val (.bl true), M) ∧ ∃ y M', te s1 M = some (.val y, M') ∧ Good x y ∧ Inv (i + 1) M') →
    ∃ ys M', compL chk tg tt te sw l M = some (ys, M') ∧ Al2 Good l ys ∧ Inv n M'
  | [], i, M, hn, h, hc, _ => by
    refine ⟨[], M, ?_, .nil, by rw [← hn]; exact h⟩
    unfold compL
    rw [if_pos (hc i M h)]
  | x :: l, i, M, hn, h, hc, hs => by
    rw [List.length_cons] at hn
    obtain ⟨s1, h1, h2, y, M1, h3, gd, h4⟩ := hs i x M (by omega) (by simp) h
    obtain ⟨ys, M2, e, a, hi⟩ := compL_inv (tg := tg) (tt := tt) (te := te) (sw := sw) Inv Good n l (i + 1) M1 (by omega) h4 hc fun j z N hj hz => hs j z N hj (by simp [hz])
    refine ⟨y :: ys, M2, ?_, .cons gd a, hi⟩
    unfold compL
    rw [if_pos (hc i M h), h1]
    dsimp only
    rw [h2]
    dsimp only
    rw [h3]
    dsimp only
    rw [e]
theorem loopF_inv {chk : Store → Prop} {tg : Tgt} {body : SS} (Inv : List Va → SL → Store → Prop) (Post : RS → Prop)
    (step : ∀ x xs s M, Inv (x :: xs) s M → chk M ∧ ∃ s1, tg x s M = some s1 ∧ match body s1 M with
      | some (.nx, s2, M2) => Inv xs s2 M2
      | some (.ct, s2, M2) => Inv xs s2 M2
      | some (.bk, s2, M2) => Post (some (.nx, s2, M2))
      | r => Post r)
    (done : ∀ s M, Inv [] s M → chk M ∧ Post (some (.nx, s, M))) : ∀ (l : List Va) (s : SL) (M : Store), Inv l s M → Post (loopF chk tg body l s M)
  | [], s, M, h => by
    obtain ⟨h1, h2⟩ := done s M h
    unfold loopF
    rw [if_pos h1]
    exact h2
  | x :: l, s, M, h => by
    obtain ⟨h1, s1, h2, h3⟩ := step x l s M h
    unfold loopF
    rw [if_pos h1, h2]
    dsimp only
    rcases q : body s1 M with _ | ⟨_ | v | _ | _ | ⟨c, v⟩, s2, M2⟩ <;> rw [q] at h3
    · exact h3
    · exact loopF_inv Inv Post step done l s2 M2 h3
    · exact h3
    · exact h3
    · exact loopF_inv Inv Post step done l s2 M2 h3
    · exact h3

/-! ### what is walked -/
section
variable {s : SL} {M : Store}
@[simp] theorem z_for {src tg body} : sFor src tg body s M = (match src s M with
  | none => none
  | some (.it l chk, M1) => loopF chk tg body l s M1
  | some (.exc c v, M1) => some (.exc c v, s, M1)) := rfl
@[simp] theorem z_lc {src tg tt te vs} : evLc src tg tt te vs s M = (match src s M with
  | none => none
  | some (.it l chk, M1) => (match compL chk tg tt te (wipeI s vs) l M1 with
    | some (ys, M2) => some (.val (.lst ys), M2)
    | none => none)
  | some (.exc c v, M1) => some (.exc c v, M1)) := rfl
@[simp] theorem z_lcC {src tg tt te vs} : evLcC src tg tt te vs s M = (match src s M with
  | none => none
  | some (.it l chk, M1) => (match compL chk tg tt te (wipeI s vs) l M1 with
    | some (ys, M2) => some (.val (.cel M2.nx), M2.new (.lst ys))
    | none => none)
  | some (.exc c v, M1) => some (.exc c v, M1)) := rfl
theorem z_itL {e : SE} {l : List Va} {M1 : Store} (h : e s M = some (.val (.lst l), M1)) : itA e s M = some (.it l (fun _ => some l = some l), M1) := by
  unfold itA itL
  rw [h]; rfl
theorem z_itC {e : SE} {l : List Va} {n : Nat} {M1 : Store} (h : e s M = some (.val (.cel n), M1)) (h2 : M1.c n = some (.lst l)) : itA e s M = some (.it l (fun M => lstOf M (.cel n) = some l), M1) := by
  unfold itA itL
  rw [h]
  dsimp only
  rw [y_lstC, h2]
theorem z_itT {e : SE} {l : List Va} {M1 : Store} (h : e s M = some (.val (.tup l), M1)) : itA e s M = some (.it l (fun _ => True), M1) := by
  unfold itA itT
  rw [h]; rfl
theorem z_itS {e : SE} {z : Str} {M1 : Store} (h : e s M = some (.val (.str z), M1)) (hz : z.length ≤ 16777216) : itA e s M = some (.it (z.cps.toList.map fun c => Va.str ⟨#[c]⟩) (fun _ => True), M1) := by
  unfold itA itS
  rw [h]
  exact if_pos hz
theorem z_r1 {e : SE} {n : Int} {M1 : Store} (h : e s M = some (.val (.tup [.int n]), M1)) (h1 : n ≤ 100000) (h2 : -(2 ^ 62) ≤ n) : itR1 e s M = some (.it ((List.range n.toNat).map fun (i : Nat) => Va.int i) (fun _ => True), M1) := by
  unfold itR1
  rw [h]
  dsimp only
  rw [if_pos ⟨h1, h2⟩]
def rngO (r : Res) : Option (OutI × Store) := match r with
  | some (.val (.tup [.int n]), M1) => if n ≤ 100000 ∧ -(2 ^ 62) ≤ n then some (.it ((List.range n.toNat).map fun (i : Nat) => Va.int i) (fun _ => True), M1) else none
  | some (.exc c v, M1) => some (.exc c v, M1)
  | _ => none
@[simp] theorem z_itR1 {e : SE} : itR1 e s M = rngO (e s M) := rfl
theorem z_rng {n : Int} (h1 : n ≤ 100000) (h2 : -(2 ^ 62) ≤ n) : rngO (some (.val (.tup [.int n]), M)) = some (.it ((List.range n.toNat).map fun (i : Nat) => Va.int i) (fun _ => True), M) := if_pos ⟨h1, h2⟩
def anyO (r : Res) : Option (OutI × Store) := match r with
  | some (.val (.str z), M1) => if z.length ≤ sizeLine then some (.it (z.cps.toList.map fun c => Va.str ⟨#[c]⟩) (fun _ => True), M1) else none
  | some (.val (.tup l), M1) => some (.it l (fun _ => True), M1)
  | some (.val (.lst l), M1) => some (.it l (fun _ => True), M1)
  | some (.val (.scr l), M1) => some (.it (l.map Va.int) (fun _ => True), M1)
  | some (.val (.cel n), M1) => (match M1.c n with
    | some (.lst l) => some (.it l (fun M => lstOf M (.cel n) = some l), M1)
    | _ => none)
  | some (.exc c v, M1) => some (.exc c v, M1)
  | _ => none
@[simp] theorem z_itA {e : SE} : itA e s M = anyO (e s M) := by
  unfold itA itS itT itL
  rcases q : e s M with _ | ⟨x | ⟨c, x⟩, M1⟩
  · rfl
  · cases x <;> simp [anyO, tupOf, lstOf]
    rename_i n
    rcases M1.c n with _ | _ | _ | _ <;> rfl
  · rfl
@[simp] theorem z_anyL {l : List Va} : anyO (some (.val (.lst l), M)) = some (.it l (fun _ => True), M) := rfl
@[simp] theorem z_anyT {l : List Va} : anyO (some (.val (.tup l), M)) = some (.it l (fun _ => True), M) := rfl
@[simp] theorem z_anyI {l : List Int} : anyO (some (.val (.scr l), M)) = some (.it (l.map Va.int) (fun _ => True), M) := rfl
@[simp] theorem z_anyC {n : Nat} : anyO (some (.val (.cel n), M)) = (match M.c n with
    | some (.lst l) => some (.it l (fun M => lstOf M (.cel n) = some l), M)
    | _ => none) := rfl
theorem z_anyS {z : Str} (h : z.length ≤ 16777216) : anyO (some (.val (.str z), M)) = some (.it (z.cps.toList.map fun c => Va.str ⟨#[c]⟩) (fun _ => True), M) := if_pos h
@[simp] theorem z_wipe0 : wipeI s [] = s := rfl
@[simp] theorem z_wipeS {v : Nat} {vs : List Nat} : wipeI s (v :: vs) = (wipeI s vs).set v none := rfl
end

/-! ### texts as lists of signs -/
abbrev tl (x : Str) : List Nat := x.cps.toList
theorem tl_len (x : Str) : x.length = (tl x).length := by simp [tl, Str.length]
theorem tl_ext {x y : Str} (h : tl x = tl y) : x = y := TL.ext_tl h
theorem len_app (x y : Str) : (x ++ y).length = x.length + y.length := by
  rw [tl_len, tl_len, tl_len, show tl (x ++ y) = tl x ++ tl y from TL.tl_append x y, List.length_append]

/-! ### repr -/
theorem repr_of {M : Store} {x : Va} {d : PyData} (h : PdR M x d) (h1 : d.showable = true) (h3 : d.shown.length ≤ 16777216) (h4 : d.depth ≤ 60) : kRepr [x] M = some (.val (.str d.shown), M) := by
  unfold kRepr
  dsimp only
  rw [pdOf_eq h]
  dsimp only
  rw [if_pos ⟨h1, h3, h4⟩]
theorem shown_ok {d : PyData} {B W : Nat} (hB : 8 ≤ B) (hl : d.leavesShort B = true) (hw : d.weight ≤ W) (h : (B + 2) * W + B ≤ 16777216) : d.shown.length ≤ 16777216 := by
  have h1 := PyData.shown_le B hB d hl
  have h2 : (B + 2) * d.weight ≤ (B + 2) * W := Nat.mul_le_mul_left _ hw
  omega
end PV

set_option Elab.async false
set_option linter.all false
set_option maxRecDepth 100000
set_option maxHeartbeats 4000000
namespace PV
open PySem L2

/-! ### texts: numbers, pieces -/
def nmS (n : Int) : Str := Str.ofString (toString n)
theorem y_strN {M : Store} {i : Int} (h : i.natAbs.log2 < 1920) : gStr M [.int i] = some (.str (nmS i)) := if_pos h
theorem nm_tl (n : Int) : tl (nmS n) = if n < 0 then 45 :: TL.numL n.natAbs else TL.numL n.natAbs := by
  cases n with
  | ofNat m =>
    rw [if_neg (show ¬ Int.ofNat m < 0 from Int.not_lt.mpr (Int.natCast_nonneg m))]
    exact TL.tl_num m
  | negSucc m =>
    rw [if_pos (Int.negSucc_lt_zero m)]
    have e : toString (Int.negSucc m) = "-" ++ toString (m + 1) := rfl
    have e2 : toString (m + 1) = toString (((m + 1 : Nat) : Int)) := rfl
    show TL.tl (Str.ofString (toString (Int.negSucc m))) = _
    rw [e, TL.tl_ofString, String.toList_append, List.map_append, ← TL.tl_ofString (toString (m + 1)), e2, TL.tl_num]
    rfl
theorem nm_digits {n : Int} {c : Nat} (h : c ∈ tl (nmS n)) : c = 45 ∨ (48 ≤ c ∧ c ≤ 57) := by
  rw [nm_tl] at h
  split at h
  · rcases List.mem_cons.mp h with h | h
    · exact .inl h
    · exact .inr (TL.numL_digits _ c h)
  · exact .inr (TL.numL_digits _ c h)
theorem numL_head : ∀ (n : Nat), (TL.numL n).head? = some 48 → n = 0 := by
  intro n
  induction n using Nat.strongRecOn with
  | _ n ih =>
    intro h
    by_cases hn : n < 10
    · rw [TL.numL_lt hn] at h
      simp at h
      omega
    · have q := TL.numL_ne (n / 10)
      rw [TL.numL_step (by omega)] at h
      have : (TL.numL (n / 10)).head? = some 48 := by
        generalize TL.numL (n / 10) = l at h q
        cases l with
        | nil => exact absurd rfl q
        | cons a l => exact h
      have := ih (n / 10) (by omega) this
      omega
theorem nm_len {n : Int} {k : Nat} (hk : 0 < k) (h : n.natAbs < 10 ^ k) : (tl (nmS n)).length ≤ k + 1 := by
  have := TL.numL_len hk h
  rw [nm_tl]
  split
  · rw [List.length_cons]; omega
  · omega
theorem nm_val {n : Int} (h : n.natAbs < 10 ^ 600) : intText? (nmS n) = some n := by
  have hl := TL.numL_len (by decide) h
  by_cases hn : n < 0
  · have e : (nmS n).cps.toList = 45 :: TL.numL n.natAbs := by
      have := nm_tl n
      rw [if_pos hn] at this
      exact this
    rw [intText_neg e (TL.numL_digits _) (TL.numL_ne _) (by rw [tl_len, nm_tl, if_pos hn, List.length_cons]; omega), TL.numL_val]
    congr 1
    omega
  · have e : (nmS n).cps.toList = TL.numL n.natAbs := by
      have := nm_tl n
      rw [if_neg hn] at this
      exact this
    rw [intText_digits (by rw [e]; exact TL.numL_digits _) (by rw [e]; exact TL.numL_ne _) (by rw [tl_len, nm_tl, if_neg hn]; omega), e, TL.numL_val]
    congr 1
    omega
theorem starts_pre {x y : Str} (hy : TL.tl y ≠ []) : Txt.startswith x y = TL.pre (TL.tl y) (TL.tl x) := by
  have h := TL.at_iff (x := x) (y := y) hy 0
  rw [List.drop_zero] at h
  have e : Txt.startswith x y = true ↔ TL.pre (TL.tl y) (TL.tl x) = true := by
    rw [← h]
    unfold Txt.startswith
    rw [Bool.and_eq_true, decide_eq_true_eq]
    exact Iff.rfl
  cases a : Txt.startswith x y <;> cases b : TL.pre (TL.tl y) (TL.tl x) <;> simp_all
theorem cut_from {z : Str} (k : Nat) : tl (cutS z (some (k : Int)) none) = (tl z).drop k := by
  show (((tl z).drop (HT.sIx z.length 0 (some (k : Int)))).take (HT.sIx z.length z.length none - HT.sIx z.length 0 (some (k : Int)))) = _
  rw [HT.sIx_nat, HT.sIx_none]
  have e : z.length = (tl z).length := tl_len z
  rw [e]
  generalize tl z = l
  clear e
  by_cases h : k ≤ l.length
  · rw [Nat.min_eq_left h, List.take_of_length_le]
    rw [List.length_drop]; omega
  · rw [Nat.min_eq_right (by omega), Nat.sub_self, List.take_zero, List.drop_eq_nil_of_le (by omega)]
theorem cut_le (z : Str) (lo hi : Option Int) : (cutS z lo hi).length ≤ z.length := cutS_length z lo hi
theorem join_len (sep : Str) (parts : List Str) : (tl (Txt.join sep parts)) = TL.joinL (tl sep) (parts.map TL.tl) := by
  show TL.tl _ = _
  rw [TL.join_eq, TL.tl_join]
theorem split_ok {parts : List Str} {sep : Str} {s : Nat} {S : List Nat} (e : tl sep = s :: S) (hk : (tl sep).all (fun c => decide (c < 256)) = true) (hne : parts ≠ []) (hp : ∀ p ∈ parts, s ∉ tl p) : Txt.split (Txt.join sep parts) sep = parts := TL.split_join e (by rw [← Array.all_toList]; exact hk) hne hp
@[simp] theorem isN_non : isNonA .non = true := rfl
@[simp] theorem isN_bl {b : Bool} : isNonA (.bl b) = false := rfl
@[simp] theorem isN_int {b : Int} : isNonA (.int b) = false := rfl
@[simp] theorem isN_str {b : Str} : isNonA (.str b) = false := rfl
@[simp] theorem isN_lst {b : List Va} : isNonA (.lst b) = false := rfl
@[simp] theorem isN_tup {b : List Va} : isNonA (.tup b) = false := rfl
@[simp] theorem isN_cel {b : Nat} : isNonA (.cel b) = false := rfl
/-- a joined text, its parts glued behind one another with the separator ahead -/
theorem join_glue (S : List Nat) : ∀ (rows : List (List Nat)), TL.joinL S rows = ((rows.map fun r => S ++ r).flatten).drop S.length
  | [] => by simp [TL.joinL]
  | [r] => by simp [TL.joinL]
  | r :: q :: t => by
    have ih := join_glue S (q :: t)
    show r ++ (S ++ TL.joinL S (q :: t)) = _
    rw [ih]
    simp only [List.map_cons, List.flatten_cons, List.append_assoc, List.drop_left]
theorem joinL_len (S : List Nat) : ∀ (rows : List (List Nat)) (B : Nat), (∀ r ∈ rows, r.length ≤ B) → (TL.joinL S rows).length ≤ rows.length * (B + S.length)
  | [], _, _ => by simp [TL.joinL]
  | [r], B, h => by
    have := h r (by simp)
    simp [TL.joinL]; omega
  | r :: q :: t, B, h => by
    have ih := joinL_len S (q :: t) B fun x hx => h x (by simp [hx])
    have := h r (by simp)
    show (r ++ (S ++ TL.joinL S (q :: t))).length ≤ _
    rw [List.length_append, List.length_append, List.length_cons, Nat.succ_mul]
    omega
theorem sum_len {α : Type} (f : α → Nat) (B : Nat) : ∀ (l : List α), (∀ x ∈ l, f x ≤ B) → (l.map f).sum ≤ l.length * B
  | [], _ => by simp
  | x :: l, h => by
    have ih := sum_len f B l fun y hy => h y (by simp [hy])
    have := h x (by simp)
    rw [List.map_cons, List.sum_cons, List.length_cons, Nat.succ_mul]
    omega
end PV

set_option Elab.async false
set_option linter.all false
set_option maxRecDepth 100000
set_option maxHeartbeats 4000000
namespace PV
open PySem L2
open PyProof.Rows

/-! ### dicts by value -/
section
variable {α : Type}
def vaK (kvs : List (Key × α)) (k : Key) : Option α := (kvs.find? fun kv => decide (kv.1 = k)).map (·.2)
def puK (kvs : List (Key × α)) (k : Key) (v : α) : List (Key × α) :=
  if (kvs.any fun kv => decide (kv.1 = k)) = true then kvs.map (fun kv => if kv.1 = k then (kv.1, v) else kv) else kvs ++ [(k, v)]
def meK (kvs more : List (Key × α)) : List (Key × α) := more.foldl (fun acc kv => puK acc kv.1 kv.2) kvs
end
def keyA : Va → Option Key
  | .int i => some (.inl i)
  | .str x => some (.inr x)
  | _ => none
def keyVa : Key → Va
  | .inl i => .int i
  | .inr x => .str x
section
variable {G : Sig} {R : Hp} {ρ : List Addr}
theorem VR.key {x : Va} {v : V} {k : Key} (r : VR G R ρ x v) (h : keyA x = some k) : v = kV k := by
  cases r <;> cases h <;> rfl
theorem VR.ofKey (k : Key) : VR G R ρ (keyVa k) (kV k) := by
  cases k
  · exact .int _
  · exact .str _
theorem VRk.val {l : List (Key × Va)} {vs : List (Key × V)} (r : VRk G R ρ l vs) (k : Key) : match vaK l k, valV vs k with
    | some x, some v => VR G R ρ x v
    | none, none => True
    | _, _ => False := by
  unfold vaK valV
  induction l generalizing vs with
  | nil => cases r; exact trivial
  | cons p l ih =>
    cases r with
    | @cons k' x v _ us h t =>
      have ih := ih t
      rw [List.find?_cons, List.find?_cons]
      by_cases e : k' = k
      · simp only [e, decide_true]; exact h
      · simp only [e, decide_false]; exact ih
theorem VRk.some {l : List (Key × Va)} {vs : List (Key × V)} (r : VRk G R ρ l vs) {k : Key} {x : Va} (h : vaK l k = some x) : ∃ v, valV vs k = some v ∧ VR G R ρ x v := by
  have := r.val k
  rw [h] at this
  cases q : valV vs k with
  | none => rw [q] at this; exact this.elim
  | some v => rw [q] at this; exact ⟨v, rfl, this⟩
theorem VRk.isSome {l : List (Key × Va)} {vs : List (Key × V)} (r : VRk G R ρ l vs) (k : Key) : (valV vs k).isSome = (vaK l k).isSome := by
  have := r.val k
  cases q : valV vs k <;> cases q2 : vaK l k <;> rw [q, q2] at this <;> first | rfl | exact this.elim
theorem VRk.getD {l : List (Key × Va)} {vs : List (Key × V)} (r : VRk G R ρ l vs) (k : Key) {d : Va} {v : V} (h : VR G R ρ d v) : VR G R ρ ((vaK l k).getD d) ((valV vs k).getD v) := by
  have := r.val k
  cases q : valV vs k <;> cases q2 : vaK l k <;> rw [q, q2] at this <;> first | exact h | exact this | exact this.elim
theorem VRk.any {l : List (Key × Va)} {vs : List (Key × V)} (r : VRk G R ρ l vs) (k : Key) : (vs.any fun kv => decide (kv.1 = k)) = (l.any fun kv => decide (kv.1 = k)) := by
  induction l generalizing vs with
  | nil => cases r; rfl
  | cons p l ih =>
    cases r with
    | cons h t => rw [List.any_cons, List.any_cons, ih t]
theorem VRk.app {l m : List (Key × Va)} {vs us : List (Key × V)} (r : VRk G R ρ l vs) (q : VRk G R ρ m us) : VRk G R ρ (l ++ m) (vs ++ us) := by
  induction l generalizing vs with
  | nil => cases r; exact q
  | cons p l ih =>
    cases r with
    | cons h t => exact .cons h (ih t)
theorem VRk.mapPut (k : Key) {x : Va} {v : V} (h : VR G R ρ x v) : ∀ {l : List (Key × Va)} {vs : List (Key × V)}, VRk G R ρ l vs → VRk G R ρ (l.map fun kv => if kv.1 = k then (kv.1, x) else kv) (vs.map fun kv => if kv.1 = k then (kv.1, v) else kv)
  | _, _, .nil => .nil
  | _, _, .cons (k := k') h' t => by
    rw [List.map_cons, List.map_cons]
    by_cases e : k' = k
    · subst e
      rw [if_pos rfl, if_pos rfl]
      exact .cons h (VRk.mapPut _ h t)
    · rw [if_neg e, if_neg e]
      exact .cons h' (VRk.mapPut _ h t)
theorem VRk.put {l : List (Key × Va)} {vs : List (Key × V)} (r : VRk G R ρ l vs) (k : Key) {x : Va} {v : V} (h : VR G R ρ x v) : VRk G R ρ (puK l k x) (putK vs k v) := by
  unfold puK putK
  rw [r.any k]
  split
  · exact r.mapPut k h
  · exact r.app (.cons h .nil)
theorem VRk.merge {m : List (Key × Va)} {us : List (Key × V)} (q : VRk G R ρ m us) : ∀ {l : List (Key × Va)} {vs : List (Key × V)}, VRk G R ρ l vs → VRk G R ρ (meK l m) (mergeK vs us) := by
  induction m generalizing us with
  | nil => intro l vs r; cases q; exact r
  | cons p m ih =>
    intro l vs r
    cases q with
    | cons h t => exact ih t (r.put _ h)
theorem VRk.keys {l : List (Key × Va)} {vs : List (Key × V)} (r : VRk G R ρ l vs) : vs.map (·.1) = l.map (·.1) := by
  induction l generalizing vs with
  | nil => cases r; rfl
  | cons p l ih =>
    cases r with
    | cons h t => rw [List.map_cons, List.map_cons, ih t]
theorem puK_len {α : Type} (l : List (Key × α)) (k : Key) (x : α) : (puK l k x).length ≤ l.length + 1 := by
  unfold puK
  split
  · rw [List.length_map]; omega
  · rw [List.length_append]; simp
theorem meK_len {α : Type} : ∀ (m l : List (Key × α)), (meK l m).length ≤ l.length + m.length
  | [], l => by simp [meK]
  | p :: m, l => by
    have h := meK_len m (puK l p.1 p.2)
    have h2 := puK_len l p.1 p.2
    show (meK (puK l p.1 p.2) m).length ≤ _
    rw [List.length_cons]; omega
end

/-! ### {} -/
def evDNew : SE := fun _ M => some (.val (.cel M.nx), M.new (.dic []))
section
variable {X : Cx} {G : Sig} {E : XK} {a b c o : Expr} {es : List Expr} {ea eb ec eo : SE} {pos : Pos}
theorem q_dnew : PE X (.Dict [] [] pos) (tE G E evDNew) := pe_imp pe_dnewK fun σ H Q ⟨R, ρ, s, M, w, sr, p⟩ q hq => by
  obtain ⟨e, w', h⟩ := alloc_cel (o := .dK []) (x := .dic []) w hq ⟨[], upd_same, Nat.zero_le _, .nil⟩
  exact p _ _ _ _ e w' (.cel h)
end

/-! ### d[k], k in d -/
def rDGetA : R2 := fun x y H Q => ∃ a v, x = .ref a ∧ DGet H a y (some v) ∧ Q v H
def rDInA : R2 := fun y x H Q => ∃ a o, x = .ref a ∧ DGet H a y o ∧ Q (.bl o.isSome) H
def rDNotInA : R2 := fun y x H Q => ∃ a o, x = .ref a ∧ DGet H a y o ∧ Q (.bl (!o.isSome)) H
section
variable {X : Cx} {G : Sig} {k : Nat}
theorem ix_dict (hr : Room k X.A) : IxR X rDGetA := by
  intro value slice pins s σ H x y v u Q I rx ry ⟨a, z, ex, g, q⟩ hs
  subst ex
  obtain rfl : v = Value.ref a := rx
  have hT := dict_typeIs I g
  unfold subscriptTail
  refine wpAny_bind ?_
  rw [getitemInPython_of_ne hT.not_modules]
  refine wpAny_bind (wpAny_specialOf hT PySem.F.slot_dict_getitem.lookup ?_)
  have h2 : wpAny (model X.prog X.w) X.A (getItem (.ref a) u) (EP X pins σ Q) X.xe s := d_getItem (hu_of hr) I g ry fun w' s' I' rw' => ⟨z, H, I', rw', q⟩
  have fin : wpAny (model X.prog X.w) X.A (subscripted slice false (.ref a) u) (fun r s₃ => wpAny (model X.prog X.w) X.A (letTemporaryGo value (.ref a) r >>= fun _ => pure r) (EP X pins σ Q) X.xe s₃) X.xe s := by
    rw [hs]
    exact wpAny_operating (wpAny_mono h2 (fun r s₃ h₃ => wpAny_bind (wpAny_letTemporaryGo (wpAny_pure h₃))) fun _ _ x => x)
  first
    | exact wpAny_pure (wpAny_bind fin)
    | exact wpAny_bind (wpAny_pure (wpAny_bind fin))
    | exact wpAny_bind fin
theorem op_din (hr : Room k X.A) : OpR X (compareOp .In) rDInA := by
  intro pins s σ H x y v u Q I rx ry ⟨a, o, ey, g, q⟩
  subst ey
  obtain rfl : u = Value.ref a := ry
  exact d_in (hu_of hr) I g rx fun s' I' => ⟨.bl o.isSome, H, I', rfl, q⟩
theorem op_dnotin (hr : Room k X.A) : OpR X (compareOp .NotIn) rDNotInA := by
  intro pins s σ H x y v u Q I rx ry ⟨a, o, ey, g, q⟩
  subst ey
  obtain rfl : u = Value.ref a := ry
  exact d_notIn (hu_of hr) I g rx fun s' I' => ⟨.bl (!o.isSome), H, I', rfl, q⟩
theorem OpR.or {f : Value → Value → Sem Value} {r r' : R2} (h : OpR X f r) (h' : OpR X f r') : OpR X f (fun x y H Q => r x y H Q ∨ r' x y H Q) := by
  intro pins s σ H x y v u Q I rx ry q
  rcases q with q | q
  · exact h pins s σ H x y v u Q I rx ry q
  · exact h' pins s σ H x y v u Q I rx ry q
theorem CallR.or {f : Value} {r r' : List V → Hp → VK → Prop} (h : CallR X f r) (h' : CallR X f r') : CallR X f (fun xs H Q => r xs H Q ∨ r' xs H Q) := by
  intro pins s σ H xs us Q I rs q
  rcases q with q | q
  · exact h pins s σ H xs us Q I rs q
  · exact h' pins s σ H xs us Q I rs q
theorem PSet.or {t t' : TSet} (h : PSet X t) (h' : PSet X t') : PSet X (fun o i v H Q => t o i v H Q ∨ t' o i v H Q) := by
  intro pins s σ H o i v ov iv u Q I ro ri rv q
  rcases q with q | q
  · exact h pins s σ H o i v ov iv u Q I ro ri rv q
  · exact h' pins s σ H o i v ov iv u Q I ro ri rv q
def rSetD : TSet := fun o i v H Q => ∃ a H1, o = .ref a ∧ DPut H a i v H1 ∧ Q H1
theorem set_dict (hr : Room k X.A) : PSet X rSetD := by
  intro pins s σ H o i v ov iv u Q I ro ri rv ⟨a, H1, eo, g, q⟩
  subst eo
  obtain rfl : ov = Value.ref a := ro
  exact d_setItem (hu_of hr) I g ri rv fun s' I' => ⟨H1, I', q⟩
def opDGet (M : Store) (a b : Va) : Option Va := match dicOf M a, keyA b with
  | some l, some k => vaK l k
  | _, _ => none
/-- of a list, tuple, text or dict -/
def opIxD (M : Store) (a b : Va) : Option Va := match dicOf M a with
  | some _ => opDGet M a b
  | none => opIx M a b
theorem dget_of {R : Hp} {ρ : List Addr} {M : Store} {H : Hp} {va vb : Va} {x y : V} {l : List (Key × Va)} {key : Key} (w : Wd G R ρ M H) (ra : VR G R ρ va x) (rb : VR G R ρ vb y) (h : dicOf M va = some l) (hk : keyA vb = some key) :
    ∃ a vs, x = .ref a ∧ H a = some (.dK vs) ∧ VRk G R ρ l vs ∧ y = kV key ∧ DGet H a y (valV vs key) := by
  obtain ⟨a, vs, ex, ha, rk, _⟩ := dic_read w ra h
  have ey := rb.key hk
  exact ⟨a, vs, ex, ha, rk, ey, ey ▸ DGet.k ha⟩
theorem s_dget : Op2 G rDGetA opDGet := by
  intro R ρ M H x y va vb res Q w ra rb h g
  unfold opDGet at h
  split at h
  · rename_i l key h1 h2
    obtain ⟨a, vs, ex, ha, rk, ey, dg⟩ := dget_of w ra rb h1 h2
    obtain ⟨v, hv, rv⟩ := rk.some h
    exact ⟨a, v, ex, hv ▸ dg, gives_now w rv g⟩
  · cases h
theorem s_ixD (hK : X.K = G.K) : Op2 G (fun x y H Q => rIx X.K x y H Q ∨ rDGetA x y H Q) opIxD := by
  intro R ρ M H x y va vb res Q w ra rb h g
  unfold opIxD at h
  split at h
  · exact .inr (s_dget R ρ M H x y va vb res Q w ra rb h g)
  · exact .inl (s_ix hK R ρ M H x y va vb res Q w ra rb h g)
noncomputable def opInX (M : Store) (a b : Va) : Option Va := match dicOf M b with
  | some l => (keyA a).map fun k => .bl (vaK l k).isSome
  | none => opInD M a b
noncomputable def opNotInX (M : Store) (a b : Va) : Option Va := match dicOf M b with
  | some l => (keyA a).map fun k => .bl (!(vaK l k).isSome)
  | none => opNotInD M a b
theorem s_inX {r : R2} (hs : Op2 G r opInD) : Op2 G (fun x y H Q => r x y H Q ∨ rDInA x y H Q) opInX := by
  intro R ρ M H x y va vb res Q w ra rb h g
  unfold opInX at h
  split at h
  · rename_i l h1
    cases h2 : keyA va with
    | none => rw [h2] at h; cases h
    | some key =>
      rw [h2] at h; cases h
      obtain ⟨a, vs, ex, ha, rk, ey, dg⟩ := dget_of w rb ra h1 h2
      refine .inr ⟨a, _, ex, dg, ?_⟩
      rw [rk.isSome key]
      exact gives_now w (.bl _) g
  · exact .inl (hs R ρ M H x y va vb res Q w ra rb h g)
theorem s_notInX {r : R2} (hs : Op2 G r opNotInD) : Op2 G (fun x y H Q => r x y H Q ∨ rDNotInA x y H Q) opNotInX := by
  intro R ρ M H x y va vb res Q w ra rb h g
  unfold opNotInX at h
  split at h
  · rename_i l h1
    cases h2 : keyA va with
    | none => rw [h2] at h; cases h
    | some key =>
      rw [h2] at h; cases h
      obtain ⟨a, vs, ex, ha, rk, ey, dg⟩ := dget_of w rb ra h1 h2
      refine .inr ⟨a, _, ex, dg, ?_⟩
      rw [rk.isSome key]
      exact gives_now w (.bl _) g
  · exact .inl (hs R ρ M H x y va vb res Q w ra rb h g)

/-! ### d[k] = v -/
def cSetK (o i v : Va) (M : Store) : Option Store := match o with
  | .cel n => (match M.c n, keyA i with
    | some (.dic l), some k => if l.length < sizeLine then some (M.put n (.dic (puK l k v))) else none
    | _, _ => none)
  | _ => none
def cSetX (o i v : Va) (M : Store) : Option Store := match dicOf M o with
  | some _ => cSetK o i v M
  | none => cSetAt o i v M
theorem s_setK : SubSim G rSetD cSetK := fun R ρ M M' H o i x vo vi v kk w ro ri rv h q => by
  unfold cSetK at h
  split at h
  · rename_i n
    split at h
    · rename_i l key hc hk
      split at h
      · rename_i hz
        cases h
        cases ro with
        | cel e =>
          obtain ⟨a, e1, ra, vs, ha, z, r0⟩ := w.cel n _ hc
          rw [e] at e1
          cases e1
          have ei := ri.key hk
          subst ei
          refine ⟨_, _, rfl, DPut.k (v := x) ha (by rw [← r0.length]; exact hz), ?_⟩
          have rp := r0.put key rv
          have hl := puK_len l key v
          obtain ⟨ex, wd⟩ := write_cel (o := .dK (putK vs key x)) (y := .dic (puK l key v)) w hc e ⟨_, upd_same, by omega, rp⟩
          exact q _ ex wd
      · cases h
    · cases h
  · cases h
theorem s_setX : SubSim G (fun o i v H Q => rSetL o i v H Q ∨ rSetD o i v H Q) cSetX := fun R ρ M M' H o i x vo vi v kk w ro ri rv h q => by
  unfold cSetX at h
  split at h
  · exact .inr (s_setK R ρ M M' H o i x vo vi v kk w ro ri rv h q)
  · exact .inl (s_setAt R ρ M M' H o i x vo vi v kk w ro ri rv h q)
end
end PV

set_option Elab.async false
set_option linter.all false
set_option maxRecDepth 100000
set_option maxHeartbeats 4000000
namespace PV
open PySem L2
open PyProof.Rows

/-! ### an object that was made before its place in the store -/
section
variable {G : Sig} {R R' : Hp} {ρ ρ' : List Addr} {M : Store} {H H' : Hp} {D : Addr} {o : HO}
theorem Ext.takeC (e : Ext R ρ H R' ρ' H') (hD : H D = none) : Ext R ρ H R' (ρ' ++ [D]) H' := by
  obtain ⟨τ, z, f⟩ := e.cls
  refine ⟨e.reg, ⟨τ ++ [D], by rw [z, List.append_assoc], fun x hx => ?_⟩, e.keep, e.dom, e.nreg⟩
  rcases List.mem_append.mp hx with h | h
  · exact f x h
  · rw [List.mem_singleton.mp h]; exact hD
theorem Wd.takeC {x : Cell} (w' : Wd G R ρ M H) (hDc : H D ≠ none) (rDn : R D = none) (nDr : D ∉ ρ) (hx : CelR G R ρ H D x) : Wd G R (ρ ++ [D]) (M.new x) H ∧ (ρ ++ [D])[M.nx]? = some D := by
  have gp : (ρ ++ [D])[M.nx]? = some D := by rw [← w'.len]; simp
  have gr : Gr R ρ R (ρ ++ [D]) := ⟨fun _ _ h => h, fun n a h => by rw [List.getElem?_append_left (List.getElem?_eq_some_iff.mp h).1]; exact h⟩
  have old : ∀ n y, n ≠ M.nx → (M.new x).c n = some y → M.c n = some y := fun n y hn h => by
    have h' : (if n = M.nx then some x else M.c n) = some y := h
    rw [if_neg hn] at h'
    exact h'
  have neD : ∀ n y a, M.c n = some y → (ρ ++ [D])[n]? = some a → a ≠ D := fun n y a h e z => by
    obtain ⟨b, e2, _, _⟩ := w'.cel n y h
    rw [gr.get n b e2] at e
    cases e
    exact nDr (by rw [← z]; exact List.mem_of_getElem? e2)
  refine ⟨⟨w'.sub, by simp [Store.new, w'.len], fun n y h => ?_, fun n m b y z h1 h2 f1 f2 => ?_, fun a h => ?_⟩, gp⟩
  · by_cases e : n = M.nx
    · subst e
      have h' : (if M.nx = M.nx then some x else M.c M.nx) = some y := h
      rw [if_pos rfl] at h'
      cases h'
      exact ⟨D, gp, rDn, celR_mono gr hx fun u q => q⟩
    · obtain ⟨b, e1, r, c⟩ := w'.cel n y (old n y e h)
      exact ⟨b, gr.get n b e1, r, celR_mono gr c fun u q => q⟩
  · by_cases q1 : n = M.nx <;> by_cases q2 : m = M.nx
    · rw [q1, q2]
    · rw [q1, gp] at f1
      cases f1
      exact absurd rfl (neD m z _ (old m z q2 h2) f2)
    · rw [q2, gp] at f2
      cases f2
      exact absurd rfl (neD n y _ (old n y q1 h1) f1)
    · have h1' := old n y q1 h1
      have h2' := old m z q2 h2
      obtain ⟨b1, g1, _⟩ := w'.cel n y h1'
      obtain ⟨b2, g2, _⟩ := w'.cel m z h2'
      rw [gr.get n b1 g1] at f1
      rw [gr.get m b2 g2] at f2
      cases f1
      cases f2
      exact w'.inj n m b y z h1' h2' g1 g2
  · rcases List.mem_append.mp h with h | h
    · exact w'.al a h
    · rw [List.mem_singleton.mp h]; exact hDc
/-- an object that nothing leans on is replaced -/
theorem Wd.chg (w : Wd G R ρ M H) (rDn : R D = none) (nDr : D ∉ ρ) : Wd G R ρ M (upd H D o) := by
  refine ⟨fun a u h => ?_, w.len, fun n x h => ?_, w.inj, fun a h => ?_⟩
  · rw [upd_ne (fun z => by subst z; rw [rDn] at h; cases h)]
    exact w.sub a u h
  · obtain ⟨a, e, r, c⟩ := w.cel n x h
    have ne : a ≠ D := fun z => nDr (by rw [← z]; exact List.mem_of_getElem? e)
    refine ⟨a, e, r, ?_⟩
    cases x with
    | lst l => obtain ⟨vs, h1, h2⟩ := c; exact ⟨vs, by rw [upd_ne ne]; exact h1, h2⟩
    | dic l => obtain ⟨vs, h1, h2⟩ := c; exact ⟨vs, by rw [upd_ne ne]; exact h1, h2⟩
    | ins k l => obtain ⟨dx, vs, h1, h2⟩ := c; exact ⟨dx, vs, by rw [upd_ne ne]; exact h1, h2⟩
  · by_cases z : a = D
    · subst z; exact absurd h nDr
    · rw [upd_ne z]; exact w.al a h
theorem Ext.chg (e : Ext R ρ H R' ρ' H') (hD : H D = none) : Ext R ρ H R' ρ' (upd H' D o) := by
  refine ⟨e.reg, e.cls, fun a u h n => ?_, fun a h => ?_, e.nreg⟩
  · rw [upd_ne (ne_of_none h hD)]; exact e.keep a u h n
  · by_cases z : a = D
    · subst z; rw [upd_same]; simp
    · rw [upd_ne z]; exact e.dom a h
end

/-! ### written dicts -/
def evPairs : List (SE × SE) → SE
  | [] => fun _ M => some (.val (.dic []), M)
  | (k, v) :: r => fun s M => bindO (k s M) fun kv M1 => bindO (v s M1) fun x M2 => bindO (evPairs r s M2) fun t M3 => match keyA kv, t with
    | some key, .dic l => some (.val (.dic ((key, x) :: l)), M3)
    | _, _ => none
def evDisp (ps : List (SE × SE)) : SE := fun s M => bindO (evPairs ps s M) fun t M1 => match t with
  | .dic l => if l.length ≤ 15 then some (.val (.dic (meK [] l)), M1) else none
  | _ => none
def evDispC (ps : List (SE × SE)) : SE := fun s M => bindO (evPairs ps s M) fun t M1 => match t with
  | .dic l => if l.length ≤ 15 then some (.val (.cel M1.nx), M1.new (.dic (meK [] l))) else none
  | _ => none
section
variable {X : Cx} {G : Sig} {E : XK} {pos : Pos}
def PostP (G : Sig) (R : Hp) (ρ : List Addr) (H : Hp) (r : Res) (Q : List (V × V) → Hp → Prop) (E : XK) : Prop := match r with
  | none => False
  | some (.val (.dic l), M) => ∀ R' ρ' H' vs, Ext R ρ H R' ρ' H' → Wd G R' ρ' M H' → VRk G R' ρ' l vs → Q (vs.map fun kv => (kV kv.1, kv.2)) H'
  | some (.val _, _) => False
  | some (.exc c x, M) => PostX G R ρ H M E c x
theorem pairs_sim {σ : L2.St} : ∀ (ps : List (SE × SE)) {R : Hp} {ρ : List Addr} {M : Store} {H : Hp} {s : SL} {Q : List (V × V) → Hp → Prop}, Wd G R ρ M H → SR G R ρ s σ → PostP G R ρ H (evPairs ps s M) Q E →
    tPairs (ps.map fun p => (tE G E p.1, tE G E p.2)) σ H Q
  | [], R, ρ, M, H, s, Q, w, sr, p => p R ρ H [] Ext.refl w .nil
  | (k, v) :: r, R, ρ, M, H, s, Q, w, sr, p => by
    show tE G E k σ H fun x H1 => tE G E v σ H1 fun y H2 => tPairs (r.map fun p => (tE G E p.1, tE G E p.2)) σ H2 fun qs H3 => Q ((x, y) :: qs) H3
    unfold evPairs at p
    refine ⟨R, ρ, s, M, w, sr, ?_⟩
    rcases q : k s M with _ | ⟨x | ⟨c, x⟩, M1⟩ <;> rw [q] at p
    · exact p
    · intro R1 ρ1 H1 xv e1 w1 r1
      refine ⟨R1, ρ1, s, M1, w1, sr.mono e1.gr, ?_⟩
      rw [bindO_val] at p
      rcases q2 : v s M1 with _ | ⟨y | ⟨c, y⟩, M2⟩ <;> rw [q2] at p
      · exact p
      · intro R2 ρ2 H2 yv e2 w2 r2
        rw [bindO_val] at p
        refine pairs_sim r w2 (sr.mono (e1.trans e2).gr) ?_
        rcases q3 : evPairs r s M2 with _ | ⟨z | ⟨c, z⟩, M3⟩ <;> rw [q3] at p
        · exact p
        · rw [bindO_val] at p
          cases hk : keyA x with
          | none => rw [hk] at p; exact p.elim
          | some key =>
            rw [hk] at p
            cases z <;> first | exact p.elim | skip
            intro R3 ρ3 H3 vs e3 w3 r3
            have := p R3 ρ3 H3 ((key, yv) :: vs) ((e1.trans e2).trans e3) w3 (.cons (r2.mono e3.gr) r3)
            rw [r1.key hk]
            exact this
        · exact PostX.ext (e1.trans e2) p
      · exact PostX.ext e1 p
    · exact p
theorem disp_core {trs : List (SE × SE)} {σ : L2.St} {H : Hp} {Q : VK} {mk : List (Key × Va) → Store → Res} (h : tE G E (fun s M => bindO (evPairs trs s M) fun t M1 => match t with
  | .dic l => if l.length ≤ 15 then mk l M1 else none
  | _ => none) σ H Q)
    (hm : ∀ R ρ R' ρ' H' M' l vs p o, o = HO.dK (mergeK [] vs) → H p = none → Ext R ρ H R' ρ' (upd H' p o) → Wd G R' ρ' M' (upd H' p o) → R' p = none → p ∉ ρ' → VRk G R' ρ' l vs → l.length ≤ 15 → Post G R ρ H (mk l M') Q E → Q (.ref p) (upd H' p o)) :
    tDisp (trs.map fun p => (tE G E p.1, tE G E p.2)) σ H Q := by
  obtain ⟨R, ρ, s, M, w, sr, p⟩ := h
  intro a ha
  have e0 : Ext R ρ H R ρ (upd H a (.dK [])) := Ext.heapNew ha
  have w0 : Wd G R ρ M (upd H a (.dK [])) := w.heap fun b o h => by rw [upd_ne (ne_of_none h ha)]; exact h
  have hR := w.nonR ha
  have hρ : a ∉ ρ := fun z => w.al a z ha
  refine pairs_sim trs w0 (sr.mono e0.gr) ?_
  replace p : Post G R ρ H (bindO (evPairs trs s M) _) Q E := p
  rcases q : evPairs trs s M with _ | ⟨z | ⟨c, z⟩, M1⟩ <;> rw [q] at p
  · exact p
  · rw [bindO_val] at p
    cases z <;> first | exact p.elim | skip
    intro R1 ρ1 H1 vs e1 w1 r1
    obtain ⟨a1, a2, a3⟩ := e1.apart upd_same hR hρ
    dsimp only at p
    split at p
    · rename_i hl
      refine ⟨a3, vs, rfl, by rw [← r1.length]; exact hl, ?_⟩
      exact hm R ρ R1 ρ1 H1 M1 _ vs a _ rfl ha ((e0.trans e1).chg ha) (w1.chg a1 a2) a1 a2 r1 hl p
    · exact p.elim
  · exact PostX.ext e0 p
theorem disp_len {l : List (Key × Va)} (h : l.length ≤ 15) : (meK [] l).length ≤ sizeLine := by
  have := meK_len l []
  have : (meK [] l).length ≤ 15 := by simp at this; omega
  exact Nat.le_trans this (by decide)
theorem q_disp {keys : List (Option Expr)} {values : List Expr} {trs : List (SE × SE)} (h : PPs X pos keys values (trs.map fun p => (tE G E p.1, tE G E p.2))) (hall : keys.all (·.isSome) = true) (hl : keys.length = values.length) (h0 : keys ≠ []) (h15 : keys.length ≤ 15) :
    PE X (.Dict keys values pos) (tE G E (evDisp trs)) :=
  pe_imp (pe_disp h hall hl h0 h15) fun σ H Q q => disp_core (mk := fun l M1 => some (.val (.dic (meK [] l)), M1)) q fun R ρ R' ρ' H' M' l vs p o eo hp e w hR hρ r hl q => by
    subst eo
    have gr : Gr R' ρ' (upd R' p (.dK (mergeK [] vs))) ρ' := ⟨fun b u z => by rw [upd_ne (fun y => by subst y; rw [hR] at z; cases z)]; exact z, fun _ _ z => z⟩
    exact q _ ρ' _ (.ref p) (e.take hp hR) (w.take upd_same hR hρ) (.dic upd_same (disp_len hl) ((r.merge .nil).mono gr))
theorem q_dispC {keys : List (Option Expr)} {values : List Expr} {trs : List (SE × SE)} (h : PPs X pos keys values (trs.map fun p => (tE G E p.1, tE G E p.2))) (hall : keys.all (·.isSome) = true) (hl : keys.length = values.length) (h0 : keys ≠ []) (h15 : keys.length ≤ 15) :
    PE X (.Dict keys values pos) (tE G E (evDispC trs)) :=
  pe_imp (pe_disp h hall hl h0 h15) fun σ H Q q => disp_core (mk := fun l M1 => some (.val (.cel M1.nx), M1.new (.dic (meK [] l)))) q fun R ρ R' ρ' H' M' l vs p o eo hp e w hR hρ r hl q => by
    subst eo
    obtain ⟨w2, g2⟩ := w.takeC (x := .dic (meK [] l)) (by rw [upd_same]; simp) hR hρ ⟨_, upd_same, disp_len hl, r.merge .nil⟩
    exact q _ _ _ (.ref p) (e.takeC hp) w2 (.cel g2)
theorem qp_nil : PPs X pos [] [] (([] : List (SE × SE)).map fun p => (tE G E p.1, tE G E p.2)) := pps_nil
theorem qp_cons {k v : Expr} {ks : List (Option Expr)} {vs : List Expr} {ek ev : SE} {trs : List (SE × SE)} (hk : PE X k (tE G E ek)) (hv : PE X v (tE G E ev)) (hr : PPs X pos ks vs (trs.map fun p => (tE G E p.1, tE G E p.2))) :
    PPs X pos (some k :: ks) (v :: vs) (((ek, ev) :: trs).map fun p => (tE G E p.1, tE G E p.2)) := pps_cons hk hv hr
end

/-! ### d.get, clear, sorted, list, dict -/
def gGetD (M : Store) : Va → List Va → Option Va
  | d, [k] => (match dicOf M d, keyA k with
    | some l, some key => some ((vaK l key).getD .non)
    | _, _ => none)
  | d, [k, z] => (match dicOf M d, keyA k with
    | some l, some key => some ((vaK l key).getD z)
    | _, _ => none)
  | _, _ => none
def rGetD : V → List V → Hp → VK → Prop := fun x xs H Q => (∃ a y o, x = .ref a ∧ xs = [y] ∧ DGet H a y o ∧ Q (o.getD .non) H) ∨ ∃ a y z o, x = .ref a ∧ xs = [y, z] ∧ DGet H a y o ∧ Q (o.getD z) H
section
variable {X : Cx} {G : Sig} {k : Nat}
theorem mt_getD (hr : Room k X.A) : MtR X "dict.get" rGetD := by
  intro pins s σ H x xs v us Q I rx rv h
  rcases h with ⟨a, y, o, ex, es, g, q⟩ | ⟨a, y, z, o, ex, es, g, q⟩
  · subst ex es
    obtain rfl : v = Value.ref a := rx
    obtain ⟨u, rfl, ru⟩ := vals1 rv
    exact d_get1 (hu_of hr) I g ru fun w' s' I' rw' => ⟨_, H, I', rw', q⟩
  · subst ex es
    obtain rfl : v = Value.ref a := rx
    cases rv with
    | cons r1 r2 =>
      obtain ⟨u, rfl, ru⟩ := vals1 r2
      exact d_get2 (hu_of hr) I g r1 ru fun w' s' I' rw' => ⟨_, H, I', rw', q⟩
theorem s_getD : OpM G "dict" rGetD (kVal gGetD) := by
  intro R ρ M H x xs o l Q E w ro rv p
  unfold kVal at p
  cases q : gGetD M o l with
  | none => rw [q] at p; exact p.elim
  | some res =>
    rw [q] at p
    unfold gGetD at q
    split at q
    · split at q
      · rename_i l' key h1 h2
        cases q
        obtain ⟨y, rfl, ry⟩ := one_of rv
        obtain ⟨a, vs, ex, ha, rk, ey, dg⟩ := dget_of w ro ry h1 h2
        exact .inl ⟨a, y, _, ex, rfl, dg, gives_now w (rk.getD key .non) p⟩
      · cases q
    · split at q
      · rename_i l' key h1 h2
        cases q
        obtain ⟨y, z, rfl, ry, rz⟩ := two_of rv
        obtain ⟨a, vs, ex, ha, rk, ey, dg⟩ := dget_of w ro ry h1 h2
        exact .inr ⟨a, y, z, _, ex, rfl, dg, gives_now w (rk.getD key rz) p⟩
      · cases q
    · cases q
def cDClear : Cell → List Va → Option (Cell × Va)
  | .dic _, [] => some (.dic [], .non)
  | _, _ => none
theorem s_dclear : OpM G "dict" rDClear (kMut cDClear) := by
  intro R ρ M H x xs o l Q E w ro rv p
  unfold kMut at p
  split at p
  · rename_i n
    split at p
    · rename_i c hc
      split at p
      · rename_i c' y hg
        unfold cDClear at hg
        split at hg
        · rename_i l0
          cases hg
          cases rv
          cases ro with
          | cel e =>
            obtain ⟨a, e1, ra, vs, ha, z, r0⟩ := w.cel n _ hc
            rw [e] at e1
            cases e1
            obtain ⟨ex, wd⟩ := write_cel (o := .dK []) (y := .dic []) w hc e ⟨[], upd_same, Nat.zero_le _, .nil⟩
            exact ⟨_, vs, rfl, rfl, ha, p _ _ _ _ ex wd .non⟩
        · cases hg
      · exact p.elim
    · exact p.elim
  · exact p.elim
end

/-! ### sorted, list(d), dict(d) -/
def txtOfKeys : List Key → Option (List Str)
  | [] => some []
  | .inr x :: r => (txtOfKeys r).map (x :: ·)
  | _ :: _ => none
theorem txtOfKeys_eq : ∀ {ks : List Key} {zs : List Str}, txtOfKeys ks = some zs → ks = zs.map Sum.inr
  | [], _, h => by cases h; rfl
  | .inr x :: r, _, h => by
    unfold txtOfKeys at h
    cases q : txtOfKeys r with
    | none => rw [q] at h; cases h
    | some l => rw [q] at h; cases h; rw [List.map_cons, ← txtOfKeys_eq q]
  | .inl _ :: _, _, h => by cases h
theorem txtOfKeys_map : ∀ zs : List Str, txtOfKeys (zs.map Sum.inr) = some zs
  | [] => rfl
  | z :: zs => by
    show (txtOfKeys (zs.map Sum.inr)).map (z :: ·) = _
    rw [txtOfKeys_map zs]; rfl
def leS (a b : Str) : Bool := decide (a.cps.toList ≤ b.cps.toList)
/-- the texts in ascending order -/
def srtS (zs : List Str) : List Str := zs.mergeSort leS
theorem leS_trans (a b c : Str) (h1 : leS a b = true) (h2 : leS b c = true) : leS a c = true := by
  unfold leS at *
  rw [decide_eq_true_eq] at *
  exact List.le_trans h1 h2
theorem leS_total (a b : Str) : (leS a b || leS b a) = true := by
  unfold leS
  rw [Bool.or_eq_true, decide_eq_true_eq, decide_eq_true_eq]
  exact List.le_total _ _
theorem leS_antisymm (a b : Str) (h1 : leS a b = true) (h2 : leS b a = true) : a = b := by
  unfold leS at *
  rw [decide_eq_true_eq] at *
  exact tl_ext (List.le_antisymm h1 h2)
theorem rising_pw : ∀ (l : List Str) (p : Str), risingS p l = true → (p :: l).Pairwise fun a b => leS a b = true
  | [], p, _ => by simp
  | x :: r, p, h => by
    replace h : (!PySem.Spec.ltCps x.cps.toList p.cps.toList && risingS x r) = true := h
    rw [Bool.and_eq_true] at h
    have ih := rising_pw r x h.2
    have hx : leS p x = true := by
      unfold leS
      rw [decide_eq_true_eq, ← List.not_lt]
      have := h.1
      rw [PyProof.Rows.ltCps_eq] at this
      simpa using this
    refine List.pairwise_cons.mpr ⟨fun y hy => ?_, ih⟩
    rcases List.mem_cons.mp hy with e | hy
    · subst e; exact hx
    · exact leS_trans _ _ _ hx ((List.pairwise_cons.mp ih).1 y hy)
theorem sorted_pw : ∀ (l : List Str), sortedS l = true → l.Pairwise fun a b => leS a b = true
  | [], _ => .nil
  | x :: r, h => rising_pw r x h
theorem srtS_perm (zs : List Str) : (srtS zs).Perm zs := List.mergeSort_perm zs leS
theorem srtS_pw (zs : List Str) : (srtS zs).Pairwise fun a b => leS a b = true := List.pairwise_mergeSort leS_trans leS_total zs
theorem srtS_eq {ys zs : List Str} (p : ys.Perm zs) (h : sortedS ys = true) : ys = srtS zs :=
  List.Perm.eq_of_pairwise (le := fun a b => leS a b = true) (fun a b _ _ => leS_antisymm a b) (sorted_pw ys h) (srtS_pw zs) (p.trans (srtS_perm zs).symm)
/-- sorted, of a list of texts or a dict with such keys -/
def srtOf (M : Store) (x : Va) : Option (List Str) := match dicOf M x with
  | some l => txtOfKeys (l.map (·.1))
  | none => (lstOf M x).bind strsOf
def gSorted (M : Store) : List Va → Option Va
  | [x] => match srtOf M x with
    | some zs => if zs.length < 64 then some (.lst ((srtS zs).map Va.str)) else none
    | none => none
  | _ => none
def rSortedD : List V → Hp → VK → Prop := fun xs H Q => ∃ (a : Addr) (kvs : List (Key × V)) (ks : List Str), xs = [.ref a] ∧ Rd H a (.dK kvs) ∧ kvs.map (·.1) = ks.map Sum.inr ∧ ks.length < 64 ∧
    ∀ ys p, ys.Perm ks → sortedS ys = true → H p = none → Q (.ref p) (upd H p (.lst (ys.map V.str)))
section
variable {X : Cx} {G : Sig} {k : Nat}
theorem s_sorted (hK : X.K = G.K) : OpL G (fun xs H Q => rSortedS X.K xs H Q ∨ rSortedD xs H Q) (kPure gSorted) := pure_of fun R ρ M H xs l res Q w rv h g => by
  unfold gSorted at h
  split at h
  · rename_i x
    obtain ⟨v, rfl, r⟩ := one_of rv
    split at h
    · rename_i zs hz
      split at h
      · rename_i h64
        cases h
        have fin : ∀ ys p, ys.Perm zs → sortedS ys = true → H p = none → Q (.ref p) (upd H p (.lst (ys.map V.str))) := fun ys p hp hs hq => by
          have e := srtS_eq hp hs
          subst e
          exact gives_lst w (VRs.strs _) (by rw [List.length_map, hp.length_eq, sizeLine_eq]; omega) g hq
        unfold srtOf at hz
        split at hz
        · rename_i l' hl'
          obtain ⟨a, vs, rfl, ha, rk, _⟩ := dic_read w r hl'
          exact .inr ⟨a, vs, zs, rfl, .inl ha, by rw [rk.keys]; exact txtOfKeys_eq hz, h64, fin⟩
        · cases hq : lstOf M x with
          | none => rw [hq] at hz; cases hz
          | some l' =>
            rw [hq] at hz
            obtain ⟨a, vs, rfl, sq, rvs, _⟩ := lst_read w r hq
            have := strs_of rvs hz
            subst this
            exact .inl ⟨a, zs, rfl, by rw [hK]; exact sq, h64, fin⟩
      · cases h
    · cases h
  · cases h
/-- dict(d): a copy -/
def gDict (M : Store) : List Va → Option Va
  | [x] => (dicOf M x).map Va.dic
  | _ => none
def kDict (l : List Va) (M : Store) : Res := match l with
  | [x] => (match dicOf M x with
    | some l => some (.val (.cel M.nx), M.new (.dic l))
    | none => none)
  | _ => none
def rDictD : List V → Hp → VK → Prop := fun xs H Q => ∃ (a : Addr) (kvs : List (Key × V)), xs = [.ref a] ∧ Rd H a (.dK kvs) ∧ ∀ p, H p = none → Q (.ref p) (upd H p (.dK kvs))
theorem s_dictF : OpL G rDictD (kPure gDict) := pure_of fun R ρ M H xs l res Q w rv h g => by
  unfold gDict at h
  split at h
  · rename_i x
    obtain ⟨v, rfl, r⟩ := one_of rv
    cases hq : dicOf M x with
    | none => rw [hq] at h; cases h
    | some l' =>
      rw [hq] at h; cases h
      obtain ⟨a, vs, rfl, ha, rk, z⟩ := dic_read w r hq
      exact ⟨a, vs, rfl, .inl ha, fun p hp => gives_dic w rk z g hp⟩
  · cases h
theorem s_dictC : OpL G rDictD kDict := fun R ρ M H xs l Q E w rv p => by
  unfold kDict at p
  split at p
  · rename_i x
    obtain ⟨v, rfl, r⟩ := one_of rv
    split at p
    · rename_i l' hq
      obtain ⟨a, vs, rfl, ha, rk, z⟩ := dic_read w r hq
      refine ⟨a, vs, rfl, .inl ha, fun q hq => ?_⟩
      obtain ⟨e, w', h⟩ := alloc_cel (o := .dK vs) (x := .dic l') w hq ⟨vs, upd_same, z, rk⟩
      exact p _ _ _ _ e w' (.cel h)
    · exact p.elim
  · exact p.elim
/-- list(d): the keys -/
def lstOrKeys (M : Store) (x : Va) : Option (List Va) := match dicOf M x with
  | some l => some (l.map fun kv => keyVa kv.1)
  | none => seqOf M x
def gListX (M : Store) : List Va → Option Va
  | [x] => (lstOrKeys M x).map Va.lst
  | _ => none
def kListX (l : List Va) (M : Store) : Res := match l with
  | [x] => (match lstOrKeys M x with
    | some l => some (.val (.cel M.nx), M.new (.lst l))
    | none => none)
  | _ => none
end

/-! ### objects of own classes -/
/-- the class stands, and these names are attributes of its objects alone -/
structure ClsF (K : PySem.W.Frag) (C : Addr) (fs : List Str) : Prop where
  cl : Cls K C
  no : ∀ f ∈ fs, NoAttr K C f
def opFld (c : Nat) (f : Str) (M : Store) : Va → Option Va
  | .cel n => (match M.c n with
    | some (.ins k l) => if k = c then l.lookup f else none
    | _ => none)
  | _ => none
section
variable {G : Sig} {R : Hp} {ρ : List Addr}
theorem VRf.look {f : Str} {x : Va} : ∀ {l : List (Str × Va)} {vs : List (Str × V)}, VRf G R ρ l vs → l.lookup f = some x → ∃ v, vs.lookup f = some v ∧ VR G R ρ x v
  | _, _, .nil, h => by cases h
  | _, _, .cons (k := k) r t, h => by
    rw [List.lookup_cons] at h ⊢
    cases q : f == k with
    | true => rw [q] at h; cases h; exact ⟨_, rfl, r⟩
    | false => rw [q] at h; exact VRf.look t h
theorem VRf.len : ∀ {l : List (Str × Va)} {vs : List (Str × V)}, VRf G R ρ l vs → l.length = vs.length
  | _, _, .nil => rfl
  | _, _, .cons _ t => by rw [List.length_cons, List.length_cons, VRf.len t]
theorem VRf.none {f : Str} : ∀ {l : List (Str × Va)} {vs : List (Str × V)}, VRf G R ρ l vs → l.lookup f = none → vs.lookup f = none
  | _, _, .nil, h => rfl
  | _, _, .cons (k := k) r t, h => by
    rw [List.lookup_cons] at h ⊢
    cases q : f == k with
    | true => rw [q] at h; cases h
    | false => rw [q] at h; exact VRf.none t h
theorem VRf.put {f : Str} {x : Va} {v : V} (r0 : VR G R ρ x v) : ∀ {l : List (Str × Va)} {vs : List (Str × V)}, VRf G R ρ l vs → VRf G R ρ (putA f x l) (putF f v vs)
  | _, _, .nil => .cons r0 .nil
  | _, _, .cons (k := k) r t => by
    unfold putA putF
    by_cases e : k = f
    · rw [if_pos e, if_pos e]; exact .cons r0 t
    · rw [if_neg e, if_neg e]; exact .cons r (VRf.put r0 t)
theorem ins_read {M : Store} {H : Hp} {n c : Nat} {l : List (Str × Va)} {v : V} (w : Wd G R ρ M H) (r : VR G R ρ (.cel n) v) (h : M.c n = some (.ins c l)) : ∃ a dx vs, v = .ref a ∧ ρ[n]? = some a ∧ H a = some (.ins (G.CA c) dx vs) ∧ VRf G R ρ l vs := by
  cases r with
  | cel e =>
    obtain ⟨a, e1, _, dx, vs, ha, r0⟩ := w.cel n _ h
    rw [e] at e1
    cases e1
    exact ⟨_, dx, vs, rfl, e, ha, r0⟩
end
def cSetF (c : Nat) (f : Str) (o v : Va) (M : Store) : Option Store := match o with
  | .cel n => (match M.c n with
    | some (.ins k l) => if k = c ∧ l.length < 1000 then some (M.put n (.ins k (putA f v l))) else none
    | _ => none)
  | _ => none
def sFldS (e eo : SE) (g : Va → Va → Store → Option Store) : SS := sE e fun v s M => sE eo (fun o s M => match g o v M with
  | some M1 => some (.nx, s, M1)
  | none => none) s M
section
variable {X : Cx} {G : Sig} {E : XK} {a b e o value : Expr} {es : List Expr} {ea eo ev : SE} {pos pos' p' apos : Pos} {c : Nat} {f : Str} {fs : List Str}
theorem q_fld (hK : X.K = G.K) (F : ClsF X.K (G.CA c) fs) (hf : f ∈ fs) (ha : PE X a (tE G E ea)) (hb : attributeBase a f X.env (eval a X.env) = eval a X.env := by rfl) : PE X (.Attribute a f pos) (tE G E (ev1 (opFld c f) ea)) :=
  pe_imp (pe_fld ha hb) fun σ H Q ⟨R, ρ, s, M, w, sr, p⟩ => stepE w sr p fun R1 ρ1 M1 H1 va v e1 w1 sr1 r1 p1 => by
    cases h : opFld c f M1 va with
    | none => rw [h] at p1; exact p1.elim
    | some res =>
      rw [h] at p1
      unfold opFld at h
      split at h
      · split at h
        · rename_i n k l hc
          split at h
          · rename_i ek
            subst ek
            obtain ⟨a, dx, vs, rfl, e2, ha, rf⟩ := ins_read w1 r1 hc
            obtain ⟨u, hu, ru⟩ := rf.look h
            exact ⟨a, _, dx, vs, u, rfl, ha, F.cl, F.no f hf, hu, gives_now w1 ru p1⟩
          · cases h
        · cases h
      · cases h
theorem qs_fld (hK : X.K = G.K) (F : ClsF X.K (G.CA c) fs) (hf : f ∈ fs) (ha : PE X value (tE G E ev)) (ho : PE X o (tE G E eo)) (hs : swapsWith value (some (.Attribute o f pos')) pos.line X.env = pure false := by rfl) :
    PS X (.Assign [.Attribute o f pos'] value pos) (tS G E (sFldS ev eo (cSetF c f))) :=
  ps_imp (ps_fld ho ha hs) fun D σ H ⟨R, ρ, s, M, w, sr, p⟩ => stepS w sr p fun R1 ρ1 M1 H1 va v e1 w1 sr1 r1 p1 =>
    stepS w1 sr1 p1 fun R2 ρ2 M2 H2 vo x e2 w2 sr2 r2 p2 => by
      cases h : cSetF c f vo va M2 with
      | none => rw [h] at p2; exact p2.elim
      | some M3 =>
        rw [h] at p2
        unfold cSetF at h
        split at h
        · split at h
          · rename_i n k l hc
            split at h
            · rename_i ek
              obtain ⟨ek, hl⟩ := ek
              cases h
              subst ek
              obtain ⟨a, dx, vs, rfl, en, ha, rf⟩ := ins_read w2 r2 hc
              refine ⟨a, _, dx, vs, rfl, ha, F.cl, F.no f hf, by rw [← rf.len]; exact hl, ?_⟩
              obtain ⟨ex, wd⟩ := write_cel (o := .ins (G.CA k) dx (putF f v vs)) (y := .ins k (putA f va l)) w2 hc en ⟨dx, _, upd_same, rf.put (r1.mono e2.gr)⟩
              exact nxt_now wd (sr2.mono ex.gr) (Nxt.ext ex p2)
            · cases h
          · cases h
        · cases h
end

/-! ### making, properties, methods, an own == -/
def kMake (c : Nat) (n : Nat) (f : FM) (l : List Va) (M : Store) : Res := if l.length = n then (match f (.cel M.nx :: l) (M.new (.ins c [])) with
  | some (.val .non, M2) => some (.val (.cel M.nx), M2)
  | some (.val _, _) => none
  | some (.exc k v, M2) => some (.exc k v, M2)
  | none => none) else none
def kProp (c : Nat) (f : FM) (M : Store) (o : Va) : Res := match o with
  | .cel n => (match M.c n with
    | some (.ins k _) => if k = c then f [.cel n] M else none
    | _ => none)
  | _ => none
def evProp (c : Nat) (f : FM) (e : SE) : SE := fun s M => bindO (e s M) fun o M1 => kProp c f M1 o
def kMethA (c : Nat) (m : Str) (n : Nat) (f : FM) (o : Va) (l : List Va) (M : Store) : Res := if l.length = n then f (o :: l) M else none
def isObj (c : Nat) (m : Str) (M : Store) (o : Va) : Bool := match o with
  | .cel n => (match M.c n with
    | some (.ins k l) => decide (k = c) && (l.lookup m).isNone
    | _ => false)
  | _ => false
def evMeth (c : Nat) (m : Str) (n : Nat) (f : FM) (eo ea : SE) : SE := fun s M => bindO (eo s M) fun o M1 => if isObj c m M1 o = true then bindO (ea s M1) fun t M2 => (match t with
  | .tup l => if l.length = n then f (o :: l) M2 else none
  | _ => none) else none
section
variable {X : Cx} {G : Sig} {E : XK} {a o e : Expr} {es : List Expr} {ea eo : SE} {pos p' apos : Pos} {c n k : Nat} {f C g p : Addr} {fd : FuncData} {ps : List Str} {x m : Str} {fM : FM} {sp : Sp} {CX : CXT} {ta : TE} {t : TA} {dvs : List V} {ds : List Value}
theorem run_makeG {pins : List (Addr × Obj)} {σ : L2.St} {H : Hp} {s : Shared} {Q : VK} {us : List Value} {vs : List V} (M : Mk X.K C f) (F : FnG X.prog X.w X.K X.mg X.base CX k f fd ps sp) (hr : Room (k + 1) X.A) (hgd : X.A.guards = some []) (hb : Binds X.K fd ps ds) (hd : Vals dvs ds)
    (hx : Passes CX X E) (I : Inv X pins σ H s) (r : Vals vs us)
    (h : ∀ x dx, H x = none → H dx = none → dx ≠ x → sp (.ref x :: (vs ++ dvs)) (upd (upd H dx (.own x)) x (.ins C dx [])) (fun v H2 => v = .non ∧ Q (.ref x) H2) E) :
    wpAny (model X.prog X.w) X.A (call (.ref C) us) (EP X pins σ Q) X.xe s := by
  have hq := h (s.heap.objs.size + 1) s.heap.objs.size (I.hok.fresh (Nat.le_succ _)) (I.hok.fresh (Nat.le_refl _)) (Nat.ne_of_lt (Nat.lt_succ_self _))
  have I2 := Inv.made (C := C) I
  have r2 : Vals (V.ref (s.heap.objs.size + 1) :: (vs ++ dvs)) (Value.ref (s.heap.objs.size + 1) :: (us ++ ds)) := .cons rfl (r.append hd)
  have hl : (Value.ref (s.heap.objs.size + 1) :: us ++ ds).length = ps.length := by
    have e := r2.length
    rw [F.arity _ _ _ _ hq] at e
    exact e.symm
  refine wpAny_call (make_map (f := f) I.kIn M.makes M.init (beq_iff_eq.mp M.fn) (codeAny_mono (F.go _ (hr.make C us []) (by exact hgd) X.stack _ _ (I2.env0.make C us []) ⟨Value.ref (s.heap.objs.size + 1) :: us, []⟩ (Value.ref (s.heap.objs.size + 1) :: (us ++ ds)) _
    (hb _ (Value.ref (s.heap.objs.size + 1) :: us) I2.kIn hl) r2 _ E hq) fun r s' hq' => ?_))
  cases r with
  | error e => exact hx pins σ _ _ e s' I2 hq'
  | ok fl =>
    cases fl with
    | ret u =>
      obtain ⟨v, H', I3, rv, ev, q3⟩ := I2.after hq'
      subst ev
      exact ⟨rv, ⟨V.ref (s.heap.objs.size + 1), H', I3, rfl, q3⟩⟩
    | next => exact False.elim hq'
    | brk => exact False.elim hq'
    | cont => exact False.elim hq'
theorem pe_makeG (M : Mk X.K C f) (F : FnG X.prog X.w X.K X.mg X.base CX k f fd ps sp) (hr : Room (k + 1) X.A) (hgd : X.A.guards = some []) (hg : Gl X x) (hm : X.mg x = some (.ref C)) (hb : Binds X.K fd ps ds) (hd : Vals dvs ds) (hx : Passes CX X E)
    (ha : PA X (e :: es) t) (hdb : (x == ("__debug__" : Str)) = false := by decide) (he : starEach (e :: es) X.env = (false, eval e X.env) :: starEach es X.env := by rfl) (hpl : (backTo pos (starEach es X.env)).any (·.1) = false := by rfl) :
    PE X (.Call (.Name x p') (e :: es) [] pos) (tMake C sp dvs E t) :=
  ⟨fun pins s σ H Q I h => wpAny_Call_Name_kw (ld_glob I hg hm (PySem.W.callWith_K (h₀ := X.base) I.ok.mod.kin M.kp
    (thn (ha.run pos pins s σ H _ I h) fun us s1 ⟨vs, H1, I1, r, q⟩ => ⟨I1.kIn, run_makeG M F hr hgd hb hd hx I1 r q⟩) he hpl) hdb)⟩
theorem make_sim {R : Hp} {ρ : List Addr} {M : Store} {H : Hp} {l : List Va} {vs : List V} {Q : VK} (w : Wd G R ρ M H) (r : VRs G R ρ l vs) (q : Post G R ρ H (kMake c n fM l M) Q E0) (hC : G.CA c = C) :
    ∀ x dx, H x = none → H dx = none → dx ≠ x → spI G (n + 1) fM (.ref x :: (vs ++ [])) (upd (upd H dx (.own x)) x (.ins C dx [])) (fun v H2 => v = .non ∧ Q (.ref x) H2) E0 := by
  intro x dx hx hdx ne
  unfold kMake at q
  by_cases hl : l.length = n
  · rw [if_pos hl] at q
    have e0 : Ext R ρ H R ρ (upd H dx (.own x)) := Ext.heapNew hdx
    have w0 : Wd G R ρ M (upd H dx (.own x)) := w.heap fun b o h => by rw [upd_ne (ne_of_none h hdx)]; exact h
    have hx' : (upd H dx (.own x)) x = none := by rw [upd_ne ne.symm]; exact hx
    obtain ⟨e1, w1, g1⟩ := alloc_cel (o := .ins C dx []) (x := .ins c []) w0 hx' ⟨dx, [], by rw [hC, upd_same], .nil⟩
    refine ⟨by rw [List.append_nil, List.length_cons, ← r.length, hl], R, _, _, .cel M.nx :: l, w1, .cons (.cel g1) (by rw [List.append_nil]; exact r.mono e1.gr), ?_⟩
    rcases z : fM (.cel M.nx :: l) (M.new (.ins c [])) with _ | ⟨y | ⟨k, y⟩, M2⟩ <;> rw [z] at q
    · exact q
    · cases y <;> first | exact q.elim | skip
      intro R' ρ' H' v e w' rv
      cases rv
      exact ⟨rfl, q R' ρ' H' (.ref x) ((e0.trans e1).trans e) w' (.cel (e.get g1))⟩
    · intro R' ρ' H' d v e w' h rv
      exact q R' ρ' H' d v ((e0.trans e1).trans e) w' h rv
  · rw [if_neg hl] at q; exact q.elim
/-- how a class stands in the text: made by its __init__, of n arguments -/
structure MkB (P : Program) (w : World) (K : PySem.W.Frag) (mg : Str → Option Value) (base : Heap) (G : Sig) (x : Str) (c : Nat) (lv n : Nat) (fM : FM) : Prop where
  ex : ∃ (f : Addr) (fd : FuncData) (ps : List Str), mg x = some (.ref (G.CA c)) ∧ Mk K (G.CA c) f ∧ Binds K fd ps [] ∧ FnG P w K mg base CX0 lv f fd ps (spI G (n + 1) fM)
/-- a property, or a method, of a class -/
structure PrB (P : Program) (w : World) (K : PySem.W.Frag) (mg : Str → Option Value) (base : Heap) (G : Sig) (c : Nat) (x : Str) (lv : Nat) (fM : FM) : Prop where
  ex : ∃ (p f : Addr) (fd : FuncData) (ps : List Str), Cls K (G.CA c) ∧ PropOf K (G.CA c) x p f ∧ Binds K fd ps [] ∧ FnG P w K mg base CX0 lv f fd ps (spI G 1 fM)
structure MeB (P : Program) (w : World) (K : PySem.W.Frag) (mg : Str → Option Value) (base : Heap) (G : Sig) (c : Nat) (x : Str) (lv n : Nat) (fM : FM) : Prop where
  ex : ∃ (f : Addr) (fd : FuncData) (ps : List Str), Cls K (G.CA c) ∧ Meth K (G.CA c) x f ∧ Binds K fd ps [] ∧ FnG P w K mg base CX0 lv f fd ps (spI G (n + 1) fM)
variable {lv : Nat}
theorem q_make (B : MkB X.prog X.w X.K X.mg X.base G x c lv n fM) (hr : Room k X.A) (hl : lv + 1 ≤ k) (hgd : X.A.guards = some []) (hg : Gl X x) (ha : PA X (e :: es) (tA G E0 ea)) (hdb : (x == ("__debug__" : Str)) = false := by decide)
    (he : starEach (e :: es) X.env = (false, eval e X.env) :: starEach es X.env := by rfl) (hpl : (backTo pos (starEach es X.env)).any (·.1) = false := by rfl) :
    PE X (.Call (.Name x p') (e :: es) [] pos) (tE G E0 (evL (kMake c n fM) ea)) := by
  obtain ⟨f, fd, ps, hm, hk, hb, F⟩ := B.ex
  exact pe_imp (pe_makeG hk F (hr.mono hl) hgd hg hm hb .nil pass0 ha hdb he hpl) fun σ H Q ⟨R, ρ, s, M, w, sr, p⟩ => stepA w sr p fun R1 ρ1 M1 H1 l vs e1 w1 sr1 r1 p1 => make_sim w1 r1 p1 rfl
theorem getprop_G {pins : List (Addr × Obj)} {σ : L2.St} {H : Hp} {s : Shared} {Q : VK} {b : Bool} {a dx : Addr} {fs : List (Str × V)} (I : Inv X pins σ H s) (ea : H a = some (.ins C dx fs)) (c : Cls X.K C) (hp : PropOf X.K C m p g)
    (F : FnG X.prog X.w X.K X.mg X.base CX k g fd ps sp) (hr : Room (k + 1) X.A) (hgd : X.A.guards = some []) (hb : Binds X.K fd ps ds) (hd : Vals dvs ds) (hx : Passes CX X.nox E) (h : sp (.ref a :: dvs) H Q E) :
    wpAny (model X.prog X.w) X.A (getAttr (.ref a) m b) (EP X pins σ Q) X.xe s := by
  obtain ⟨mA, O, _, _, _, _⟩ := ins_get I.hok ea
  obtain ⟨od, J, _⟩ := O.look
  obtain ⟨rest, hrec⟩ := hp.rec_
  have I1 := I.tok (s.toks + 1)
  have hl : ([Value.ref a] ++ ds).length = ps.length := by
    rw [← F.arity _ _ _ _ h]
    show ds.length + 1 = dvs.length + 1
    rw [hd.length]
  have hc : (PySem.W.clsIn X.K C).isSome = true := by
    obtain ⟨cd, hc, _⟩ := PySem.W.any_some c.hd
    rw [hc]
    rfl
  refine PySem.W.get_bind I.kIn J (PySem.W.plainGet_of (c.get m)).1 (PySem.W.findObj_data hc hp.at_ hp.get hp.tak) (PySem.W.plainGet_of (c.get m)).2 (wpAny_call (PySem.W.prop_get (s := { s with toks := s.toks + 1 }) I.kIn hrec ?_))
  refine codeAny_mono (F.go X.A.in1 hr.in1 (by exact hgd) X.stack { s with toks := s.toks + 1 } H I1.env0.in1 ⟨[.ref a], []⟩ (.ref a :: ds) (.ref a :: dvs) (hb _ [.ref a] I1.kIn hl) (.cons rfl hd) Q E h) fun r s' hq => ?_
  cases r with
  | error er => exact False.elim (hx pins σ H { s with toks := s.toks + 1 } er s' (I1.wish _) hq)
  | ok fl =>
    cases fl with
    | ret u =>
      obtain ⟨v, H', I3, rv, q3⟩ := I1.after hq
      show wpAny _ _ (handedOut u) _ _ _
      rw [PySem.W.handedOut_of (handed_of rv)]
      exact wpAny_pure ⟨v, H', I3, rv, q3⟩
    | next => exact False.elim hq
    | brk => exact False.elim hq
    | cont => exact False.elim hq
theorem q_prop (B : PrB X.prog X.w X.K X.mg X.base G c m lv fM) (hr : Room k X.A) (hl : lv + 1 ≤ k) (hgd : X.A.guards = some []) (ha : PE X a (tE G E0 ea)) (hab : attributeBase a m X.env (eval a X.env) = eval a X.env := by rfl) :
    PE X (.Attribute a m pos) (tE G E0 (evProp c fM ea)) := by
  obtain ⟨p, f, fd, ps, hc, hp, hb, F⟩ := B.ex
  refine ⟨fun pins s σ H Q I h => ?_⟩
  have h' : tE G E0 ea σ H fun x H1 => ∃ b dx fs, x = .ref b ∧ H1 b = some (.ins (G.CA c) dx fs) ∧ spI G 1 fM [.ref b] H1 Q E0 := by
    obtain ⟨R, ρ, s', M, w, sr, p⟩ := h
    refine stepE w sr p fun R1 ρ1 M1 H1 va v e1 w1 sr1 r1 p1 => ?_
    unfold kProp at p1
    split at p1
    · split at p1
      · rename_i n' k' l' hc'
        split at p1
        · rename_i ek
          subst ek
          obtain ⟨b, dx, vs, rfl, _, hb', _⟩ := ins_read w1 r1 hc'
          exact ⟨b, dx, vs, rfl, hb', rfl, R1, ρ1, M1, _, w1, .cons r1 .nil, p1⟩
        · exact p1.elim
      · exact p1.elim
    · exact p1.elim
  refine attr_of hab (thn (ha.run pins s σ H _ I h') fun u s1 ⟨x, H1, I1, rx, b, dx, fs, ex, eb, q⟩ => ?_)
  subst ex
  obtain rfl : u = Value.ref b := rx
  exact getprop_G I1 eb hc hp F (hr.mono hl) hgd hb .nil pass0 q
theorem meth_obj {R : Hp} {ρ : List Addr} {M : Store} {H : Hp} {va : Va} {v : V} (w : Wd G R ρ M H) (r : VR G R ρ va v) (h : isObj c m M va = true) : ∃ b dx fs, v = .ref b ∧ H b = some (.ins (G.CA c) dx fs) ∧ fs.lookup m = none := by
  unfold isObj at h
  split at h
  · split at h
    · rename_i n' k' l' hc'
      rw [Bool.and_eq_true, decide_eq_true_eq] at h
      obtain ⟨ek, hl⟩ := h
      subst ek
      obtain ⟨b, dx, vs, rfl, _, hb', rf⟩ := ins_read w r hc'
      exact ⟨b, dx, vs, rfl, hb', rf.none (by simpa using hl)⟩
    · cases h
  · cases h
theorem q_meth {pl : Sem Bool} (B : MeB X.prog X.w X.K X.mg X.base G c m lv n fM) (hr : Room k X.A) (hl : lv ≤ k) (hgd : X.A.guards = some []) (ho : PE X o (tE G E0 eo)) (ha : PA X (e :: es) (tA G E0 ea))
    (hst : starEach (e :: es) X.env = (false, eval e X.env) :: starEach es X.env := by rfl) (hpl : (backTo pos (starEach es X.env)).any (·.1) = false := by rfl)
    (ht : eval (.Call (.Attribute o m apos) (e :: es) [] pos) X.env = (do
      let ov ← eval o X.env
      standAt apos.atName
      let (f, first) ← holding [ov] (getMethod ov m pl)
      callWith pos f first (backTo pos (starEach (e :: es) X.env)) (backToKw pos (keywordEach [] X.env))) := by rfl) :
    PE X (.Call (.Attribute o m apos) (e :: es) [] pos) (tE G E0 (evMeth c m n fM eo ea)) := by
  obtain ⟨f, fd, ps, hc, hm, hb, F⟩ := B.ex
  refine ⟨fun pins s σ H Q I h => ?_⟩
  have h' : tE G E0 eo σ H fun x H1 => ∃ b dx fs, x = .ref b ∧ H1 b = some (.ins (G.CA c) dx fs) ∧ fs.lookup m = none ∧ tA G E0 ea σ H1 fun vs H2 => spI G (n + 1) fM (x :: vs) H2 Q E0 := by
    obtain ⟨R, ρ, s', M, w, sr, p⟩ := h
    refine stepE w sr p fun R1 ρ1 M1 H1 va v e1 w1 sr1 r1 p1 => ?_
    split at p1
    · rename_i hob
      obtain ⟨b, dx, fs, rfl, hb', hn⟩ := meth_obj w1 r1 hob
      refine ⟨b, dx, fs, rfl, hb', hn, stepA w1 sr1 p1 fun R2 ρ2 M2 H2 l vs e2 w2 sr2 r2 p2 => ?_⟩
      by_cases hl : l.length = n
      · rw [if_pos hl] at p2
        exact ⟨by rw [List.length_cons, ← r2.length, hl], R2, ρ2, M2, va :: l, w2, .cons (r1.mono e2.gr) r2, p2⟩
      · rw [if_neg hl] at p2; exact p2.elim
    · exact p1.elim
  refine PySem.W.methodCall_KW (pl := pl) (thn (ho.run pins s σ H _ I h') fun u s1 ⟨x, H1, I1, rx, b, dx, fs, ex, ea, l, q⟩ => ?_) ht
  subst ex
  obtain rfl : u = Value.ref b := rx
  refine getmeth_ok I1 ea hc hm l ?_
  refine PySem.W.callWith_K (first := [.ref b]) (h₀ := X.base) I.ok.mod.kin hm.kp (thn (ha.run pos pins s1 σ H1 _ I1 q) fun us s2 ⟨vs, H2, I2, r, q2⟩ => ⟨I2.kIn, ?_⟩) hst hpl
  exact run_fnG (us := .ref b :: us) (vs := .ref b :: vs) F (hr.mono hl) hgd hb .nil pass0 I2 (.cons rfl r) (by rw [List.append_nil]; exact q2)
theorem q_meth0 {pl : Sem Bool} (B : MeB X.prog X.w X.K X.mg X.base G c m lv 0 fM) (hr : Room k X.A) (hl : lv ≤ k) (hgd : X.A.guards = some []) (ho : PE X o (tE G E0 eo))
    (ht : eval (.Call (.Attribute o m apos) [] [] pos) X.env = (do
      let ov ← eval o X.env
      standAt apos.atName
      let (f, first) ← holding [ov] (getMethod ov m pl)
      callWith pos f first (backTo pos (starEach [] X.env)) (backToKw pos (keywordEach [] X.env))) := by rfl) :
    PE X (.Call (.Attribute o m apos) [] [] pos) (tE G E0 (evMeth c m 0 fM eo evNil)) := by
  obtain ⟨f, fd, ps, hc, hm, hb, F⟩ := B.ex
  refine ⟨fun pins s σ H Q I h => ?_⟩
  have h' : tE G E0 eo σ H fun x H1 => ∃ b dx fs, x = .ref b ∧ H1 b = some (.ins (G.CA c) dx fs) ∧ fs.lookup m = none ∧ spI G 1 fM [x] H1 Q E0 := by
    obtain ⟨R, ρ, s', M, w, sr, p⟩ := h
    refine stepE w sr p fun R1 ρ1 M1 H1 va v e1 w1 sr1 r1 p1 => ?_
    split at p1
    · rename_i hob
      obtain ⟨b, dx, fs, rfl, hb', hn⟩ := meth_obj w1 r1 hob
      exact ⟨b, dx, fs, rfl, hb', hn, rfl, R1, ρ1, M1, [va], w1, .cons r1 .nil, p1⟩
    · exact p1.elim
  refine PySem.W.methodCall_KW (pl := pl) (thn (ho.run pins s σ H _ I h') fun u s1 ⟨x, H1, I1, rx, b, dx, fs, ex, ea, l, q⟩ => ?_) ht
  subst ex
  obtain rfl : u = Value.ref b := rx
  refine getmeth_ok I1 ea hc hm l ?_
  exact PySem.W.callWith_K0 (first := [.ref b]) I1.kIn hm.kp (run_fnG (us := [.ref b]) (vs := [.ref b]) F (hr.mono hl) hgd hb .nil pass0 I1 (.cons rfl .nil) (by exact q))
/-- == of two objects of a class with its own -/
structure EqB (P : Program) (w : World) (K : PySem.W.Frag) (mg : Str → Option Value) (base : Heap) (G : Sig) (c : Nat) (lv : Nat) (fM : FM) : Prop where
  ex : ∃ (f : Addr) (fd : FuncData) (ps : List Str), PySem.W.findIn K (.ref (G.CA c)) "__eq__" = some (some (.ref f)) ∧ PySem.W.isFn K (.ref f) = true ∧ Binds K fd ps [] ∧ FnG P w K mg base CX0 lv f fd ps (spI G 2 fM)
def rOwnEq (G : Sig) (c : Nat) (fM : FM) : R2 := fun x y H Q => ∃ a b dx dy fs gs, x = .ref a ∧ y = .ref b ∧ H a = some (.ins (G.CA c) dx fs) ∧ H b = some (.ins (G.CA c) dy gs) ∧ spI G 2 fM [.ref a, .ref b] H Q E0
theorem op_eqOwn (B : EqB X.prog X.w X.K X.mg X.base G c lv fM) (hr : Room k X.A) (hl : lv ≤ k) (hgd : X.A.guards = some []) : OpR X (compareOp .Eq) (rOwnEq G c fM) := by
  intro pins s σ H x y v u Q I rx ry ⟨a, b, dx, dy, fs, gs, ex, ey, ha, hb', hsp⟩
  obtain ⟨f, fd, ps, hs, hf, hb, F⟩ := B.ex
  subst ex ey
  cases rx
  cases ry
  obtain ⟨mA, J, _⟩ := ins_get I.hok ha
  obtain ⟨mB, J', _⟩ := ins_get I.hok hb'
  obtain ⟨od, J, _⟩ := J.look
  obtain ⟨od', J', _⟩ := J'.look
  obtain ⟨m, hF⟩ := I.fr
  refine PySem.W.cmp_K (op := .Eq) (tb := .ref (G.CA c)) hr.units0 hF I.ok.mod.kin J J'.type (by simp [PySem.W.notFirst]) hs hf ?_
  refine wpAny_mono (run_fnG (us := [.ref a, .ref b]) (vs := [.ref a, .ref b]) F (hr.mono hl) hgd hb .nil pass0 I (.cons rfl (.cons rfl .nil)) (by exact hsp)) (fun r s' hq => ?_) fun _ _ x => x
  obtain ⟨z, H', I', rz, q⟩ := hq
  cases r with
  | notImplemented =>
    cases z <;> first
      | (obtain ⟨_, e⟩ := rz; exact (nomatch e))
      | exact (nomatch rz)
  | _ => exact ⟨z, H', I', rz, q⟩
noncomputable def evEqOwn (c : Nat) (f : FM) (ea eb : SE) : SE := fun s M => bindO (ea s M) fun va M1 => bindO (eb s M1) fun vb M2 => if isObj c "" M2 va = true ∧ isObj c "" M2 vb = true then f [va, vb] M2 else (match opEq M2 va vb with
  | some r => some (.val r, M2)
  | none => none)
theorem own_sim {r : R2} {a b : Expr} {ea eb : SE} (hs : Op2 G r opEq) {σ : L2.St} {H : Hp} {Q : VK} (h : tE G E0 (evEqOwn c fM ea eb) σ H Q) : tOp (fun x y H Q => r x y H Q ∨ rOwnEq G c fM x y H Q) (tE G E0 ea) (tE G E0 eb) σ H Q := by
  obtain ⟨R, ρ, s', M, w, sr, p⟩ := h
  refine stepE w sr p fun R1 ρ1 M1 H1 va v e1 w1 sr1 r1 p1 => stepE w1 sr1 p1 fun R2 ρ2 M2 H2 vb u e2 w2 sr2 r2 p2 => ?_
  have r1' := r1.mono e2.gr
  split at p2
  · rename_i hob
    obtain ⟨a, dx, fs, rfl, ha, _⟩ := meth_obj w2 r1' hob.1
    obtain ⟨b, dy, gs, rfl, hb, _⟩ := meth_obj w2 r2 hob.2
    exact .inr ⟨a, b, dx, dy, fs, gs, rfl, rfl, ha, hb, rfl, R2, ρ2, M2, [va, vb], w2, .cons r1' (.cons r2 .nil), p2⟩
  · refine .inl ?_
    cases q : opEq M2 va vb with
    | none => rw [q] at p2; exact p2.elim
    | some res => rw [q] at p2; exact hs R2 ρ2 M2 H2 v u va vb res Q w2 r1' r2 q p2
theorem q_eqOwn {r : R2} {a b : Expr} {ea eb : SE} (B : EqB X.prog X.w X.K X.mg X.base G c lv fM) (hr : Room k X.A) (hl : lv ≤ k) (hgd : X.A.guards = some []) (ho : OpR X (compareOp .Eq) r) (hs : Op2 G r opEq) (ha : PE X a (tE G E0 ea)) (hb : PE X b (tE G E0 eb)) :
    PE X (.Compare a [.Eq] [b] pos) (tE G E0 (evEqOwn c fM ea eb)) :=
  pe_imp (pe_cmpR (OpR.or ho (op_eqOwn B hr hl hgd)) ha hb (nomark _)) fun σ H Q h => own_sim (a := a) (b := b) hs h
theorem qt_eqOwn {r : R2} {a b : Expr} {ea eb : SE} (B : EqB X.prog X.w X.K X.mg X.base G c lv fM) (hr : Room k X.A) (hl : lv ≤ k) (hgd : X.A.guards = some []) (ho : OpR X (compareOp .Eq) r) (hs : Op2 G r opEq) (ha : PE X a (tE G E0 ea)) (hb : PE X b (tE G E0 eb)) :
    PT X (.Compare a [.Eq] [b] pos) (tT G E0 (evEqOwn c fM ea eb)) :=
  pt_imp (pt_cmpR (OpR.or ho (op_eqOwn B hr hl hgd)) ha hb (nomark _)) fun σ H Q h => own_sim (a := a) (b := b) hs (toT h)
end
end PV

set_option Elab.async false
set_option linter.all false
set_option maxRecDepth 100000
set_option maxHeartbeats 4000000
namespace PV
open PySem L2
open PyProof.Rows

/-! ### x += e -/
def augO (x y : Va) (M : Store) : Option (Va × Store) := match x with
  | .int i => (match y with
    | .int j => some (.int (i + j), M)
    | _ => none)
  | .str a => (match y with
    | .str b => if a.length + b.length ≤ sizeLine then some (.str (a ++ b), M) else none
    | _ => none)
  | .cel n => (match M.c n, ownOf M y with
    | some (.lst l), some m => if l.length + m.length ≤ sizeLine then some (.cel n, M.put n (.lst (l ++ m))) else none
    | _, _ => none)
  | _ => none
def sAug (i : Nat) (e : SE) : SS := fun s M => match s[i]? with
  | some (some x) => (match e s M with
    | some (.val y, M1) => (match augO x y M1 with
      | some (z, M2) => some (.nx, s.set i (some z), M2)
      | none => none)
    | some (.exc c v, M1) => some (.exc c v, s, M1)
    | none => none)
  | _ => none
def ipAny : TIp := fun x y H Q => (ipI (fun i j => i + j) x y H Q ∨ rAddS x y H Q) ∨ rExt2 x y H Q
section
variable {X : Cx} {G : Sig} {E : XK} {e : Expr} {ee : SE} {pos pos' : Pos} {i : Nat} {x : Str}
theorem pip_any : PIp X .Add ipAny := by
  intro pins s σ H x y v u Q I rx ry h
  rcases h with (h | h) | h
  · exact ip_add pins s σ H x y v u Q I rx ry h
  · exact in_addS pins s σ H x y v u Q I rx ry h
  · exact iop_ext pins s σ H x y v u Q I rx ry h
theorem aug_sim {R : Hp} {ρ : List Addr} {M M' : Store} {H : Hp} {vx vy z : Va} {x y : V} {Q : VK} (w : Wd G R ρ M H) (rx : VR G R ρ vx x) (ry : VR G R ρ vy y) (h : augO vx vy M = some (z, M')) (g : Gives G R ρ H M' z Q) : ipAny x y H Q := by
  unfold augO at h
  split at h
  · split at h
    · cases h; cases rx; cases ry
      exact .inl (.inl ⟨_, _, rfl, rfl, gives_now w (.int _) g⟩)
    · cases h
  · split at h
    · cases rx; cases ry
      split at h
      · rename_i hz; cases h
        exact .inl (.inr ⟨_, _, rfl, rfl, hz, gives_now w (.str _) g⟩)
      · cases h
    · cases h
  · rename_i n
    split at h
    · rename_i l m hc hm
      split at h
      · rename_i hz; cases h
        obtain ⟨b, zs, ey, hb, rz, _⟩ := own_read w ry hm
        cases rx with
        | cel en =>
          obtain ⟨a, e1, ra, vs, ha, z, r0⟩ := w.cel n _ hc
          rw [en] at e1
          cases e1
          refine .inr ⟨_, b, vs, zs, rfl, ey, ha, hb, by rw [← r0.length, ← rz.length]; exact hz, ?_⟩
          obtain ⟨ex, wd⟩ := write_cel (o := .lst (vs ++ zs)) (y := .lst (l ++ m)) w hc en ⟨_, upd_same, by rw [List.length_append]; exact hz, r0.append rz⟩
          exact g _ _ _ _ ex wd (.cel en)
      · cases h
    · cases h
  · cases h
theorem qs_aug (i : Nat) (hN : X.N.Nodup) (hi : X.N[i]? = some x) (hx : Loc X.env.scope x) (he : PE X e (tE G E ee)) (hf : X.fn x = true ∨ X.env.scope.names.lookup x = some .local := by first | exact .inl rfl | exact .inr rfl | assumption) :
    PS X (.AugAssign (.Name x pos') .Add e pos) (tS G E (sAug i ee)) :=
  ps_imp (ps_aug hN hi hx he pip_any hf) fun D σ H ⟨R, ρ, s, M, w, sr, p⟩ => by
    unfold sAug at p
    split at p
    · rename_i vx hv
      obtain ⟨xv, hxv, rx⟩ := sr.at_ i vx hv
      refine ⟨xv, hxv, R, ρ, s, M, w, sr, ?_⟩
      rcases q : ee s M with _ | ⟨y | ⟨c, y⟩, M1⟩ <;> rw [q] at p
      · exact p
      · intro R1 ρ1 H1 yv e1 w1 r1
        dsimp only at p
        cases q2 : augO vx y M1 with
        | none => rw [q2] at p; exact p.elim
        | some zz =>
          obtain ⟨z, M2⟩ := zz
          rw [q2] at p
          refine aug_sim w1 (rx.mono e1.gr) r1 q2 fun R2 ρ2 H2 zv e2 w2 r2 => ?_
          exact p R2 ρ2 H2 _ (e1.trans e2) w2 ((sr.mono (e1.trans e2).gr).set i r2)
      · exact p
    · exact p.elim

/-! ### xs[::-1] -/
def opRev (M : Store) (x : Va) : Option Va := (lstOf M x).map fun l => .lst l.reverse
theorem q_rev {k : Nat} {p1 p2 p3 : Pos} (hK : X.K = G.K) (he : PE X e (tE G E ee)) : PE X (.Subscript e (.Slice none none (some (.UnaryOp .USub (.Constant (.int 1) k p1) p2)) p3) pos) (tE G E (ev1 opRev ee)) :=
  pe_imp (pe_revL he) fun σ H Q ⟨R, ρ, s, M, w, sr, p⟩ => stepE w sr p fun R1 ρ1 M1 H1 va v e1 w1 sr1 r1 p1 => by
    unfold opRev at p1
    cases q : lstOf M1 va with
    | none => rw [q] at p1; exact p1.elim
    | some l =>
      rw [q] at p1
      obtain ⟨a, vs, rfl, sq, rv, z⟩ := lst_read w1 r1 q
      exact ⟨a, vs, rfl, by rw [hK]; exact sq, fun p hp => gives_lst w1 rv.reverse (by rw [List.length_reverse]; exact z) p1 hp⟩

/-! ### f-strings -/
def evFmt (e : SE) : SE := ev1 (fun _ v => match v with
  | .str a => if a.length ≤ sizeLine then some (.str a) else none
  | .int i => if i.natAbs.log2 < 1920 then some (.str (toString i)) else none
  | _ => none) e
theorem q_fmt (he : PE X e (tE G E ee)) : PE X (.FormattedValue e (-1) none pos) (tE G E (evFmt ee)) :=
  pe_imp (pe_fmt he) fun σ H Q ⟨R, ρ, s, M, w, sr, p⟩ => stepE w sr p fun R1 ρ1 M1 H1 va v e1 w1 sr1 r1 p1 => by
    cases r1 <;> first | exact p1.elim | skip
    · rename_i i
      dsimp only at p1
      split at p1
      · rename_i q
        split at q
        · cases q
          rename_i hz
          exact .inr ⟨_, rfl, hz, gives_now w1 (.str _) p1⟩
        · cases q
      · exact p1.elim
    · rename_i a
      dsimp only at p1
      split at p1
      · rename_i q
        split at q
        · cases q
          rename_i hz
          exact .inl ⟨_, rfl, hz, gives_now w1 (.str _) p1⟩
        · cases q
      · exact p1.elim
def evJs : List SE → Str → SE
  | [], acc => fun _ M => some (.val (.str acc), M)
  | e :: r, acc => fun s M => bindO (e s M) fun v M1 => match v with
    | .str y => if (acc ++ y).length ≤ sizeLine then evJs r (acc ++ y) s M1 else none
    | _ => none
theorem js_sim {σ : L2.St} : ∀ (es : List SE) {R : Hp} {ρ : List Addr} {M : Store} {H : Hp} {s : SL} {Q : VK} (acc : Str), Wd G R ρ M H → SR G R ρ s σ → Post G R ρ H (evJs es acc s M) Q E → tJs (es.map fun e => tE G E e) acc σ H fun out H1 => Q (.str out) H1
  | [], R, ρ, M, H, s, Q, acc, w, sr, p => p R ρ H _ Ext.refl w (.str _)
  | e :: r, R, ρ, M, H, s, Q, acc, w, sr, p => by
    show tE G E e σ H fun x H1 => ∃ y : Str, x = .str y ∧ (acc ++ y).length ≤ sizeLine ∧ tJs (r.map fun e => tE G E e) (acc ++ y) σ H1 fun out H1 => Q (.str out) H1
    refine stepE w sr p fun R1 ρ1 M1 H1 va v e1 w1 sr1 r1 p1 => ?_
    cases r1 <;> first | exact p1.elim | skip
    rename_i y
    dsimp only at p1
    split at p1
    · rename_i hz
      exact ⟨y, rfl, hz, js_sim r (acc ++ y) w1 sr1 p1⟩
    · exact p1.elim
theorem qj_nil : PJ X [] (([] : List SE).map fun e => tE G E e) := .nil
theorem qj_cons {es : List Expr} {ts : List SE} (h : PE X e (tE G E ee)) (r : PJ X es (ts.map fun e => tE G E e)) : PJ X (e :: es) ((ee :: ts).map fun e => tE G E e) := .cons h r
theorem q_joined {v1 v2 : Expr} {rest : List Expr} {ts : List SE} (h : PJ X (v1 :: v2 :: rest) (ts.map fun e => tE G E e)) : PE X (.JoinedStr (v1 :: v2 :: rest) pos) (tE G E (evJs ts Str.empty)) :=
  pe_imp (pe_joined h) fun σ H Q ⟨R, ρ, s, M, w, sr, p⟩ => js_sim ts _ w sr p

/-! ### enumerate, zip -/
def enumL : Nat → List Va → List Va
  | _, [] => []
  | i, x :: r => .tup [.int (i : Nat), x] :: enumL (i + 1) r
theorem enumL_get : ∀ (l : List Va) (k i : Nat), (enumL k l)[i]? = l[i]?.map fun x => .tup [.int ((k + i : Nat) : Int), x]
  | [], _, _ => by simp [enumL]
  | x :: r, k, 0 => by simp [enumL]
  | x :: r, k, i + 1 => by
    rw [enumL, List.getElem?_cons_succ, List.getElem?_cons_succ, enumL_get r (k + 1) i]
    have : k + 1 + i = k + (i + 1) := by omega
    rw [this]
theorem enumL_len : ∀ (l : List Va) (k : Nat), (enumL k l).length = l.length
  | [], _ => rfl
  | x :: r, k => by rw [enumL, List.length_cons, List.length_cons, enumL_len r]
def itEn (e : SE) : SI := fun s M => match e s M with
  | none => none
  | some (.val (.tup [v]), M1) => (match lstOf M1 v with
    | some l => some (.it (enumL 0 l) (fun M => lstOf M v = some l), M1)
    | none => none)
  | some (.val _, _) => none
  | some (.exc c v, M1) => some (.exc c v, M1)
theorem qi_enum {p tpos : Pos} {elts : List Expr} {kk : Nat} (hK : X.K = G.K) (hg : Gl X "enumerate") (hm : X.mg "enumerate" = none) (ha : PA X [e] (tA G E ee)) (hs : starEach [e] X.env = [(false, eval e X.env)] := by rfl) :
    PI X (.Tuple elts kk tpos) (.Call (.Name "enumerate" p) [e] [] pos) (tI G E (itEn ee)) :=
  pi_imp (pi_enum hg hm ha hs) fun σ H Q ⟨R, ρ, s, M, w, sr, p⟩ => by
    refine ⟨R, ρ, s, M, w, sr, ?_⟩
    unfold itEn at p
    rcases q : ee s M with _ | ⟨x | ⟨c, x⟩, M1⟩ <;> rw [q] at p
    · exact p
    · split at p
      · rename_i h; cases h
      · rename_i v M2 h
        cases h
        intro R1 ρ1 H1 vs e1 w1 r1
        obtain ⟨xv, rfl, rx⟩ := one_of r1
        cases q2 : lstOf M1 v with
        | none => rw [q2] at p; exact p.elim
        | some l =>
          rw [q2] at p
          obtain ⟨ad, vs, rfl, hv, rv, hz⟩ := lst_read w1 rx q2
          refine ⟨ad, vs, rfl, by rw [hK]; exact hv, p R1 ρ1 H1 (Ite X.K ad) e1 w1 (by rw [enumL_len]; exact hz) fun R2 ρ2 M2 H2 g2 w2 ck => ?_⟩
          obtain ⟨ad', vs', e', hv', rv', _⟩ := lst_read w2 (rx.mono g2) ck
          cases e'
          rw [hK]
          refine ⟨fun i y hy => ?_, fun i hi => ⟨vs', hv', by rw [← rv'.length, ← enumL_len l 0]; exact hi⟩⟩
          rw [enumL_get] at hy
          cases q3 : l[i]? with
          | none => rw [q3] at hy; cases hy
          | some y' =>
            rw [q3] at hy
            cases hy
            obtain ⟨u, hu, ru⟩ := rv'.get q3
            refine ⟨⟨vs', u, hv', hu⟩, fun v H' ⟨T, x', e3, hT, h3, h4⟩ => ?_⟩
            subst e3 h3
            have := h4 vs' hv'
            rw [hu] at this
            cases this
            obtain ⟨ex, wd⟩ := alloc_frz (o := .tup [.int (i : Nat), u]) w2 hT
            refine ⟨_, ex, wd, .tup upd_same (by show 2 ≤ sizeLine; decide) (.cons ?_ (.cons (ru.mono ex.gr) .nil))⟩
            rw [Nat.zero_add]
            exact .int _
      · exact p.elim
      · rename_i h; cases h
    · exact p
def zipL : List Va → List Va → List Va
  | x :: r, y :: t => .tup [x, y] :: zipL r t
  | _, _ => []
theorem zipL_get : ∀ (l m : List Va) (i : Nat) (z : Va), (zipL l m)[i]? = some z → ∃ x y, l[i]? = some x ∧ m[i]? = some y ∧ z = .tup [x, y]
  | [], _, i, z, h => by simp [zipL] at h
  | _ :: _, [], i, z, h => by simp [zipL] at h
  | x :: r, y :: t, 0, z, h => by simp [zipL] at h; exact ⟨x, y, rfl, rfl, h.symm⟩
  | x :: r, y :: t, i + 1, z, h => by
    rw [zipL, List.getElem?_cons_succ] at h
    obtain ⟨x', y', h1, h2, h3⟩ := zipL_get r t i z h
    exact ⟨x', y', by rw [List.getElem?_cons_succ]; exact h1, by rw [List.getElem?_cons_succ]; exact h2, h3⟩
theorem zipL_len : ∀ (l m : List Va), (zipL l m).length = min l.length m.length
  | [], _ => by simp [zipL]
  | _ :: _, [] => by simp [zipL]
  | x :: r, y :: t => by
    rw [zipL, List.length_cons, List.length_cons, List.length_cons, zipL_len r t]
    omega
def itZp (e : SE) : SI := fun s M => match e s M with
  | none => none
  | some (.val (.tup [v, u]), M1) => (match lstOf M1 v, lstOf M1 u with
    | some l, some m => some (.it (zipL l m) (fun M => lstOf M v = some l ∧ lstOf M u = some m), M1)
    | _, _ => none)
  | some (.val _, _) => none
  | some (.exc c v, M1) => some (.exc c v, M1)
theorem qi_zip {p tpos : Pos} {elts : List Expr} {kk : Nat} {e2 : Expr} (hK : X.K = G.K) (hg : Gl X "zip") (hm : X.mg "zip" = none) (ha : PA X [e, e2] (tA G E ee))
    (hs : starEach [e, e2] X.env = (false, eval e X.env) :: starEach [e2] X.env := by rfl) (hpl : (backTo pos (starEach [e2] X.env)).any (·.1) = false := by rfl) :
    PI X (.Tuple elts kk tpos) (.Call (.Name "zip" p) [e, e2] [] pos) (tI G E (itZp ee)) :=
  pi_imp (pi_zip hg hm ha hs hpl) fun σ H Q ⟨R, ρ, s, M, w, sr, p⟩ => by
    refine ⟨R, ρ, s, M, w, sr, ?_⟩
    unfold itZp at p
    rcases q : ee s M with _ | ⟨x | ⟨c, x⟩, M1⟩ <;> rw [q] at p
    · exact p
    · split at p
      · rename_i h; cases h
      · rename_i v u M2 h
        cases h
        intro R1 ρ1 H1 vs e1 w1 r1
        obtain ⟨xv, yv, rfl, rx, ry⟩ := two_of r1
        split at p
        · rename_i l m q2 q3
          obtain ⟨ad, vs, rfl, hv, rv, hz⟩ := lst_read w1 rx q2
          obtain ⟨bd, us, rfl, hu, ru, hy⟩ := lst_read w1 ry q3
          refine ⟨ad, bd, vs, us, rfl, by rw [hK]; exact hv, by rw [hK]; exact hu, p R1 ρ1 H1 (Itz X.K ad bd) e1 w1 (by rw [zipL_len]; omega) fun R2 ρ2 M2 H2 g2 w2 ck => ?_⟩
          obtain ⟨ad', vs', e', hv', rv', _⟩ := lst_read w2 (rx.mono g2) ck.1
          cases e'
          obtain ⟨bd', us', e'', hu', ru', _⟩ := lst_read w2 (ry.mono g2) ck.2
          cases e''
          rw [hK]
          refine ⟨fun i z hz => ?_, fun i hi => ⟨vs', us', hv', hu', by rw [← rv'.length, ← ru'.length]; rw [zipL_len] at hi; omega⟩⟩
          obtain ⟨x, y, hx, hy, rfl⟩ := zipL_get l m i z hz
          obtain ⟨xu, hxu, rxu⟩ := rv'.get hx
          obtain ⟨yu, hyu, ryu⟩ := ru'.get hy
          refine ⟨⟨vs', us', xu, yu, hv', hu', hxu, hyu⟩, fun v H' ⟨T, x', y', e3, hT, h3, h4, h5⟩ => ?_⟩
          subst e3 h3
          have a1 := h4 vs' hv'
          have a2 := h5 us' hu'
          rw [hxu] at a1
          rw [hyu] at a2
          cases a1
          cases a2
          obtain ⟨ex, wd⟩ := alloc_frz (o := .tup [xu, yu]) w2 hT
          exact ⟨_, ex, wd, .tup upd_same (by show 2 ≤ sizeLine; decide) (.cons (rxu.mono ex.gr) (.cons (ryu.mono ex.gr) .nil))⟩
        · exact p.elim
      · exact p.elim
      · rename_i h; cases h
    · exact p
end
end PV

set_option Elab.async false
set_option linter.all false
set_option maxRecDepth 100000
set_option maxHeartbeats 4000000
namespace PV
open PySem L2
open PyProof.Rows

/-! ### lists of unlike length are not equal, whatever they hold -/
def rEqLen (K : PySem.W.Frag) : R2 := fun x y H Q => ∃ a b xs ys, x = .ref a ∧ y = .ref b ∧ SqL K H a xs ∧ SqL K H b ys ∧ xs.length ≠ ys.length ∧ Q (.bl false) H
section
variable {X : Cx} {G : Sig} {k : Nat}
theorem op_eqLen (hr : Room k X.A) : OpR X (compareOp .Eq) (rEqLen X.K) := by
  intro pins s σ H x y v u Q I rx ry ⟨a, b, xs, ys, ex, ey, sx, sy, hne, q⟩
  subst ex ey
  cases rx
  cases ry
  obtain ⟨its, rv, ⟨⟨c1, d1, t1, l1⟩, n, ho, hc, hdn, hd⟩, _⟩ := I.list sx
  obtain ⟨its2, rv2, ⟨⟨c2, d2, t2, l2⟩, n2, ho2, hc2, hdn2, hd2⟩, _⟩ := I.list sy
  simp only at hc hd hc2 hd2
  subst hc hd hc2 hd2
  have hsz : (its.toArray.size != its2.toArray.size) = true := by
    rw [List.size_toArray, List.size_toArray, ← rv.length, ← rv2.length]
    simpa using hne
  exact wpAny_richCompare_same_room (op := .Eq) ⟨_, ho, rfl⟩ ⟨_, ho2, rfl⟩ F.slot_list_eq (call_meets F.slot_list_eq ⟨_, ho, rfl⟩ F.entry_list_eq (F.args_list_eq_2 _ _) (SeqAt.list_eq_lengthsAt a b _ _ n n2 d1 d2 l1 l2 hsz) ⟨ho, ho2, (fun z => nomatch z), .bl false, H, I, rfl, q⟩) hr.units0
def rNeLen (K : PySem.W.Frag) : R2 := fun x y H Q => ∃ a b xs ys, x = .ref a ∧ y = .ref b ∧ SqL K H a xs ∧ SqL K H b ys ∧ xs.length ≠ ys.length ∧ Q (.bl true) H
theorem op_neLen (hr : Room k X.A) : OpR X (compareOp .NotEq) (rNeLen X.K) := by
  intro pins s σ H x y v u Q I rx ry ⟨a, b, xs, ys, ex, ey, sx, sy, hne, q⟩
  subst ex ey
  cases rx
  cases ry
  obtain ⟨its, rv, ⟨⟨c1, d1, t1, l1⟩, n, ho, hc, hdn, hd⟩, _⟩ := I.list sx
  obtain ⟨its2, rv2, ⟨⟨c2, d2, t2, l2⟩, n2, ho2, hc2, hdn2, hd2⟩, _⟩ := I.list sy
  simp only at hc hd hc2 hd2
  subst hc hd hc2 hd2
  have hsz : (its.toArray.size != its2.toArray.size) = true := by
    rw [List.size_toArray, List.size_toArray, ← rv.length, ← rv2.length]
    simpa using hne
  exact wpAny_richCompare_same_room (op := .NotEq) ⟨_, ho, rfl⟩ ⟨_, ho2, rfl⟩ F.slot_list_ne (call_meets F.slot_list_ne ⟨_, ho, rfl⟩ F.entry_list_ne (F.args_list_ne_2 _ _) (SeqAt.list_ne_lengthsAt a b _ _ n n2 d1 d2 l1 l2 hsz) ⟨ho, ho2, (fun z => nomatch z), .bl true, H, I, rfl, q⟩) hr.units0
noncomputable def opEqX (M : Store) (a b : Va) : Option Va := match opEq M a b with
  | some r => some r
  | none => (match lstOf M a, lstOf M b with
    | some l, some m => if l.length ≠ m.length then some (.bl false) else none
    | _, _ => none)
noncomputable def opNeX (M : Store) (a b : Va) : Option Va := match opNe M a b with
  | some r => some r
  | none => (match lstOf M a, lstOf M b with
    | some l, some m => if l.length ≠ m.length then some (.bl true) else none
    | _, _ => none)
theorem s_eqX {r : R2} (hK : X.K = G.K) (hs : Op2 G r opEq) : Op2 G (fun x y H Q => r x y H Q ∨ rEqLen X.K x y H Q) opEqX := by
  intro R ρ M H x y va vb res Q w ra rb h g
  unfold opEqX at h
  split at h
  · rename_i r' h'
    cases h
    exact .inl (hs R ρ M H x y va vb _ Q w ra rb h' g)
  · split at h
    · rename_i l m hl hm
      split at h
      · rename_i hne
        cases h
        obtain ⟨a, vs, ex, sa, rv, _⟩ := lst_read w ra hl
        obtain ⟨b, us, ey, sb, ru, _⟩ := lst_read w rb hm
        exact .inr ⟨a, b, vs, us, ex, ey, by rw [hK]; exact sa, by rw [hK]; exact sb, by rw [← rv.length, ← ru.length]; exact hne, gives_now w (.bl _) g⟩
      · cases h
    · cases h
theorem s_neX {r : R2} (hK : X.K = G.K) (hs : Op2 G r opNe) : Op2 G (fun x y H Q => r x y H Q ∨ rNeLen X.K x y H Q) opNeX := by
  intro R ρ M H x y va vb res Q w ra rb h g
  unfold opNeX at h
  split at h
  · rename_i r' h'
    cases h
    exact .inl (hs R ρ M H x y va vb _ Q w ra rb h' g)
  · split at h
    · rename_i l m hl hm
      split at h
      · rename_i hne
        cases h
        obtain ⟨a, vs, ex, sa, rv, _⟩ := lst_read w ra hl
        obtain ⟨b, us, ey, sb, ru, _⟩ := lst_read w rb hm
        exact .inr ⟨a, b, vs, us, ex, ey, by rw [hK]; exact sa, by rw [hK]; exact sb, by rw [← rv.length, ← ru.length]; exact hne, gives_now w (.bl _) g⟩
      · cases h
    · cases h

/-! ### a joined list, a repeated one, {} as they will change or not -/
def evCatC (ea eb : SE) : SE := fun s M => bindO (ea s M) fun va M1 => bindO (eb s M1) fun vb M2 => match ownOf M2 va, ownOf M2 vb with
  | some l, some m => if l.length + m.length ≤ sizeLine then some (.val (.cel M2.nx), M2.new (.lst (l ++ m))) else none
  | _, _ => none
theorem q_catC {E : XK} {a b : Expr} {ea eb : SE} {pos : Pos} (ha : PE X a (tE G E ea)) (hb : PE X b (tE G E eb)) : PE X (.BinOp a .Add b pos) (tE G E (evCatC ea eb)) :=
  pe_imp (pe_op op_cat ha hb) fun σ H Q ⟨R, ρ, s, M, w, sr, p⟩ => stepE w sr p fun R1 ρ1 M1 H1 va v e1 w1 sr1 r1 p1 => stepE w1 sr1 p1 fun R2 ρ2 M2 H2 vb u e2 w2 sr2 r2 p2 => by
    split at p2
    · rename_i l m hl hm
      split at p2
      · rename_i hz
        obtain ⟨a, vs, rfl, ha, rv, _⟩ := own_read w2 (r1.mono e2.gr) hl
        obtain ⟨b, us, rfl, hb, ru, _⟩ := own_read w2 r2 hm
        exact ⟨a, b, vs, us, rfl, rfl, ha, hb, by rw [← rv.length, ← ru.length]; exact hz, fun p hp => gives_new w2 (rv.append ru) (by rw [List.length_append]; exact hz) p2 hp⟩
      · exact p2.elim
    · exact p2.elim
def evDNewF : SE := evC (.dic [])
theorem q_dnewF {E : XK} {pos : Pos} : PE X (.Dict [] [] pos) (tE G E evDNewF) := pe_imp pe_dnewK fun σ H Q ⟨R, ρ, s, M, w, sr, p⟩ q hq => gives_dic w .nil (Nat.zero_le _) p hq

/-! ### isinstance of an object of a class -/
def opIsC (c : Nat) (M : Store) : Va → Option Va
  | .cel n => (match M.c n with
    | some (.ins k _) => if k = c then some (.bl true) else none
    | _ => none)
  | _ => none
structure IsB (K : PySem.W.Frag) (mg : Str → Option Value) (G : Sig) (x : Str) (c : Nat) : Prop where
  m : mg x = some (.ref (G.CA c))
  i : C8.InsC K (G.CA c)
theorem q_isC {E : XK} {e : Expr} {ee : SE} {pos p p2 : Pos} {x : Str} {c : Nat} (B : IsB X.K X.mg G x c) (hx : Gl X x) (hg : Gl X "isinstance") (hm : X.mg "isinstance" = none) (he : PE X e (tE G E ee)) (hdb : (x == ("__debug__" : Str)) = false := by decide)
    (hst : starEach [e, .Name x p2] X.env = (false, eval e X.env) :: starEach [.Name x p2] X.env := by rfl) (hpl : (backTo pos (starEach [.Name x p2] X.env)).any (·.1) = false := by rfl) :
    PE X (.Call (.Name "isinstance" p) [e, .Name x p2] [] pos) (tE G E (ev1 (opIsC c) ee)) :=
  pe_imp (pe_callB (id := "isinstance") (C8.call_isC B.i) hg hm (by decide +kernel) (pa_cons he (pa_cons (pe_glob (v := V.ref (G.CA c)) hx B.m rfl hdb) pa_nil) (hs := hst)) (he := hst) (hpl := hpl)) fun σ H Q ⟨R, ρ, s, M, w, sr, p⟩ => stepE w sr p fun R1 ρ1 M1 H1 va v e1 w1 sr1 r1 p1 => by
    cases h : opIsC c M1 va with
    | none => rw [h] at p1; exact p1.elim
    | some res =>
      rw [h] at p1
      unfold opIsC at h
      split at h
      · split at h
        · rename_i n k' l hc
          split at h
          · rename_i ek
            cases h
            subst ek
            obtain ⟨a, dx, vs, rfl, _, ha, _⟩ := ins_read w1 r1 hc
            exact ⟨a, dx, vs, rfl, ha, gives_now w1 (.bl _) p1⟩
          · cases h
        · cases h
      · cases h
end
end PV

set_option Elab.async false
set_option linter.all false
set_option maxRecDepth 100000
set_option maxHeartbeats 4000000
namespace PV
open PySem L2
open PyProof.Rows

/-! ### places, defs of classes -/
def eKy (i : Nat) : Expr → Expr
  | .Dict ks _ _ => (ks.getD i none).getD noE
  | e => e
section
variable {P : Program} {w : World} {K : PySem.W.Frag} {mg : Str → Option Value} {base : Heap} {CA : Nat → Addr} {x qual : Str} {st : Stmt} {f p : Addr} {fd : FuncData} {N ps : List Str} {k n N' c : Nat} {es : SS} {fM : FM}
theorem fnG_by (F : Fun K x qual st f fd) (S : FnScope N ps (defScope st)) (hn : ps.length = n) (hN : N.length = N') (hc : fM = runF N' es)
    (body : ∀ (cdv : Value) (A : Around) (outer : List Env) (s : Shared) (H : Hp) (E : XK), Room k (A.deeper (envOfC qual (defScope st) s.heap.objs.size f cdv)) → A.guards = some [] →
      PSs (cxOf CX0 P w K mg base N qual (defScope st) f cdv A outer s H E).nox (defBody st) (tS ⟨K, CA⟩ E0 es)) : FnG P w K mg base CX0 (k + 1) f fd ps (spI ⟨K, CA⟩ n fM) := by
  subst hn hN hc
  exact ok_fn F S body
theorem mk_of {y : Str} (hm : mg y = some (.ref (CA c))) (M : Mk K (CA c) f) (hb : Binds K fd ps []) (F : FnG P w K mg base CX0 k f fd ps (spI ⟨K, CA⟩ (n + 1) fM)) : MkB P w K mg base ⟨K, CA⟩ y c k n fM := ⟨f, fd, ps, hm, M, hb, F⟩
theorem pr_of {y : Str} (C : Cls K (CA c)) (hp : PropOf K (CA c) y p f) (hb : Binds K fd ps []) (F : FnG P w K mg base CX0 k f fd ps (spI ⟨K, CA⟩ 1 fM)) : PrB P w K mg base ⟨K, CA⟩ c y k fM := ⟨p, f, fd, ps, C, hp, hb, F⟩
theorem me_of {y : Str} (C : Cls K (CA c)) (hp : Meth K (CA c) y f) (hb : Binds K fd ps []) (F : FnG P w K mg base CX0 k f fd ps (spI ⟨K, CA⟩ (n + 1) fM)) : MeB P w K mg base ⟨K, CA⟩ c y k n fM := ⟨f, fd, ps, C, hp, hb, F⟩
theorem eq_of (h1 : PySem.W.findIn K (.ref (CA c)) "__eq__" = some (some (.ref f))) (h2 : PySem.W.isFn K (.ref f) = true) (hb : Binds K fd ps []) (F : FnG P w K mg base CX0 k f fd ps (spI ⟨K, CA⟩ 2 fM)) : EqB P w K mg base ⟨K, CA⟩ c k fM := ⟨f, fd, ps, h1, h2, hb, F⟩
end
theorem qg_tupG {X : Cx} {G : Sig} {es : List Expr} {pos : Pos} {ts : List Tgt} {g : TGs} {ix : List Nat} {k : Nat} {n : Nat} (hK : X.K = G.K) (hc : X.calm = true) (h : QGs X G es g ts ix) (hl : ts.length = n := by rfl) (hn : (assignEach es X.env).length = n := by rfl) (hst : (assignEach es X.env).findIdx? (·.1) = none := by rfl) :
    QG X G (.Tuple es k pos) (gTup G.K n g) (tgTup ts) ix := by
  rw [← hK]
  exact qg_tup hc h hl hn hst
/-! ### clear, of a list or a dict -/
def kClear (o : Va) (M : Store) : Res := match o with
  | .cel n => (match M.c n with
    | some (.lst _) => some (.val .non, M.put n (.lst []))
    | some (.dic _) => some (.val .non, M.put n (.dic []))
    | _ => none)
  | _ => none
def evClear (eo : SE) : SE := fun s M => bindO (eo s M) kClear
section
variable {X : Cx} {G : Sig} {E : XK} {e : Expr} {eo : SE}
theorem q_clear (hL : PE X e (tE G E (evM2 isLstA (kMut cClear) eo evNil))) (hD : PE X e (tE G E (evM2 isDicA (kMut cDClear) eo evNil))) : PE X e (tE G E (evClear eo)) :=
  ⟨fun pins s σ H Q I ⟨R, ρ, s', M, w, sr, p⟩ => by
    unfold evClear at p
    rcases q : eo s' M with _ | ⟨x | ⟨c, x⟩, M1⟩ <;> rw [q] at p
    · exact p.elim
    · rw [bindO_val] at p
      unfold kClear at p
      split at p
      · rename_i n
        split at p
        · rename_i l hc
          refine hL.run pins s σ H Q I ⟨R, ρ, s', M, w, sr, ?_⟩
          have : evM2 isLstA (kMut cClear) eo evNil s' M = some (.val .non, M1.put n (.lst [])) := by
            simp [evM2, q, isLstA, lstOf, hc, evNil, kMut, cClear]
          rw [this]; exact p
        · rename_i l hc
          refine hD.run pins s σ H Q I ⟨R, ρ, s', M, w, sr, ?_⟩
          have : evM2 isDicA (kMut cDClear) eo evNil s' M = some (.val .non, M1.put n (.dic [])) := by
            simp [evM2, q, isDicA, dicOf, hc, evNil, kMut, cDClear]
          rw [this]; exact p
        · exact p.elim
      · exact p.elim
    · refine hL.run pins s σ H Q I ⟨R, ρ, s', M, w, sr, ?_⟩
      have : evM2 isLstA (kMut cClear) eo evNil s' M = some (.exc c x, M1) := by simp [evM2, q]
      rw [this]; exact p⟩
end
end PV

set_option Elab.async false
set_option linter.all false
set_option maxRecDepth 100000
set_option maxHeartbeats 1000000
namespace PV
open PySem L2
/-! ### a list of texts, in a list, a frozen one or a cell -/
theorem inA_strs (z : Str) : ∀ zs : List Str, inA (.str z) (zs.map Va.str) = decide (z ∈ zs)
  | [] => rfl
  | y :: ys => by
    show (eqF (.str y) (.str z) || inA (.str z) (ys.map Va.str)) = _
    rw [inA_strs z ys]
    show ((y == z) || _) = _
    by_cases h : y = z
    · subst h; simp
    · have : (y == z) = false := by rw [beq_eq_false_iff_ne]; exact h
      rw [this]
      simp [Ne.symm h]
theorem flat_strs (zs : List Str) : (zs.map Va.str).all flatA = true := by
  rw [List.all_eq_true]
  intro x hx
  obtain ⟨z, _, rfl⟩ := List.mem_map.mp hx
  rfl
/-- x stands for this list -/
inductive LstAt (M : Store) : Va → List Va → Prop
  | lst (l : List Va) : LstAt M (.lst l) l
  | cel {n : Nat} {l : List Va} : M.c n = some (.lst l) → LstAt M (.cel n) l
theorem LstAt.seq {M : Store} {x : Va} {l : List Va} (h : LstAt M x l) : seqOf M x = some l := by
  cases h with
  | lst => rfl
  | cel h => rw [y_seqC, h]
theorem LstAt.lof {M : Store} {x : Va} {l : List Va} (h : LstAt M x l) : lstOf M x = some l := by
  cases h with
  | lst => rfl
  | cel h => rw [y_lstC, h]
theorem LstAt.own {M : Store} {x : Va} {l : List Va} (h : LstAt M x l) : ownOf M x = some l := by
  cases h with
  | lst => rfl
  | cel h => rw [y_ownC, h]
theorem LstAt.any {M : Store} {x : Va} {l : List Va} (h : LstAt M x l) : ∃ chk : Store → Prop, anyO (some (.val x, M)) = some (.it l chk, M) ∧ chk M ∧ ∀ M', LstAt M' x l → chk M' := by
  cases h with
  | lst => exact ⟨_, rfl, trivial, fun _ _ => trivial⟩
  | @cel n l h =>
    refine ⟨fun M => lstOf M (.cel n) = some l, by rw [z_anyC, h], ?_, fun M' h' => h'.lof⟩
    show lstOf M (.cel n) = some l
    rw [y_lstC, h]
theorem LstAt.len {M : Store} {x : Va} {l : List Va} (h : LstAt M x l) : gLen M [x] = some (.int l.length) := by
  cases h with
  | lst => rfl
  | cel h =>
    show (match seqOf M _ with | some l => some (Va.int l.length) | none => _) = _
    rw [y_seqC, h]
theorem LstAt.ix {M : Store} {x : Va} {l : List Va} (h : LstAt M x l) (i : Int) : opIx M x (.int i) = atI l i := by
  cases h with
  | lst => rfl
  | cel h => rw [y_ixC, h]
theorem LstAt.in_ {M : Store} {x : Va} {zs : List Str} (h : LstAt M x (zs.map Va.str)) (z : Str) : opInD M (.str z) x = some (.bl (decide (z ∈ zs))) := by
  have hs := h.seq
  have e : opIn M (.str z) x = some (.bl (decide (z ∈ zs))) := by
    have e2 : opIn M (.str z) x = (match seqOf M x with | some l => if flatA (.str z) = true ∧ l.all flatA = true then some (Va.bl (inA (.str z) l)) else none | none => none) := by cases h <;> rfl
    rw [e2, hs]
    dsimp only
    rw [if_pos ⟨rfl, flat_strs zs⟩, inA_strs]
  unfold opInD
  rw [e]
theorem LstAt.notIn {M : Store} {x : Va} {zs : List Str} (h : LstAt M x (zs.map Va.str)) (z : Str) : opNotInD M (.str z) x = some (.bl (!decide (z ∈ zs))) := by
  have hs := h.seq
  have e : opNotIn M (.str z) x = some (.bl (!decide (z ∈ zs))) := by
    have e2 : opNotIn M (.str z) x = (match seqOf M x with | some l => if flatA (.str z) = true ∧ l.all flatA = true then some (Va.bl (!inA (.str z) l)) else none | none => none) := by cases h <;> rfl
    rw [e2, hs]
    dsimp only
    rw [if_pos ⟨rfl, flat_strs zs⟩, inA_strs]
  unfold opNotInD
  rw [e]
/-! ### == with the empty list -/
theorem strs_reads {M : Store} : ∀ zs : List Str, PdRs M (zs.map Va.str) (zs.map PyData.str)
  | [] => .nil
  | z :: zs => .cons (.str z) (strs_reads zs)
theorem strs_lay : ∀ {zs : List Str}, (∀ z ∈ zs, PyData.strOk z = true) → PyData.canLayAll0 (zs.map PyData.str) = true
  | [], _ => rfl
  | z :: zs, h => by
    have h1 := h z (by simp)
    have h2 := strs_lay (zs := zs) fun y hy => h y (by simp [hy])
    simp [PyData.canLayAll0, PyData.canLay0, h1, h2]
theorem strs_depth : ∀ zs : List Str, PyData.depthAll (zs.map PyData.str) = 0
  | [] => rfl
  | z :: zs => by simp [PyData.depthAll, PyData.depth, strs_depth zs]
theorem strs_shaped {zs : List Str} (h : ∀ z ∈ zs, PyData.strOk z = true) : SeqAt.shaped (.list (zs.map PyData.str)) = true := by
  simp [SeqAt.shaped, PyData.canLay0, PyData.depth, strs_lay h, strs_depth]
theorem LstAt.eqP_nil {M : Store} {x : Va} {zs : List Str} (h : LstAt M x (zs.map Va.str)) (ok : ∀ z ∈ zs, PyData.strOk z = true) : eqP M x (.lst []) = some (decide (zs = [])) := by
  unfold eqP
  rw [pdOf_eq (.lst h.lof (strs_reads zs)), pdOf_eq (.lst rfl .nil)]
  dsimp only
  rw [if_pos ⟨strs_shaped ok, by decide⟩]
  cases zs <;> simp [PyData.eqv, PyData.eqvAll]
theorem LstAt.eqS_nil {M : Store} {x : Va} {l : List Va} (h : LstAt M x l) : eqS x (.lst []) = none := by
  cases h <;> rfl
theorem LstAt.ne_nil {M : Store} {x : Va} {zs : List Str} (h : LstAt M x (zs.map Va.str)) (ok : ∀ z ∈ zs, PyData.strOk z = true) : opNe M x (.lst []) = some (.bl (!decide (zs = []))) := by
  unfold opNe
  rw [h.eqS_nil, h.eqP_nil ok]; rfl
theorem LstAt.eq_nil {M : Store} {x : Va} {zs : List Str} (h : LstAt M x (zs.map Va.str)) (ok : ∀ z ∈ zs, PyData.strOk z = true) : opEq M x (.lst []) = some (.bl (decide (zs = []))) := by
  unfold opEq
  rw [h.eqS_nil, h.eqP_nil ok]; rfl
/-- the letters -/
def letS : Str := "abcdefghijklmnopqrstuvwxyz"
theorem let_is {M : Store} {r : Int} (h0 : 0 ≤ r) (h1 : r < 26) : opIx M (.str "abcdefghijklmnopqrstuvwxyz") (.int r) = some (.str ⟨#[97 + r.toNat]⟩) := by
  have hl : (tl letS).length = 26 := by decide
  obtain ⟨c, e, _, hc⟩ := at_nat (l := tl letS) h0 (by rw [hl]; exact h1)
  have he : tl letS = (List.range 26).map (97 + ·) := by decide
  rw [he, List.getElem?_map, List.getElem?_range (by omega)] at hc
  cases hc
  show (if letS.length ≤ sizeLine then (atI (tl letS) r).map fun c => Va.str ⟨#[c]⟩ else none) = _
  rw [if_pos (by decide), e]; rfl
/-! ### step by step -/
theorem seq_nx {a b : SS} {s s1 : SL} {M M1 : Store} {r : RS} (h : a s M = some (.nx, s1, M1)) (h2 : b s1 M1 = r) : sSeq a b s M = r := by
  rw [x_seq, h]; exact h2
theorem seq_ret {a b : SS} {s s1 : SL} {M M1 : Store} {v : Va} (h : a s M = some (.ret v, s1, M1)) : sSeq a b s M = some (.ret v, s1, M1) := by
  rw [x_seq, h]
theorem set_val {i : Nat} {e : SE} {s s1 : SL} {M M1 : Store} {v : Va} (h : e s M = some (.val v, M1)) (hs : s.set i (some v) = s1 := by rfl) : sSet i e s M = some (.nx, s1, M1) := by
  rw [x_set, h, ← hs]
theorem drop_val {e : SE} {s : SL} {M M1 : Store} {v : Va} (h : e s M = some (.val v, M1)) : sDrop e s M = some (.nx, s, M1) := by
  rw [x_drop, h]
theorem loop_nx {chk : Store → Prop} {tg : Tgt} {body : SS} {x : Va} {xs : List Va} {s s1 s2 : SL} {M M2 : Store} {r : RS} (hc : chk M) (ht : tg x s M = some s1) (hb : body s1 M = some (.nx, s2, M2)) (hr : loopF chk tg body xs s2 M2 = r) : loopF chk tg body (x :: xs) s M = r := by
  unfold loopF
  rw [if_pos hc, ht]
  dsimp only
  rw [hb]
  exact hr
theorem loop_nil {chk : Store → Prop} {tg : Tgt} {body : SS} {s : SL} {M : Store} (hc : chk M) : loopF chk tg body [] s M = some (.nx, s, M) := by
  unfold loopF
  rw [if_pos hc]
theorem end_ret {a : SS} {s s1 : SL} {M M1 : Store} {v : Va} (h : a s M = some (.ret v, s1, M1)) : endF (a s M) = some (.val v, M1) := by rw [h]; rfl
theorem ret_val {e : SE} {s : SL} {M M1 : Store} {v : Va} (h : e s M = some (.val v, M1)) : sRet e s M = some (.ret v, s, M1) := by rw [x_ret, h]
theorem for_it {src : SI} {tg : Tgt} {body : SS} {s : SL} {M M1 : Store} {l : List Va} {chk : Store → Prop} {r : RS} (h : src s M = some (.it l chk, M1)) (h2 : loopF chk tg body l s M1 = r) : sFor src tg body s M = r := by
  rw [z_for, h]; exact h2
end PV

set_option Elab.async false
set_option linter.all false
set_option maxRecDepth 100000
set_option maxHeartbeats 1000000
set_option exponentiation.threshold 3000
namespace PV
open PySem L2
/-! ### what is small enough to be shown -/
structure Sm (W dp : Nat) (d : PyData) : Prop where
  sh : d.showable = true
  lf : d.leavesShort 14 = true
  wt : d.weight ≤ W
  dp : d.depth ≤ dp
theorem Sm.mono {W W' dp dp' : Nat} {d : PyData} (h : Sm W dp d) (h1 : W ≤ W') (h2 : dp ≤ dp') : Sm W' dp' d := ⟨h.sh, h.lf, Nat.le_trans h.wt h1, Nat.le_trans h.dp h2⟩
theorem Sm.int {n : Int} {w : Nat} (h : n.natAbs < 10 ^ 13) (h2 : n.natAbs < 2 ^ w) : Sm w 0 (.int n) := by
  have hl : n.natAbs.log2 < 1920 := by
    by_cases z : n.natAbs = 0
    · rw [z]; decide
    · rw [Nat.log2_lt z]; exact Nat.lt_trans h (by decide)
  refine ⟨by simp only [PyData.showable]; exact decide_eq_true hl, ?_, ?_, by simp only [PyData.depth]; exact Nat.le_refl _⟩
  · simp only [PyData.leavesShort]
    refine decide_eq_true ?_
    have := nm_len (n := n) (k := 13) (by decide) h
    rw [← tl_len] at this
    exact this
  · simp only [PyData.weight]
    by_cases z : n = 0
    · rw [if_pos (by simp [z])]; exact Nat.zero_le _
    · rw [if_neg (by simp [z])]
      have : n.natAbs.log2 < w := (Nat.log2_lt (by omega)).mpr h2
      omega
theorem Sm.str {z : Str} {w : Nat} (h : ∀ c ∈ tl z, c < 256) (hl : z.length ≤ w) : Sm w 0 (.str z) := by
  refine ⟨by simp only [PyData.showable], ?_, ?_, by simp only [PyData.depth]; exact Nat.le_refl _⟩
  · unfold PyData.leavesShort
    rw [List.all_eq_true]
    intro c hc
    have := h c hc
    exact decide_eq_true (by omega)
  · simp only [PyData.weight]; exact hl
theorem sm_all {W dp : Nat} : ∀ {ds : List PyData}, (∀ d ∈ ds, Sm W dp d) → PyData.showableAll ds = true ∧ PyData.leavesShortAll 14 ds = true ∧ PyData.weightAll ds ≤ ds.length * (W + 1) ∧ PyData.depthAll ds ≤ dp
  | [], _ => ⟨by simp only [PyData.showableAll], by simp only [PyData.leavesShortAll], by simp only [PyData.weightAll]; exact Nat.zero_le _, by simp only [PyData.depthAll]; exact Nat.zero_le _⟩
  | d :: ds, h => by
    obtain ⟨a1, a2, a3, a4⟩ := h d (by simp)
    obtain ⟨b1, b2, b3, b4⟩ := sm_all (ds := ds) fun e he => h e (by simp [he])
    refine ⟨by simp only [PyData.showableAll, a1, b1, Bool.and_self], by simp only [PyData.leavesShortAll, a2, b2, Bool.and_self], ?_, ?_⟩
    · simp only [PyData.weightAll, List.length_cons]
      rw [Nat.add_mul]; omega
    · simp only [PyData.depthAll]; omega
theorem Sm.list {W W' dp n : Nat} {ds : List PyData} (h : ∀ d ∈ ds, Sm W dp d) (hn : ds.length ≤ n) (hW : n * (W + 1) ≤ W') : Sm W' (dp + 1) (.list ds) := by
  obtain ⟨a1, a2, a3, a4⟩ := sm_all h
  refine ⟨by simp only [PyData.showable]; exact a1, by simp only [PyData.leavesShort]; exact a2, ?_, by simp only [PyData.depth]; omega⟩
  simp only [PyData.weight]
  exact Nat.le_trans a3 (Nat.le_trans (Nat.mul_le_mul_right _ hn) hW)
theorem Sm.tup3 {W1 W2 W3 W' dp : Nat} {a b c : PyData} (h1 : Sm W1 dp a) (h2 : Sm W2 dp b) (h3 : Sm W3 dp c) (hW : W1 + W2 + W3 + 3 ≤ W') : Sm W' (dp + 1) (.tuple [a, b, c]) := by
  obtain ⟨a1, a2, a3, a4⟩ := h1
  obtain ⟨b1, b2, b3, b4⟩ := h2
  obtain ⟨c1, c2, c3, c4⟩ := h3
  refine ⟨by simp only [PyData.showable, PyData.showableAll, a1, b1, c1, Bool.and_self], by simp only [PyData.leavesShort, PyData.leavesShortAll, a2, b2, c2, Bool.and_self], ?_, ?_⟩
  · simp only [PyData.weight, PyData.weightAll]; omega
  · simp only [PyData.depth, PyData.depthAll]; omega
theorem sm_kv {W1 W2 dp : Nat} : ∀ {ds : List (PyData × PyData)}, (∀ d ∈ ds, Sm W1 dp d.1 ∧ Sm W2 dp d.2) → PyData.showableKv ds = true ∧ PyData.leavesShortKv 14 ds = true ∧ PyData.weightKv ds ≤ ds.length * (W1 + W2 + 2) ∧ PyData.depthKv ds ≤ dp
  | [], _ => ⟨by simp only [PyData.showableKv], by simp only [PyData.leavesShortKv], by simp only [PyData.weightKv]; exact Nat.zero_le _, by simp only [PyData.depthKv]; exact Nat.zero_le _⟩
  | (k, v) :: ds, h => by
    obtain ⟨⟨a1, a2, a3, a4⟩, ⟨c1, c2, c3, c4⟩⟩ := h (k, v) (by simp)
    obtain ⟨b1, b2, b3, b4⟩ := sm_kv (ds := ds) fun e he => h e (by simp [he])
    dsimp only at a1 a2 a3 a4 c1 c2 c3 c4
    refine ⟨by simp only [PyData.showableKv, a1, b1, c1, Bool.and_self], by simp only [PyData.leavesShortKv, a2, b2, c2, Bool.and_self], ?_, ?_⟩
    · simp only [PyData.weightKv, List.length_cons]
      rw [Nat.add_mul]; omega
    · simp only [PyData.depthKv]; omega
theorem Sm.dict {W1 W2 W' dp n : Nat} {ds : List (PyData × PyData)} (h : ∀ d ∈ ds, Sm W1 dp d.1 ∧ Sm W2 dp d.2) (hn : ds.length ≤ n) (hW : n * (W1 + W2 + 2) ≤ W') : Sm W' (dp + 1) (.dict ds) := by
  obtain ⟨a1, a2, a3, a4⟩ := sm_kv h
  refine ⟨by simp only [PyData.showable]; exact a1, by simp only [PyData.leavesShort]; exact a2, ?_, by simp only [PyData.depth]; omega⟩
  simp only [PyData.weight]
  exact Nat.le_trans a3 (Nat.le_trans (Nat.mul_le_mul_right _ hn) hW)
theorem Sm.repr {M : Store} {x : Va} {d : PyData} (h : Sm 1048570 60 d) (r : PdR M x d) : kRepr [x] M = some (.val (.str d.shown), M) :=
  repr_of r h.sh (shown_ok (B := 14) (W := 1048570) (by decide) h.lf h.wt (by decide)) h.dp
end PV

set_option Elab.async false
set_option linter.all false
set_option maxRecDepth 100000
set_option maxHeartbeats 4000000
namespace PV
open PySem L2
open PyProof.Rows

/-! ### dict comprehensions -/
section
open Classical
noncomputable def dcL (chk : Store → Prop) (tg : Tgt) (tt tk tv : SE) (sw : SL) : List Va → List (Key × Va) → Store → Option (List (Key × Va) × Store)
  | [], acc, M => if chk M then some (acc, M) else none
  | x :: xs, acc, M => if chk M then (match tg x sw M with
    | none => none
    | some s1 => match tt s1 M with
      | some (.val (.bl true), M1) => (match tk s1 M1 with
        | some (.val y, M2) => (match keyA y with
          | some k => (match tv s1 M2 with
            | some (.val z, M3) => dcL chk tg tt tk tv sw xs (puK acc k z) M3
            | _ => none)
          | none => none)
        | _ => none)
      | some (.val (.bl false), M1) => dcL chk tg tt tk tv sw xs acc M1
      | _ => none) else none
noncomputable def evDc (src : SI) (tg : Tgt) (tt tk tv : SE) (vs : List Nat) : SE := fun s M => match src s M with
  | none => none
  | some (.it l chk, M1) => (match dcL chk tg tt tk tv (wipeI s vs) l [] M1 with
    | some (kv, M2) => some (.val (.dic kv), M2)
    | none => none)
  | some (.exc c v, M1) => some (.exc c v, M1)
end
theorem puK_len1 {α : Type} (l : List (Key × α)) (k : Key) (v : α) : (puK l k v).length ≤ l.length + 1 := by
  unfold puK
  split <;> simp
section
variable {X : Cx} {G : Sig} {E E2 : XK} {tg kx vx iter : Expr} {ifs : List Expr} {pos : Pos}
theorem dc_walk {t : Tgt} {tt tk tv : SE} {vs ix : List Nat} {g : TG} (sm : TgSim G g t ix) (hix : ∀ i ∈ ix, i ∈ vs) {σ : L2.St} {R1 : Hp} {ρ1 : List Addr} {M1 M2 : Store} {H1 : Hp} {s : SL} {J : It} {l : List Va} {ys : List (Key × Va)} {chk : Store → Prop} {Q : VK} {D : Addr}
    (w1 : Wd G R1 ρ1 M1 H1) (sr : SR G R1 ρ1 s σ) (hz : l.length ≤ sizeLine) (js : ItSim G R1 ρ1 J l chk) (hcomp : dcL chk t tt tk tv (wipeI s vs) l [] M1 = some (ys, M2)) (hD : H1 D = none)
    (fin : ∀ R' ρ' H' acc, Ext R1 ρ1 H1 R' ρ' H' → Wd G R' ρ' M2 H' → H' D = some (.dK acc) → R' D = none → D ∉ ρ' → VRk G R' ρ' ys acc → ys.length ≤ sizeLine → Q (.ref D) H') :
    ∃ W : Nat → Nat → Hp → Prop, (∃ m, W 0 m (upd H1 D (.dK []))) ∧ ∀ i m H, W i m H →
      (J.stop i H ∧ Q (.ref D) H) ∨ (J.go i H ∧ ∃ Nx : Hp → Prop, (∀ H', Nx H' → ∃ m', m' < m ∧ W (i + 1) m' H') ∧ ∀ x H', J.yld i H x H' → g x (wipe σ vs) H' fun σ2 H2 => wipe σ2 vs = wipe σ vs ∧ tT G E tt σ2 H2 fun b H3 =>
        if b = true then tE G E tk σ2 H3 fun y H4 => tE G E tv σ2 H4 fun z H5 => ∃ kvs k, y = kV k ∧ H5 D = some (.dK kvs) ∧ kvs.length < sizeLine ∧ Nx (upd H5 D (.dK (putK kvs k z))) else Nx H3) := by
  have rD : R1 D = none := w1.nonR hD
  refine ⟨fun i m Hc => ∃ R' ρ' M' acc accI, m = l.length - i ∧ i ≤ l.length ∧ Ext R1 ρ1 H1 R' ρ' Hc ∧ Wd G R' ρ' M' Hc ∧ Hc D = some (.dK acc) ∧ VRk G R' ρ' accI acc ∧ R' D = none ∧ (D ∉ ρ') ∧
    dcL chk t tt tk tv (wipeI s vs) (l.drop i) accI M' = some (ys, M2) ∧ accI.length ≤ i, ?_, ?_⟩
  · refine ⟨l.length, R1, ρ1, M1, [], [], rfl, Nat.zero_le _, Ext.heapNew hD, ?_, upd_same, .nil, rD, ?_, hcomp, Nat.zero_le _⟩
    · exact w1.heap fun a o h => by rw [upd_ne (ne_of_none h hD)]; exact h
    · exact fun hm => w1.al D hm hD
  · rintro i m Hc ⟨R', ρ', M', acc, accI, rfl, hi, e', w', hDc, ra, rDn, nDr, hc, hal⟩
    by_cases hlt : i < l.length
    · have ed : l.drop i = l[i] :: l.drop (i + 1) := List.drop_eq_getElem_cons hlt
      rw [ed] at hc
      unfold dcL at hc
      by_cases ck : chk M'
      · rw [if_pos ck] at hc
        obtain ⟨go, _⟩ := js R' ρ' M' Hc e'.gr w' ck
        obtain ⟨go, yld⟩ := go i l[i] (by simp [hlt])
        refine .inr ⟨go, fun H2 => ∃ R2 ρ2 M3 acc accI, Ext R1 ρ1 H1 R2 ρ2 H2 ∧ Wd G R2 ρ2 M3 H2 ∧ H2 D = some (.dK acc) ∧ VRk G R2 ρ2 accI acc ∧ R2 D = none ∧ (D ∉ ρ2) ∧
          dcL chk t tt tk tv (wipeI s vs) (l.drop (i + 1)) accI M3 = some (ys, M2) ∧ accI.length ≤ i + 1, fun H2 ⟨R2, ρ2, M3, acc, accI, q⟩ => ⟨l.length - (i + 1), by omega, R2, ρ2, M3, acc, accI, rfl, hlt, q⟩, fun x H2 hyl => ?_⟩
        obtain ⟨R2, e2, w2, r2⟩ := yld x H2 hyl
        obtain ⟨rD2, nD2, hD2⟩ := e2.apart hDc rDn nDr
        cases q3 : t l[i] (wipeI s vs) M' with
        | none => rw [q3] at hc; cases hc
        | some s3 =>
          rw [q3] at hc
          have srw : SR G R2 ρ' (wipeI s vs) (wipe σ vs) := (SR.wipe (sr.mono (e'.gr.trans e2.gr)) vs)
          refine sm R2 ρ' M' H2 (wipeI s vs) s3 (wipe σ vs) l[i] x _ w2 srw r2 q3 fun σ3 sr3 hl3 hk3 => ⟨?_, ?_⟩
          · have z1 : wipe σ3 vs = wipe (wipe σ vs) vs := wipe_same hl3 fun j hj => hk3 j fun z => hj (hix j z)
            rw [z1]
            exact wipe_same (wipe_length σ vs) fun j hj => wipe_get σ j vs hj
          · dsimp only at hc
            rcases q4 : tt s3 M' with _ | ⟨y | ⟨c, y⟩, M4⟩ <;> rw [q4] at hc
            · cases hc
            · cases y <;> first | (cases hc; done) | skip
              rename_i bb
              refine ⟨R2, ρ', s3, M', w2, sr3, ?_⟩
              rw [q4]
              intro R5 ρ5 H5 e5 w5
              obtain ⟨rD5, nD5, hD5⟩ := e5.apart hD2 rD2 nD2
              cases bb with
              | false =>
                refine iteF ?_
                exact ⟨R5, ρ5, M4, acc, accI, (e'.trans e2).trans e5, w5, hD5, ra.mono (e2.trans e5).gr, rD5, nD5, hc, Nat.le_succ_of_le hal⟩
              | true =>
                refine iteT ?_
                dsimp only at hc
                rcases q6 : tk s3 M4 with _ | ⟨y | ⟨c, y⟩, M6⟩ <;> rw [q6] at hc
                · cases hc
                · refine ⟨R5, ρ5, s3, M4, w5, sr3.mono e5.gr, ?_⟩
                  rw [q6]
                  intro R7 ρ7 H7 v e7 w7 r7
                  obtain ⟨rD7, nD7, hD7⟩ := e7.apart hD5 rD5 nD5
                  dsimp only at hc
                  cases hk : keyA y with
                  | none => rw [hk] at hc; cases hc
                  | some key =>
                    rw [hk] at hc
                    dsimp only at hc
                    rcases q8 : tv s3 M6 with _ | ⟨z | ⟨c, z⟩, M8⟩ <;> rw [q8] at hc
                    · cases hc
                    · refine ⟨R7, ρ7, s3, M6, w7, sr3.mono (e5.trans e7).gr, ?_⟩
                      rw [q8]
                      intro R9 ρ9 H9 u e9 w9 r9
                      obtain ⟨rD9, nD9, hD9⟩ := e9.apart hD7 rD7 nD7
                      dsimp only at hc
                      have eall := (((e'.trans e2).trans e5).trans e7).trans e9
                      have ra9 := ra.mono (((e2.trans e5).trans e7).trans e9).gr
                      refine ⟨acc, key, r7.key hk, hD9, ?_, R9, ρ9, M8, putK acc key u, puK accI key z, eall.mut hD, w9.other rD9 nD9, upd_same, ra9.put key r9, rD9, nD9, hc, ?_⟩
                      · rw [← ra.length]
                        omega
                      · have := puK_len1 accI key z
                        omega
                    · cases hc
                · cases hc
            · cases hc
      · rw [if_neg ck] at hc; cases hc
    · have e0 : i = l.length := by omega
      subst e0
      rw [List.drop_length] at hc
      unfold dcL at hc
      by_cases ck : chk M'
      · rw [if_pos ck] at hc
        cases hc
        obtain ⟨_, stop⟩ := js R' ρ' _ Hc e'.gr w' ck
        exact .inl ⟨stop _ (Nat.le_refl _), fin R' ρ' Hc acc e' w' hDc rDn nDr ra (by omega)⟩
      · rw [if_neg ck] at hc; cases hc
variable {src : SI} {t : Tgt} {tt tk tv : SE} {ix : List Nat} {g : TG} {scope : Scope} {own : List (Str × Nat)}
theorem dc_frz {σ : L2.St} {H : Hp} {Q : VK} (sm : TgSim G g t ix) (hix : ∀ i ∈ ix, i ∈ own.map (·.2)) (h : tE G E (evDc src t tt tk tv (own.map (·.2))) σ H Q) : tDc (tI G E src) g (tT G E2 tt) (tE G E2 tk) (tE G E2 tv) (own.map (·.2)) σ H Q := by
  obtain ⟨R, ρ, s, M, w, sr, p⟩ := h
  refine ⟨R, ρ, s, M, w, sr, ?_⟩
  unfold evDc at p
  rcases q : src s M with _ | ⟨⟨l, chk⟩ | ⟨c, x⟩, M1⟩ <;> rw [q] at p
  · exact p
  · intro R1 ρ1 H1 J e1 w1 hz js D hD
    dsimp only at p
    rcases q2 : dcL chk t tt tk tv (wipeI s (own.map (·.2))) l [] M1 with _ | ⟨ys, M2⟩ <;> rw [q2] at p
    · exact False.elim p
    · refine dc_walk sm hix w1 (sr.mono e1.gr) hz js q2 hD fun R' ρ' H' acc e' w' hDc rDn nDr ra hzy => ?_
      exact p (upd R' D (.dK acc)) ρ' H' (.ref D) (e1.trans (e'.take hD rDn)) (w'.take hDc rDn nDr) (.dic upd_same hzy (ra.mono ⟨fun a o q => by rw [upd_ne (fun z => by subst z; rw [rDn] at q; cases q)]; exact q, fun _ _ q => q⟩))
  · exact p
theorem q_dc (hc : X.calm = true) (hN : X.N.Nodup) (hi : PI X tg iter (tI G E src)) (ok : BlkOk X.N X.env.scope scope own)
    (hg : ∀ (s : Shared) (H : Hp) (C : Addr) (cl : List (Str × Addr)) (fp : List Addr), QG (X.blk s H scope (compEnvC scope cl C X.env) fp) G tg g t ix)
    (ht : ∀ (s : Shared) (H : Hp) (C : Addr) (cl : List (Str × Addr)) (fp : List Addr), PTs (X.blk s H scope (compEnvC scope cl C X.env) fp) ifs (tT G E2 tt))
    (hk : ∀ (s : Shared) (H : Hp) (C : Addr) (cl : List (Str × Addr)) (fp : List Addr), PE (X.blk s H scope (compEnvC scope cl C X.env) fp) kx (tE G E2 tk))
    (he : ∀ (s : Shared) (H : Hp) (C : Addr) (cl : List (Str × Addr)) (fp : List Addr), PE (X.blk s H scope (compEnvC scope cl C X.env) fp) vx (tE G E2 tv))
    (hix : ∀ i ∈ ix, i ∈ own.map (·.2) := by decide) (hs : ∀ x, foldedSetIterable iter X.env x = pure x := by intro _; rfl) :
    PE X (.DictComp kx vx [⟨tg, iter, ifs, 0⟩] scope pos) (tE G E (evDc src t tt tk tv (own.map (·.2)))) :=
  ⟨fun pins s σ H Q I h => (pe_dc hc hN hi ok (fun s H C cl fp => (hg s H C cl fp).pg) ht hk he hs).run pins s σ H Q I (dc_frz (hg s H 0 [] []).sim hix h)⟩
end

theorem kit_self {K : PySem.W.Frag} {a : Addr} : PySem.W.kitOne K (.ref a) (.ref a) = some true := if_pos (by simp)
/-! ### x is True -/
def opIsB (M : Store) (a b : Va) : Option Va := match a, b with
  | .bl x, .bl y => some (.bl (decide (x = y)))
  | _, _ => none
theorem s_isB {G : Sig} : Op2 G rIsB opIsB := by
  intro R ρ M H x y va vb res Q w ra rb h g
  unfold opIsB at h
  split at h
  · cases h; cases ra; cases rb
    exact ⟨_, _, rfl, rfl, gives_now w (.bl _) g⟩
  · cases h

def opNotB (M : Store) (a b : Va) : Option Va := match a, b with
  | .bl x, .bl y => some (.bl (!decide (x = y)))
  | _, _ => none
theorem s_notB {G : Sig} : Op2 G rNotB opNotB := by
  intro R ρ M H x y va vb res Q w ra rb h g
  unfold opNotB at h
  split at h
  · cases h; cases ra; cases rb
    exact ⟨_, _, rfl, rfl, gives_now w (.bl _) g⟩
  · cases h

/-! ### xs.index(z), of a list of texts -/
def idxS (z : Str) : List Str → Option Nat
  | [] => none
  | y :: r => if y = z then some 0 else (idxS z r).map (· + 1)
theorem idxS_get {z : Str} : ∀ {l : List Str} {j : Nat}, idxS z l = some j → l[j]? = some z ∧ ∀ m y, m < j → l[m]? = some y → y ≠ z
  | [], j, h => by cases h
  | y :: r, j, h => by
    unfold idxS at h
    by_cases e : y = z
    · rw [if_pos e] at h
      cases h
      exact ⟨by simp [e], fun m _ hm => absurd hm (Nat.not_lt_zero _)⟩
    · rw [if_neg e] at h
      cases q : idxS z r with
      | none => rw [q] at h; cases h
      | some i =>
        rw [q] at h
        cases h
        obtain ⟨h1, h2⟩ := idxS_get q
        refine ⟨by simpa using h1, fun m y' hm hy => ?_⟩
        cases m with
        | zero => simp at hy; rw [← hy]; exact e
        | succ m => exact h2 m y' (Nat.lt_of_succ_lt_succ hm) (by simpa using hy)
def gIndexS (M : Store) (o : Va) : List Va → Option Va
  | [.str z] => (match (lstOf M o).bind strsOf with
    | some zs => (idxS z zs).map fun j => .int (j : Nat)
    | none => none)
  | _ => none
theorem s_index {X : Cx} {G : Sig} (hK : X.K = G.K) : OpM G "list" (rIndex X.K) (kVal gIndexS) :=
  val_of fun R ρ M H x xs o l res Q w ro rv h g => by
    unfold gIndexS at h
    split at h
    · rename_i z
      obtain ⟨v, rfl, r⟩ := one_of rv
      cases r
      cases q : lstOf M o with
      | none => rw [q] at h; cases h
      | some l =>
        rw [q] at h
        cases q2 : strsOf l with
        | none => simp [q2] at h
        | some zs =>
          simp only [Option.bind_some, q2] at h
          cases q3 : idxS z zs with
          | none => rw [q3] at h; cases h
          | some j =>
            rw [q3] at h
            cases h
            obtain ⟨a, vs, rfl, sq, rv2, _⟩ := lst_read w ro q
            have e := strs_of rv2 q2
            subst e
            obtain ⟨h1, h2⟩ := idxS_get q3
            refine ⟨a, zs.map V.str, .str z, j, .str z, rfl, rfl, by rw [hK]; exact sq, rfl, by rw [List.all_eq_true]; intro y hy; obtain ⟨c, _, rfl⟩ := List.mem_map.mp hy; rfl, by rw [List.getElem?_map, h1]; rfl, by simp [eqV], fun m z' hm hz => ?_, gives_now w (.int _) g⟩
            rw [List.getElem?_map] at hz
            cases q4 : zs[m]? with
            | none => rw [q4] at hz; cases hz
            | some y =>
              rw [q4] at hz
              cases hz
              have := h2 m y hm q4
              simp [eqV, this]
    · cases h
end PV

set_option Elab.async false
set_option linter.all false
set_option maxRecDepth 100000
set_option maxHeartbeats 4000000
namespace PV
open PySem L2
open PyProof.Rows

theorem vals_rev : ∀ {vs : List V} {us : List Value}, Vals vs us → Vals vs.reverse us.reverse
  | _, _, .nil => .nil
  | _, _, .cons h t => by
    rw [List.reverse_cons, List.reverse_cons]
    exact (vals_rev t).append (.cons h .nil)
/-! ### calls by keywords alone -/
def kFnW (m : Nat) (gA : List Va → List Va) (f : FM) : FM := fun l M => if l.length = m then f (gA l) M else none
section
variable {X : Cx} {G : Sig} {E : XK} {e : Expr} {kws : List Keyword} {ea eb : SE} {pos kpos p' : Pos} {nm : Option Str}
theorem qk_nil : PK X [] (tA G E evNil) := by
  refine ⟨fun pos pins s σ H Q I h => pk_nil.run pos pins s σ H Q I ?_⟩
  obtain ⟨R, ρ, s', M, w, sr, p⟩ := h
  exact p R ρ H [] Ext.refl w .nil
theorem qk_cons (ha : PE X e (tE G E ea)) (hr : PK X kws (tA G E eb)) : PK X (⟨nm, e, kpos⟩ :: kws) (tA G E (evCons ea eb)) := by
  refine ⟨fun pos pins s σ H Q I h => (pk_cons ha hr).run pos pins s σ H Q I ?_⟩
  obtain ⟨R, ρ, s, M, w, sr, p⟩ := h
  refine ⟨R, ρ, s, M, w, sr, ?_⟩
  replace p : PostA G R ρ H (bindO (ea s M) fun v M1 => bindO (eb s M1) fun t M2 => match t with | .tup l => some (.val (.tup (v :: l)), M2) | _ => none) Q E := p
  rcases q : ea s M with _ | ⟨x | ⟨c, x⟩, M1⟩ <;> rw [q] at p
  · exact p
  · intro R1 ρ1 H1 v e1 w1 r1
    refine ⟨R1, ρ1, s, M1, w1, sr.mono e1.gr, ?_⟩
    rw [bindO_val] at p
    rcases q2 : eb s M1 with _ | ⟨y | ⟨c, y⟩, M2⟩ <;> rw [q2] at p
    · exact p
    · cases y <;> first | exact p | skip
      intro R2 ρ2 H2 vs e2 w2 r2
      exact p R2 ρ2 H2 (v :: vs) (e1.trans e2) w2 (.cons (r1.mono e2.gr) r2)
    · exact PostX.ext e1 p
  · exact p
end
section
variable {X : Cx} {G : Sig} {E : XK} {k n : Nat} {f : Addr} {fd : FuncData} {ps ks : List Str} {x : Str} {p pos : Pos} {kws : List Keyword} {tk : TA} {sp : Sp} {g : List Value → List Value → List Value} {gV : List V → List V → List V} {CX : CXT}
theorem run_fnGW {pins : List (Addr × Obj)} {σ : L2.St} {H : Hp} {s : Shared} {Q : VK} {us ws : List Value} {vs zs : List V} (F : FnG X.prog X.w X.K X.mg X.base CX k f fd ps sp) (hr : Room k X.A) (hgd : X.A.guards = some []) (hb : KBn X.K fd ps n ks g gV) (hx : Passes CX X E)
    (I : Inv X pins σ H s) (r : Vals vs us) (rz : Vals zs ws) (l1 : vs.length = n) (l2 : zs.length = ks.length) (h : sp (gV vs zs) H Q E) : wpAny (model X.prog X.w) X.A (call (.ref f) us (ks.zip ws)) (EP X pins σ Q) X.xe s := by
  have r2 := hb.rel r rz
  refine wpAny_call (codeAny_mono (F.go X.A hr hgd X.stack s H I.env0 ⟨us, ks.zip ws⟩ (g us ws) (gV vs zs) (hb.to s us ws I.kIn (r.length.symm.trans l1) (rz.length.symm.trans l2)) r2 Q E h) fun r s' hq => ?_)
  cases r with
  | error e => exact hx pins σ H s e s' I hq
  | ok fl =>
    cases fl with
    | ret u => exact I.after hq
    | next => exact False.elim hq
    | brk => exact False.elim hq
    | cont => exact False.elim hq
theorem pe_callGW (F : FnG X.prog X.w X.K X.mg X.base CX k f fd ps sp) (hr : Room k X.A) (hgd : X.A.guards = some []) (hg : Gl X x) (hm : X.mg x = some (.ref f)) (hk : PySem.W.keepIn X.K (.ref f) = true) (hb : KBn X.K fd ps 0 ks g gV) (hx : Passes CX X E)
    (hkw : PK X kws tk) (hall : (backToKw pos (keywordEach kws X.env)).all (·.1.isSome) = true := by rfl) (hks : (backToKw pos (keywordEach kws X.env)).filterMap (·.1) = ks := by rfl)
    (hdb : (x == ("__debug__" : Str)) = false := by decide)
    (hpl : ((backTo pos (starEach [] X.env)).any (·.1) || (backToKw pos (keywordEach kws X.env)).any (·.1.isNone)) = false := by rfl) :
    PE X (.Call (.Name x p) [] kws pos) (fun σ H Q => tk σ H fun zs H2 => zs.length = ks.length ∧ sp (gV [] zs) H2 Q E) := by
  refine ⟨fun pins s σ H Q I h => ?_⟩
  refine wpAny_Call_Name_kw (ld_glob I hg hm ?_ hdb)
  refine PySem.W.callWith_KW0 (h₀ := X.base) I.ok.mod.kin hk hall ?_ hpl
  refine thn (hkw.run pos pins s σ H _ I h) fun ws s2 ⟨zs, H2, I2, rz, l2, q2⟩ => ⟨I2.kIn, ?_⟩
  rw [hks]
  exact run_fnGW F hr hgd hb hx I2 .nil rz rfl l2 q2
end
/-- a callee by keywords alone, its body by value -/
structure CalW (P : Program) (w : World) (K : PySem.W.Frag) (mg : Str → Option Value) (base : Heap) (G : Sig) (x : Str) (lv n : Nat) (ks : List Str) (gA : List Va → List Va) (fM : FM) : Prop where
  ex : ∃ (f : Addr) (fd : FuncData) (ps : List Str) (g : List Value → List Value → List Value) (gV : List V → List V → List V), mg x = some (.ref f) ∧ PySem.W.keepIn K (.ref f) = true ∧ KBn K fd ps 0 ks g gV ∧
    FnG P w K mg base CX0 lv f fd ps (spI G n fM) ∧ (∀ R ρ l zs, VRs G R ρ l zs → l.length = ks.length → VRs G R ρ (gA l) (gV [] zs)) ∧ ∀ zs, zs.length = ks.length → (gV [] zs).length = n
section
variable {X : Cx} {G : Sig} {k lv n : Nat} {x : Str} {p' pos : Pos} {kws : List Keyword} {ea : SE} {ks : List Str} {gA : List Va → List Va} {fM : FM}
theorem q_calW (C : CalW X.prog X.w X.K X.mg X.base G x lv n ks gA fM) (hr : Room k X.A) {m : Nat} (hml : ks.length = m) (hl : lv ≤ k) (hgd : X.A.guards = some []) (hg : Gl X x) (hkw : PK X kws (tA G E0 ea)) (hdb : (x == ("__debug__" : Str)) = false := by decide)
    (hall : (backToKw pos (keywordEach kws X.env)).all (·.1.isSome) = true := by rfl) (hks : (backToKw pos (keywordEach kws X.env)).filterMap (·.1) = ks := by rfl)
    (hpl : ((backTo pos (starEach [] X.env)).any (·.1) || (backToKw pos (keywordEach kws X.env)).any (·.1.isNone)) = false := by rfl) :
    PE X (.Call (.Name x p') [] kws pos) (tE G E0 (evL (kFnW m gA fM) ea)) := by
  subst hml
  obtain ⟨f, fd, ps, g, gV, hm, hk, hb, F, hv, hlen⟩ := C.ex
  refine pe_imp (pe_callGW F (hr.mono hl) hgd hg hm hk hb pass0 hkw hall hks hdb hpl) fun σ H Q ⟨R, ρ, s, M, w, sr, p⟩ => stepA w sr p fun R1 ρ1 M1 H1 l vs e1 w1 sr1 r1 p1 => ?_
  unfold kFnW at p1
  by_cases hl : l.length = ks.length
  · rw [if_pos hl] at p1
    have hz : vs.length = ks.length := by rw [← r1.length]; exact hl
    exact ⟨hz, hlen vs hz, R1, ρ1, M1, gA l, w1, hv _ _ _ _ r1 hl, p1⟩
  · rw [if_neg hl] at p1; exact p1.elim
end
end PV

set_option Elab.async false
set_option linter.all false
set_option maxRecDepth 100000
set_option maxHeartbeats 4000000
/-! zip of three lists: its new, its next, its turns -/
namespace Z3
open PySem
open PySem.Sem (wp)
theorem typeCall3 (a b c : Value) : checkTypeCall "zip" ⟨[a, b, c], []⟩ = pure () := by kernel_rfl
theorem newCall3 (a b c : Value) : checkBuiltinCall "zip.__new__" ⟨[.type "zip", a, b, c], []⟩ = pure () := by kernel_rfl
theorem args_init4 (a b c d : Value) : argsOk "object.__init__" ⟨[a, b, c, d], []⟩ := by
  unfold argsOk; rw [signature?_of (id := "object.__init__") (n := ['_', '_', 't', 'i', 'n', 'i', '_', '_']) (o := ['t', 'c', 'e', 'j', 'b', 'o']) (by kernel_rfl) F.owner_object]; kernel_rfl
abbrev IsTri (h : Heap) (T : Addr) (a b c : Value) : Prop := h.get? T = some { cls := .type "tuple", data := .seq #[a, b, c] }
/-- all the parts of a zip of three lists apart -/
structure Ap (z TI TO i1 i2 i3 l1 l2 l3 : Addr) : Prop where
  TOz : TO ≠ z
  i1z : i1 ≠ z
  i2z : i2 ≠ z
  i3z : i3 ≠ z
  TOi1 : TO ≠ i1
  TOi2 : TO ≠ i2
  TOi3 : TO ≠ i3
  i12 : i1 ≠ i2
  i13 : i1 ≠ i3
  i23 : i2 ≠ i3
  nTI : TI ≠ z ∧ TI ≠ TO ∧ TI ≠ i1 ∧ TI ≠ i2 ∧ TI ≠ i3
  n1 : l1 ≠ z ∧ l1 ≠ TO ∧ l1 ≠ i1 ∧ l1 ≠ i2 ∧ l1 ≠ i3
  n2 : l2 ≠ z ∧ l2 ≠ TO ∧ l2 ≠ i1 ∧ l2 ≠ i2 ∧ l2 ≠ i3
  n3 : l3 ≠ z ∧ l3 ≠ TO ∧ l3 ≠ i1 ∧ l3 ≠ i2 ∧ l3 ≠ i3
section
variable {prog : Program} {w : World} {A : Around} {E : Value → Shared → Prop} {s : Shared}
theorem upd3 {T : Addr} {a b c x : Value} {k : Nat} {Q : Unit → Shared → Prop} (hT : IsTri s.heap T a b c)
    (h : ∀ h', h'.get? T = some { cls := .type "tuple", data := .seq ((#[a, b, c] : Array Value).setIfInBounds k x) } → Heap.SameBut T s.heap h' → Q () { s with heap := h' }) :
    wpAny (model prog w) A (updateSeq T (·.setIfInBounds k x)) Q E s := by
  refine wpAny_updateSeq hT rfl (h _ ?_ (Heap.SameBut.update ..))
  rw [Heap.get?_update_self _ hT rfl]
  simp [Obj.mapSeq]
theorem next_item {z TI TO i1 i2 i3 l1 l2 l3 : Addr} {k : Nat} {xs ys us : Array Value} {x y u a b c : Value} {Q : Value → Shared → Prop} (D : Ap z TI TO i1 i2 i3 l1 l2 l3)
    (hz : IsZip s.heap z TI TO .none) (hTI : IsTri s.heap TI (.ref i1) (.ref i2) (.ref i3)) (hTO : IsTri s.heap TO a b c)
    (h1 : s.heap.IsListIter i1 l1 k) (h2 : s.heap.IsListIter i2 l2 k) (h3 : s.heap.IsListIter i3 l3 k) (hl1 : s.heap.IsList l1 xs) (hl2 : s.heap.IsList l2 ys) (hl3 : s.heap.IsList l3 us) (hx : xs[k]? = some x) (hy : ys[k]? = some y) (hu : us[k]? = some u)
    (hQ : ∀ h', IsZip h' z TI TO (rawInt s.heap.objs.size) → IsTri h' TO x y u → h'.IsListIter i1 l1 (k + 1) → h'.IsListIter i2 l2 (k + 1) → h'.IsListIter i3 l3 (k + 1) → IsTri h' s.heap.objs.size x y u → h'.objs.size = s.heap.objs.size + 1 →
      (∀ c o, c ≠ z → c ≠ TO → c ≠ i1 → c ≠ i2 → c ≠ i3 → s.heap.get? c = some o → h'.get? c = some o) → Q (.ref s.heap.objs.size) { s with heap := h' }) :
    wpAny (model prog w) A (Builtin.«zip.__next__» ⟨[.ref z], []⟩) (fun fin s' => ∃ v, fin = .done (.ret v) ∧ Q v s') E s := by
  show wpAny _ _ (field (.ref z) 2 >>= _) _ _ _
  refine wpAny_bind (wpAny_field hz rfl (x := .bool false) rfl ?_)
  show wpAny _ _ (field (.ref z) 3 >>= _) _ _ _
  refine wpAny_bind (wpAny_field hz rfl (x := .ref TI) rfl ?_)
  refine wpAny_bind (wpAny_seqItems hTI rfl ?_)
  show wpAny _ _ (Builtin.SmallTypes.ownedTupleIsFree (.ref z) >>= _) _ _ _
  refine wpAny_bind ?_
  unfold Builtin.SmallTypes.ownedTupleIsFree
  refine wpAny_bind (wpAny_field hz rfl (x := .none) rfl (wpAny_pure ?_))
  simp only [if_true]
  refine wpAny_bind (wpAny_rule ?_)
  refine wpAny_bind (wpAny_field hz rfl (x := .ref TO) rfl ?_)
  refine wpAny_bind (wpAny_setField_rec hz (by simp) fun g1 hz1 s1 => ?_)
  replace hz1 : IsZip g1 z TI TO .ellipsis := hz1
  have k1 : ∀ c o, c ≠ z → s.heap.get? c = some o → g1.get? c = some o := s1.extBut
  refine wpAny_bind ?_
  simp only [List.zipIdx_cons, List.zipIdx_nil, List.forIn_cons, List.forIn_nil]
  -- the first
  refine wpAny_bind (wpAny_bind (wpAny_onRaise ?_))
  show wpAny _ _ (Builtin.SmallTypes.nextOf (.ref i1) >>= _) _ _ _
  refine wpAny_bind (wpAny_nextOf_list_item (h1.at fun o e => k1 _ o D.i1z e) (hl1.at fun o e => k1 _ o D.n1.1 e) hx fun g2 it1 s2 => wpAny_pure ?_)
  have k2 : ∀ c o, c ≠ z → c ≠ i1 → s.heap.get? c = some o → g2.get? c = some o := fun c o c1 c2 e => s2.extBut _ _ c2 (k1 c o c1 e)
  have to2 : IsTri g2 TO a b c := k2 _ _ D.TOz D.TOi1 hTO
  refine wpAny_bind (wpAny_seqItems to2 rfl ?_)
  refine wpAny_bind (upd3 to2 fun g3 to3 s3 => ?_)
  replace to3 : IsTri g3 TO x b c := to3
  have k3 : ∀ c o, c ≠ z → c ≠ i1 → c ≠ TO → s.heap.get? c = some o → g3.get? c = some o := fun c o c1 c2 c3 e => s3.extBut _ _ c3 (k2 c o c1 c2 e)
  refine wpAny_bind (wpAny_letGo (wpAny_pure ?_))
  -- the second
  refine wpAny_bind (wpAny_bind (wpAny_onRaise ?_))
  show wpAny _ _ (Builtin.SmallTypes.nextOf (.ref i2) >>= _) _ _ _
  refine wpAny_bind (wpAny_nextOf_list_item (h2.at fun o e => k3 _ o D.i2z D.i12.symm D.TOi2.symm e) (hl2.at fun o e => k3 _ o D.n2.1 D.n2.2.2.1 D.n2.2.1 e) hy fun g4 it2 s4 => wpAny_pure ?_)
  have k4 : ∀ c o, c ≠ z → c ≠ i1 → c ≠ TO → c ≠ i2 → s.heap.get? c = some o → g4.get? c = some o := fun c o c1 c2 c3 c4 e => s4.extBut _ _ c4 (k3 c o c1 c2 c3 e)
  have to4 : IsTri g4 TO x b c := s4.extBut _ _ D.TOi2 to3
  refine wpAny_bind (wpAny_seqItems to4 rfl ?_)
  refine wpAny_bind (upd3 to4 fun g5 to5 s5 => ?_)
  replace to5 : IsTri g5 TO x y c := to5
  have k5 : ∀ c o, c ≠ z → c ≠ i1 → c ≠ TO → c ≠ i2 → s.heap.get? c = some o → g5.get? c = some o := fun c o c1 c2 c3 c4 e => s5.extBut _ _ c3 (k4 c o c1 c2 c3 c4 e)
  refine wpAny_bind (wpAny_letGo (wpAny_pure ?_))
  -- the third
  refine wpAny_bind (wpAny_bind (wpAny_onRaise ?_))
  show wpAny _ _ (Builtin.SmallTypes.nextOf (.ref i3) >>= _) _ _ _
  refine wpAny_bind (wpAny_nextOf_list_item (h3.at fun o e => k5 _ o D.i3z D.i13.symm D.TOi3.symm D.i23.symm e) (hl3.at fun o e => k5 _ o D.n3.1 D.n3.2.2.1 D.n3.2.1 D.n3.2.2.2.1 e) hu fun g6 it3 s6 => wpAny_pure ?_)
  have k6 : ∀ c o, c ≠ z → c ≠ i1 → c ≠ TO → c ≠ i2 → c ≠ i3 → s.heap.get? c = some o → g6.get? c = some o := fun c o c1 c2 c3 c4 c5 e => s6.extBut _ _ c5 (k5 c o c1 c2 c3 c4 e)
  have to6 : IsTri g6 TO x y c := s6.extBut _ _ D.TOi3 to5
  refine wpAny_bind (wpAny_seqItems to6 rfl ?_)
  refine wpAny_bind (upd3 to6 fun g7 to7 s7 => ?_)
  replace to7 : IsTri g7 TO x y u := to7
  have k7 : ∀ c o, c ≠ z → c ≠ i1 → c ≠ TO → c ≠ i2 → c ≠ i3 → s.heap.get? c = some o → g7.get? c = some o := fun c o c1 c2 c3 c4 c5 e => s7.extBut _ _ c3 (k6 c o c1 c2 c3 c4 c5 e)
  refine wpAny_bind (wpAny_letGo (wpAny_pure (wpAny_pure ?_)))
  refine wpAny_bind (wpAny_seqItems to7 rfl ?_)
  refine wpAny_bind (wpAny_newTuple ?_)
  have hsz : g7.objs.size = s.heap.objs.size := by rw [s7.1, s6.1, s5.1, s4.1, s3.1, s2.1, s1.1]
  have hz7 : IsZip g7 z TI TO .ellipsis := s7.extBut _ _ D.TOz.symm (s6.extBut _ _ D.i3z.symm (s5.extBut _ _ D.TOz.symm (s4.extBut _ _ D.i2z.symm (s3.extBut _ _ D.TOz.symm (s2.extBut _ _ D.i1z.symm hz1)))))
  have it1' : g7.IsListIter i1 l1 (k + 1) := it1.at fun o e => s7.extBut _ _ D.TOi1.symm (s6.extBut _ _ D.i13 (s5.extBut _ _ D.TOi1.symm (s4.extBut _ _ D.i12 (s3.extBut _ _ D.TOi1.symm e))))
  have it2' : g7.IsListIter i2 l2 (k + 1) := it2.at fun o e => s7.extBut _ _ D.TOi2.symm (s6.extBut _ _ D.i23 (s5.extBut _ _ D.TOi2.symm e))
  have it3' : g7.IsListIter i3 l3 (k + 1) := it3.at fun o e => s7.extBut _ _ D.TOi3.symm e
  have hzlt : z < g7.objs.size := Heap.lt_size hz7
  show wpAny _ _ (Builtin.SmallTypes.ownedTupleHandOut (.ref z) (.ref g7.objs.size) >>= _) _ _ _
  refine wpAny_bind ?_
  unfold Builtin.SmallTypes.ownedTupleHandOut
  have hz8 : IsZip (g7.push { cls := .type "tuple", data := .seq #[x, y, u] }) z TI TO .ellipsis := Heap.get?_push_of_some _ hz7
  refine wpAny_bind (wpAny_setField_rec hz8 (by simp) fun g9 hz9 s9 => ?_)
  replace hz9 : IsZip g9 z TI TO (rawInt g7.objs.size) := hz9
  refine wpAny_setField_rec hz9 (by simp) fun g10 hz10 s10 => ?_
  replace hz10 : IsZip g10 z TI TO (rawInt g7.objs.size) := hz10
  have up : ∀ c o, c ≠ z → g7.get? c = some o → g10.get? c = some o := fun c o c1 e => s10.extBut _ _ c1 (s9.extBut _ _ c1 (Heap.get?_push_of_some _ e))
  have hT : IsTri g10 g7.objs.size x y u := s10.extBut _ _ (Nat.ne_of_gt hzlt) (s9.extBut _ _ (Nat.ne_of_gt hzlt) (Heap.get?_push_size _ rfl))
  have hs10 : g10.objs.size = g7.objs.size + 1 := by rw [s10.1, s9.1, Heap.size_push]
  rw [hsz] at hz10 hT hs10
  refine wpAny_pure ⟨_, rfl, ?_⟩
  show Q (.ref g7.objs.size) _
  rw [hsz]
  exact hQ g10 hz10 (up _ _ D.TOz to7) (it1'.at fun o e => up _ o D.i1z e) (it2'.at fun o e => up _ o D.i2z e) (it3'.at fun o e => up _ o D.i3z e) hT hs10 fun c o c1 c2 c3 c4 c5 e => up c o c1 (k7 c o c1 c3 c2 c4 c5 e)
theorem next_end {z TI TO i1 i2 i3 l1 l2 l3 : Addr} {k : Nat} {xs ys us : Array Value} {a b c : Value} {Q : Fin → Shared → Prop} (hh : A.handled = none) (D : Ap z TI TO i1 i2 i3 l1 l2 l3)
    (hz : IsZip s.heap z TI TO .none) (hTI : IsTri s.heap TI (.ref i1) (.ref i2) (.ref i3)) (hTO : IsTri s.heap TO a b c)
    (h1 : s.heap.IsListIter i1 l1 k) (h2 : s.heap.IsListIter i2 l2 k) (h3 : s.heap.IsListIter i3 l3 k) (hl1 : s.heap.IsList l1 xs) (hl2 : s.heap.IsList l2 ys) (hl3 : s.heap.IsList l3 us) (hend : xs[k]? = none ∨ ys[k]? = none ∨ us[k]? = none)
    (hE : ∀ h' e, (∀ c o, c ≠ z → c ≠ TO → c ≠ i1 → c ≠ i2 → c ≠ i3 → s.heap.get? c = some o → h'.get? c = some o) → (∃ o, h'.get? e = some o ∧ o.cls = .type "StopIteration") → E (.ref e) { s with heap := h' }) :
    wpAny (model prog w) A (Builtin.«zip.__next__» ⟨[.ref z], []⟩) Q E s := by
  show wpAny _ _ (field (.ref z) 2 >>= _) _ _ _
  refine wpAny_bind (wpAny_field hz rfl (x := .bool false) rfl ?_)
  show wpAny _ _ (field (.ref z) 3 >>= _) _ _ _
  refine wpAny_bind (wpAny_field hz rfl (x := .ref TI) rfl ?_)
  refine wpAny_bind (wpAny_seqItems hTI rfl ?_)
  show wpAny _ _ (Builtin.SmallTypes.ownedTupleIsFree (.ref z) >>= _) _ _ _
  refine wpAny_bind ?_
  unfold Builtin.SmallTypes.ownedTupleIsFree
  refine wpAny_bind (wpAny_field hz rfl (x := .none) rfl (wpAny_pure ?_))
  simp only [if_true]
  refine wpAny_bind (wpAny_rule ?_)
  refine wpAny_bind (wpAny_field hz rfl (x := .ref TO) rfl ?_)
  refine wpAny_bind (wpAny_setField_rec hz (by simp) fun g1 hz1 s1 => ?_)
  replace hz1 : IsZip g1 z TI TO .ellipsis := hz1
  have k1 : ∀ c o, c ≠ z → s.heap.get? c = some o → g1.get? c = some o := s1.extBut
  refine wpAny_bind ?_
  simp only [List.zipIdx_cons, List.zipIdx_nil, List.forIn_cons, List.forIn_nil]
  refine wpAny_bind (wpAny_bind (wpAny_onRaise ?_))
  show wpAny _ _ (Builtin.SmallTypes.nextOf (.ref i1) >>= _) _ _ _
  cases hx : xs[k]? with
  | none =>
    refine wpAny_bind (wpAny_nextOf_list_end hh (h1.at fun o e => k1 _ o D.i1z e) (hl1.at fun o e => k1 _ o D.n1.1 e) hx fun g2 e s2 he => ?_)
    obtain ⟨oe, hoe, hce⟩ := he
    have hz2 : IsZip g2 z TI TO .ellipsis := s2 _ _ D.i1z.symm hz1
    have hez : e ≠ z := fun q => by subst q; rw [hz2] at hoe; cases hoe; simp at hce
    refine wpAny_setField_rec hz2 (by simp) fun g3 _ s3 => hE g3 e (fun c o c1 _ c3 _ _ q => s3.extBut _ _ c1 (s2 _ _ c3 (k1 c o c1 q))) ⟨oe, s3.extBut _ _ hez hoe, hce⟩
  | some x =>
    refine wpAny_bind (wpAny_nextOf_list_item (h1.at fun o e => k1 _ o D.i1z e) (hl1.at fun o e => k1 _ o D.n1.1 e) hx fun g2 it1 s2 => wpAny_pure ?_)
    have k2 : ∀ c o, c ≠ z → c ≠ i1 → s.heap.get? c = some o → g2.get? c = some o := fun c o c1 c2 e => s2.extBut _ _ c2 (k1 c o c1 e)
    have to2 : IsTri g2 TO a b c := k2 _ _ D.TOz D.TOi1 hTO
    have hz2 : IsZip g2 z TI TO .ellipsis := s2.extBut _ _ D.i1z.symm hz1
    refine wpAny_bind (wpAny_seqItems to2 rfl ?_)
    refine wpAny_bind (upd3 to2 fun g3 to3 s3 => ?_)
    replace to3 : IsTri g3 TO x b c := to3
    have k3 : ∀ c o, c ≠ z → c ≠ i1 → c ≠ TO → s.heap.get? c = some o → g3.get? c = some o := fun c o c1 c2 c3 e => s3.extBut _ _ c3 (k2 c o c1 c2 e)
    have hz3 : IsZip g3 z TI TO .ellipsis := s3.extBut _ _ D.TOz.symm hz2
    refine wpAny_bind (wpAny_letGo (wpAny_pure ?_))
    refine wpAny_bind (wpAny_bind (wpAny_onRaise ?_))
    show wpAny _ _ (Builtin.SmallTypes.nextOf (.ref i2) >>= _) _ _ _
    cases hy : ys[k]? with
    | none =>
      refine wpAny_bind (wpAny_nextOf_list_end hh (h2.at fun o e => k3 _ o D.i2z D.i12.symm D.TOi2.symm e) (hl2.at fun o e => k3 _ o D.n2.1 D.n2.2.2.1 D.n2.2.1 e) hy fun g4 e s4 he => ?_)
      obtain ⟨oe, hoe, hce⟩ := he
      have hz4 : IsZip g4 z TI TO .ellipsis := s4 _ _ D.i2z.symm hz3
      have hez : e ≠ z := fun q => by subst q; rw [hz4] at hoe; cases hoe; simp at hce
      refine wpAny_setField_rec hz4 (by simp) fun g5 _ s5 => hE g5 e (fun c o c1 c2 c3 c4 _ q => s5.extBut _ _ c1 (s4 _ _ c4 (k3 c o c1 c3 c2 q))) ⟨oe, s5.extBut _ _ hez hoe, hce⟩
    | some y =>
      have hu : us[k]? = none := by rcases hend with h | h | h; rw [hx] at h; cases h; rw [hy] at h; cases h; exact h
      refine wpAny_bind (wpAny_nextOf_list_item (h2.at fun o e => k3 _ o D.i2z D.i12.symm D.TOi2.symm e) (hl2.at fun o e => k3 _ o D.n2.1 D.n2.2.2.1 D.n2.2.1 e) hy fun g4 it2 s4 => wpAny_pure ?_)
      have k4 : ∀ c o, c ≠ z → c ≠ i1 → c ≠ TO → c ≠ i2 → s.heap.get? c = some o → g4.get? c = some o := fun c o c1 c2 c3 c4 e => s4.extBut _ _ c4 (k3 c o c1 c2 c3 e)
      have to4 : IsTri g4 TO x b c := s4.extBut _ _ D.TOi2 to3
      have hz4 : IsZip g4 z TI TO .ellipsis := s4.extBut _ _ D.i2z.symm hz3
      refine wpAny_bind (wpAny_seqItems to4 rfl ?_)
      refine wpAny_bind (upd3 to4 fun g5 to5 s5 => ?_)
      have k5 : ∀ c o, c ≠ z → c ≠ i1 → c ≠ TO → c ≠ i2 → s.heap.get? c = some o → g5.get? c = some o := fun c o c1 c2 c3 c4 e => s5.extBut _ _ c3 (k4 c o c1 c2 c3 c4 e)
      have hz5 : IsZip g5 z TI TO .ellipsis := s5.extBut _ _ D.TOz.symm hz4
      refine wpAny_bind (wpAny_letGo (wpAny_pure ?_))
      refine wpAny_bind (wpAny_bind (wpAny_onRaise ?_))
      show wpAny _ _ (Builtin.SmallTypes.nextOf (.ref i3) >>= _) _ _ _
      refine wpAny_bind (wpAny_nextOf_list_end hh (h3.at fun o e => k5 _ o D.i3z D.i13.symm D.TOi3.symm D.i23.symm e) (hl3.at fun o e => k5 _ o D.n3.1 D.n3.2.2.1 D.n3.2.1 D.n3.2.2.2.1 e) hu fun g6 e s6 he => ?_)
      obtain ⟨oe, hoe, hce⟩ := he
      have hz6 : IsZip g6 z TI TO .ellipsis := s6 _ _ D.i3z.symm hz5
      have hez : e ≠ z := fun q => by subst q; rw [hz6] at hoe; cases hoe; simp at hce
      refine wpAny_setField_rec hz6 (by simp) fun g7 _ s7 => hE g7 e (fun c o c1 c2 c3 c4 c5 q => s7.extBut _ _ c1 (s6 _ _ c5 (k5 c o c1 c3 c2 c4 q))) ⟨oe, s7.extBut _ _ hez hoe, hce⟩
theorem pyNext_item {z TI TO i1 i2 i3 l1 l2 l3 : Addr} {k : Nat} {xs ys us : Array Value} {x y u a b c : Value} {Q : Option Value → Shared → Prop} (D : Ap z TI TO i1 i2 i3 l1 l2 l3)
    (hz : IsZip s.heap z TI TO .none) (hTI : IsTri s.heap TI (.ref i1) (.ref i2) (.ref i3)) (hTO : IsTri s.heap TO a b c)
    (h1 : s.heap.IsListIter i1 l1 k) (h2 : s.heap.IsListIter i2 l2 k) (h3 : s.heap.IsListIter i3 l3 k) (hl1 : s.heap.IsList l1 xs) (hl2 : s.heap.IsList l2 ys) (hl3 : s.heap.IsList l3 us) (hx : xs[k]? = some x) (hy : ys[k]? = some y) (hu : us[k]? = some u)
    (hQ : ∀ h', IsZip h' z TI TO (rawInt s.heap.objs.size) → IsTri h' TO x y u → h'.IsListIter i1 l1 (k + 1) → h'.IsListIter i2 l2 (k + 1) → h'.IsListIter i3 l3 (k + 1) → IsTri h' s.heap.objs.size x y u → h'.objs.size = s.heap.objs.size + 1 →
      (∀ c o, c ≠ z → c ≠ TO → c ≠ i1 → c ≠ i2 → c ≠ i3 → s.heap.get? c = some o → h'.get? c = some o) → Q (some (.ref s.heap.objs.size)) { s with heap := h' }) :
    wpAny (model prog w) A (pyNext (.ref z)) Q E s := by
  have hT : s.TypeIs (.ref z) "zip" := ⟨_, hz, rfl⟩
  unfold pyNext
  exact wpAny_bind (wpAny_attempt (wpAny_callSpecial?_slot (name := Str.ofString "__next__") hT F.slot_zip_next
    (wpAny_call_entry F.slot_zip_next hT F.entry_zip_next
      (next_item D hz hTI hTO h1 h2 h3 hl1 hl2 hl3 hx hy hu fun h' a1 a2 a3 a4 a5 a6 a7 a8 => wpAny_pure (hQ h' a1 a2 a3 a4 a5 a6 a7 a8)) (F.args_zip_next_1 _))))
theorem pyNext_end {z TI TO i1 i2 i3 l1 l2 l3 : Addr} {k : Nat} {xs ys us : Array Value} {a b c : Value} {Q : Option Value → Shared → Prop} (hh : A.handled = none) (D : Ap z TI TO i1 i2 i3 l1 l2 l3)
    (hz : IsZip s.heap z TI TO .none) (hTI : IsTri s.heap TI (.ref i1) (.ref i2) (.ref i3)) (hTO : IsTri s.heap TO a b c)
    (h1 : s.heap.IsListIter i1 l1 k) (h2 : s.heap.IsListIter i2 l2 k) (h3 : s.heap.IsListIter i3 l3 k) (hl1 : s.heap.IsList l1 xs) (hl2 : s.heap.IsList l2 ys) (hl3 : s.heap.IsList l3 us) (hend : xs[k]? = none ∨ ys[k]? = none ∨ us[k]? = none)
    (hQ : ∀ h', (∀ c o, c ≠ z → c ≠ TO → c ≠ i1 → c ≠ i2 → c ≠ i3 → s.heap.get? c = some o → h'.get? c = some o) → Q none { s with heap := h' }) : wpAny (model prog w) A (pyNext (.ref z)) Q E s := by
  have hT : s.TypeIs (.ref z) "zip" := ⟨_, hz, rfl⟩
  unfold pyNext
  refine wpAny_bind (wpAny_attempt (wpAny_callSpecial?_slot (name := Str.ofString "__next__") hT F.slot_zip_next
    (wpAny_call_entry F.slot_zip_next hT F.entry_zip_next (next_end hh D hz hTI hTO h1 h2 h3 hl1 hl2 hl3 hend fun h' e hk he => ?_) (F.args_zip_next_1 _))))
  obtain ⟨o, ho, hc⟩ := he
  refine wpAny_bind (wpAny_isInstance (T := "StopIteration") (b := true) ⟨o, ho, hc⟩ isSubtype_stop ?_)
  exact wpAny_pure (hQ _ hk)
end
abbrev q1 (h : Heap) (l1 : Addr) : Heap := h.push { cls := .type "list_iterator", data := .fields #[.ref l1, .int 0 0] }
abbrev q2 (h : Heap) (l1 l2 : Addr) : Heap := (q1 h l1).push { cls := .type "list_iterator", data := .fields #[.ref l2, .int 0 0] }
abbrev q3 (h : Heap) (l1 l2 l3 : Addr) : Heap := (q2 h l1 l2).push { cls := .type "list_iterator", data := .fields #[.ref l3, .int 0 0] }
abbrev q4 (h : Heap) (l1 l2 l3 : Addr) : Heap := (q3 h l1 l2 l3).push { cls := .type "tuple", data := .seq #[.ref h.objs.size, .ref (q1 h l1).objs.size, .ref (q2 h l1 l2).objs.size] }
abbrev q5 (h : Heap) (l1 l2 l3 : Addr) : Heap := (q4 h l1 l2 l3).push { cls := .type "tuple", data := .seq #[.none, .none, .none] }
abbrev q6 (h : Heap) (l1 l2 l3 : Addr) : Heap := (q5 h l1 l2 l3).push { cls := .type "zip", data := .fields #[.none, .bool false, .bool false, .ref (q3 h l1 l2 l3).objs.size, .ref (q4 h l1 l2 l3).objs.size] }
theorem meets_new (l1 l2 l3 : Addr) (xs ys us : Array Value) :
    Meets (Builtin.«zip.__new__» ⟨[.type "zip", .ref l1, .ref l2, .ref l3], []⟩) (fun _ R s => s.heap.IsList l1 xs ∧ s.heap.IsList l2 ys ∧ s.heap.IsList l3 us ∧
      R (.ok (.ret (.ref (q5 s.heap l1 l2 l3).objs.size))) { s with heap := q6 s.heap l1 l2 l3 }) :=
  .of_wp fun prog w A R s h => by
    obtain ⟨hp, g, d, tk, os⟩ := s; obtain ⟨hl1, hl2, hl3, h⟩ := h
    have hsub := sub_zip
    have hL1 : Heap.IsList (Shared.heap ⟨hp, g, d, tk, os⟩) l1 xs := hl1
    have hL2 : Heap.IsList (Shared.heap ⟨hp.push { cls := .type "list_iterator", data := .fields #[.ref l1, .int 0 0] }, g, d, tk, os⟩) l2 ys := Heap.IsList.push hl2 _
    have hL3 : Heap.IsList (Shared.heap ⟨(hp.push { cls := .type "list_iterator", data := .fields #[.ref l1, .int 0 0] }).push { cls := .type "list_iterator", data := .fields #[.ref l2, .int 0 0] }, g, d, tk, os⟩) l3 us := Heap.IsList.push (Heap.IsList.push hl3 _) _
    wp_walk using wpAny_pyIter_list hL1, wpAny_pyIter_list hL2, wpAny_pyIter_list hL3
    exact ⟨_, rfl, h⟩
section
variable {prog : Program} {w : World} {A : Around} {E : Value → Shared → Prop} {s : Shared}
theorem call3 {l1 l2 l3 : Addr} {xs ys us : Array Value} {Q : Value → Shared → Prop} (hl1 : s.heap.IsList l1 xs) (hl2 : s.heap.IsList l2 ys) (hl3 : s.heap.IsList l3 us)
    (h : ∀ h', IsZip h' (s.heap.objs.size + 5) (s.heap.objs.size + 3) (s.heap.objs.size + 4) .none → IsTri h' (s.heap.objs.size + 3) (.ref s.heap.objs.size) (.ref (s.heap.objs.size + 1)) (.ref (s.heap.objs.size + 2)) →
      IsTri h' (s.heap.objs.size + 4) .none .none .none → h'.IsListIter s.heap.objs.size l1 0 → h'.IsListIter (s.heap.objs.size + 1) l2 0 → h'.IsListIter (s.heap.objs.size + 2) l3 0 → h'.objs.size = s.heap.objs.size + 6 →
      (∀ c o, s.heap.get? c = some o → h'.get? c = some o) → Q (.ref (s.heap.objs.size + 5)) { s with heap := h' }) :
    wpAny (model prog w) A (call (.type "zip") [.ref l1, .ref l2, .ref l3]) Q E s := by
  refine callType_new F.called_zip (by decide) (typeCall3 _ _ _) (newCall3 _ _ _) (fun obj => args_init4 obj _ _ _) F.entry_zip_new
    (meets_new l1 l2 l3 xs ys us) ⟨hl1, hl2, hl3, ?_⟩
  have z1 : (q1 s.heap l1).objs.size = s.heap.objs.size + 1 := Heap.size_push ..
  have z2 : (q2 s.heap l1 l2).objs.size = s.heap.objs.size + 2 := by rw [Heap.size_push, z1]
  have z3 : (q3 s.heap l1 l2 l3).objs.size = s.heap.objs.size + 3 := by rw [Heap.size_push, z2]
  have z4 : (q4 s.heap l1 l2 l3).objs.size = s.heap.objs.size + 4 := by rw [Heap.size_push, z3]
  have z5 : (q5 s.heap l1 l2 l3).objs.size = s.heap.objs.size + 5 := by rw [Heap.size_push, z4]
  have z6 : (q6 s.heap l1 l2 l3).objs.size = s.heap.objs.size + 6 := by rw [Heap.size_push, z5]
  have g6 : (q6 s.heap l1 l2 l3).get? (q5 s.heap l1 l2 l3).objs.size = some _ := Heap.get?_push_size _ rfl
  have g5 : (q6 s.heap l1 l2 l3).get? (q4 s.heap l1 l2 l3).objs.size = some _ := Heap.get?_push_of_some _ (Heap.get?_push_size _ rfl)
  have g4 : (q6 s.heap l1 l2 l3).get? (q3 s.heap l1 l2 l3).objs.size = some _ := Heap.get?_push_of_some _ (Heap.get?_push_of_some _ (Heap.get?_push_size _ rfl))
  have g3 : (q6 s.heap l1 l2 l3).get? (q2 s.heap l1 l2).objs.size = some _ := Heap.get?_push_of_some _ (Heap.get?_push_of_some _ (Heap.get?_push_of_some _ (Heap.get?_push_size _ rfl)))
  have g2 : (q6 s.heap l1 l2 l3).get? (q1 s.heap l1).objs.size = some _ := Heap.get?_push_of_some _ (Heap.get?_push_of_some _ (Heap.get?_push_of_some _ (Heap.get?_push_of_some _ (Heap.get?_push_size _ rfl))))
  have g1 : (q6 s.heap l1 l2 l3).get? s.heap.objs.size = some _ := Heap.get?_push_of_some _ (Heap.get?_push_of_some _ (Heap.get?_push_of_some _ (Heap.get?_push_of_some _ (Heap.get?_push_of_some _ (Heap.get?_push_size _ rfl)))))
  show _ ∧ _
  rw [z3, z4, z5] at g6
  rw [z1, z2, z3] at g4
  rw [z4] at g5
  rw [z2] at g3
  rw [z1] at g2
  rw [z5]
  exact ⟨⟨_, g6, rfl⟩, h _ g6 g4 g5 ⟨_, g1, rfl, rfl⟩ ⟨_, g2, rfl, rfl⟩ ⟨_, g3, rfl, rfl⟩ z6 fun c o x =>
    Heap.get?_push_of_some _ (Heap.get?_push_of_some _ (Heap.get?_push_of_some _ (Heap.get?_push_of_some _ (Heap.get?_push_of_some _ (Heap.get?_push_of_some _ x)))))⟩
end
end Z3

set_option Elab.async false
set_option linter.all false
set_option maxRecDepth 100000
set_option maxHeartbeats 4000000
/-! zip of three lists, in the value layer -/
namespace PV
open PySem L2 Z3 PyProof.Rows
theorem ap_new (n a b c : Nat) (ha : a < n) (hb : b < n) (hc : c < n) : Ap (n + 5) (n + 3) (n + 4) n (n + 1) (n + 2) a b c := by
  constructor <;> (first | (show (_ : Nat) ≠ (_ : Nat); omega) | (refine ⟨?_, ?_, ?_, ?_, ?_⟩ <;> (show (_ : Nat) ≠ (_ : Nat); omega)))
/-- the lists at a, b and c as they stand at each turn, the items in new tuples -/
def Itz3 (K : PySem.W.Frag) (a b c : Addr) : It :=
  ⟨fun i H => ∃ (xs ys us : List V) (x y u : V), SqL K H a xs ∧ SqL K H b ys ∧ SqL K H c us ∧ xs[i]? = some x ∧ ys[i]? = some y ∧ us[i]? = some u,
    fun i H v H' => ∃ T x y u, v = .ref T ∧ H T = none ∧ H' = upd H T (.tup [x, y, u]) ∧ (∀ xs, SqL K H a xs → xs[i]? = some x) ∧ (∀ ys, SqL K H b ys → ys[i]? = some y) ∧ ∀ us, SqL K H c us → us[i]? = some u,
    fun i H => ∃ xs ys us : List V, SqL K H a xs ∧ SqL K H b ys ∧ SqL K H c us ∧ (xs.length ≤ i ∨ ys.length ≤ i ∨ us.length ≤ i)⟩
theorem turn_zip3 {P : Program} {w : World} {K : PySem.W.Frag} {elts : List Expr} {kk : Nat} {tpos : Pos} {a b c z TI TO i1 i2 i3 : Addr} (D : Ap z TI TO i1 i2 i3 a b c) :
    Turn P w K (.Tuple elts kk tpos) (Itz3 K a b c) [z, TI, TO, i1, i2, i3] z (fun i h => IsZip h z TI TO .none ∧ IsTri h TI (.ref i1) (.ref i2) (.ref i3) ∧ (∃ x y u, IsTri h TO x y u) ∧ h.IsListIter i1 a i ∧ h.IsListIter i2 b i ∧ h.IsListIter i3 c i) where
  mem := by simp
  obj := fun i h st c hc => by
    obtain ⟨hz, hTI, ⟨x, y, u, hTO⟩, ⟨o1, e1, _, d1⟩, ⟨o2, e2, _, d2⟩, ⟨o3, e3, _, d3⟩⟩ := st
    have e' : c = z ∨ c = TI ∨ c = TO ∨ c = i1 ∨ c = i2 ∨ c = i3 := by simpa using hc
    rcases e' with q | q | q | q | q | q
    · rw [q]; exact ⟨_, hz, fun v q => nomatch q⟩
    · rw [q]; exact ⟨_, hTI, fun v q => nomatch q⟩
    · rw [q]; exact ⟨_, hTO, fun v q => nomatch q⟩
    · rw [q]; exact ⟨o1, e1, fun v q => by rw [d1] at q; cases q⟩
    · rw [q]; exact ⟨o2, e2, fun v q => by rw [d2] at q; cases q⟩
    · rw [q]; exact ⟨o3, e3, fun v q => by rw [d3] at q; cases q⟩
  keep := fun i h h' st k => by
    obtain ⟨hz, hTI, ⟨x, y, u, hTO⟩, h1, h2, h3⟩ := st
    exact ⟨k z (by simp) _ hz, k TI (by simp) _ hTI, ⟨x, y, u, k TO (by simp) _ hTO⟩, h1.at fun o q => k i1 (by simp) o q, h2.at fun o q => k i2 (by simp) o q, h3.at fun o q => k i3 (by simp) o q⟩
  item := by
    intro X hP hw hK hc i pins s σ H E I hf st hg
    subst hP hw hK
    obtain ⟨hz, hTI, ⟨x0, y0, u0, hTO⟩, h1, h2, h3⟩ := st
    obtain ⟨xs, ys, us, x, y, u, hqx, hqy, hqu, hx, hy, hu⟩ := hg
    obtain ⟨its, rv, p, _⟩ := I.list hqx
    obtain ⟨its2, rv2, p2, _⟩ := I.list hqy
    obtain ⟨its3, rv3, p3, _⟩ := I.list hqu
    obtain ⟨v1, hv1, r1⟩ := rv.get hx
    obtain ⟨v2, hv2, r2⟩ := rv2.get hy
    obtain ⟨v3, hv3, r3⟩ := rv3.get hu
    have hzl : z < s.heap.objs.size := Heap.lt_size hz
    refine pyNext_item D hz hTI hTO h1 h2 h3 p.isList p2.isList p3.isList (x := v1) (y := v2) (u := v3) (by simpa using hv1) (by simpa using hv2) (by simpa using hv3) fun h' z' TO' h1' h2' h3' hT hsz hk => ?_
    refine ⟨_, rfl, wpAny_letOwnedTupleGo_zip (s := { s with heap := h' }) z' fun h'' z'' sb => ?_⟩
    have hT2 : h''.get? s.heap.objs.size = some { cls := .type "tuple", data := .seq #[v1, v2, v3] } := (sb.2 _ (Nat.ne_of_gt hzl)).trans hT
    have new : ObjOk X.prog X.w (upd H s.heap.objs.size (.tup [x, y, u])) h'' s.heap.objs.size (.tup [x, y, u]) :=
      ⟨by show 3 ≤ sizeLine; decide, [v1, v2, v3], .cons r1 (.cons r2 (.cons r3 .nil)), ⟨_, hT2, rfl, _, rfl⟩⟩
    have I1 : Inv X pins σ (upd H s.heap.objs.size (.tup [x, y, u])) { s with heap := h'' } :=
      I.turnedNew (t' := s.toks) (ch := [z, TI, TO, i1, i2, i3]) (fun c o hb q => (sb.2 c (fun q' => hb (by simp [q']))).trans (hk c o (fun q' => hb (by simp [q'])) (fun q' => hb (by simp [q'])) (fun q' => hb (by simp [q'])) (fun q' => hb (by simp [q'])) (fun q' => hb (by simp [q'])) q)) hf (Nat.le_refl _) new
    refine ⟨.ref s.heap.objs.size, _, I1, rfl, ⟨_, x, y, u, rfl, I.hok.fresh (Nat.le_refl _), rfl, fun l hl => by rw [I.list_inj hl hqx]; exact hx, fun l hl => by rw [I.list_inj hl hqy]; exact hy, fun l hl => by rw [I.list_inj hl hqu]; exact hu⟩, ⟨z'', ?_, ⟨v1, v2, v3, ?_⟩, ?_, ?_, ?_⟩, fun c hcm => ?_⟩
    · exact (sb.2 _ D.nTI.1).trans (hk _ _ D.nTI.1 D.nTI.2.1 D.nTI.2.2.1 D.nTI.2.2.2.1 D.nTI.2.2.2.2 hTI)
    · exact (sb.2 _ D.TOz).trans TO'
    · exact h1'.at fun o q => (sb.2 _ D.i1z).trans q
    · exact h2'.at fun o q => (sb.2 _ D.i2z).trans q
    · exact h3'.at fun o q => (sb.2 _ D.i3z).trans q
    · have hlt : c < s.heap.objs.size := by
        have e' : c = z ∨ c = TI ∨ c = TO ∨ c = i1 ∨ c = i2 ∨ c = i3 := by simpa using hcm
        rcases e' with q | q | q | q | q | q
        · rw [q]; exact hzl
        · rw [q]; exact Heap.lt_size hTI
        · rw [q]; exact Heap.lt_size hTO
        · rw [q]; obtain ⟨_, e1, _⟩ := h1; exact Heap.lt_size e1
        · rw [q]; obtain ⟨_, e2, _⟩ := h2; exact Heap.lt_size e2
        · rw [q]; obtain ⟨_, e3, _⟩ := h3; exact Heap.lt_size e3
      rw [upd_ne (Nat.ne_of_lt hlt)]
      exact (hf c hcm).1
  done := by
    intro X hP hw hK hc i pins s σ H E I hf st hg
    subst hP hw hK
    obtain ⟨hz, hTI, ⟨x0, y0, u0, hTO⟩, h1, h2, h3⟩ := st
    obtain ⟨xs, ys, us, hqx, hqy, hqu, hend⟩ := hg
    obtain ⟨its, rv, p, _⟩ := I.list hqx
    obtain ⟨its2, rv2, p2, _⟩ := I.list hqy
    obtain ⟨its3, rv3, p3, _⟩ := I.list hqu
    have l1 := rv.length
    have l2 := rv2.length
    have l3 := rv3.length
    have he : its.toArray[i]? = none ∨ its2.toArray[i]? = none ∨ its3.toArray[i]? = none := by
      rcases hend with q | q | q
      · exact .inl (by simp; omega)
      · exact .inr (.inl (by simp; omega))
      · exact .inr (.inr (by simp; omega))
    exact pyNext_end (I.ok.hd hc) D hz hTI hTO h1 h2 h3 p.isList p2.isList p3.isList he fun h' hk => ⟨rfl, I.turnedL (t' := s.toks) (ch := [z, TI, TO, i1, i2, i3]) (fun c o hb q =>
      hk c o (fun q' => hb (by simp [q'])) (fun q' => hb (by simp [q'])) (fun q' => hb (by simp [q'])) (fun q' => hb (by simp [q'])) (fun q' => hb (by simp [q'])) q) hf⟩
  self := fun A i s Q E st h => wpAny_pyIter_zip st.1 h
def iZip3 (K : PySem.W.Frag) (ta : TA) : TI := fun σ H R => ta σ H fun vs H1 => ∃ a b c xs ys us, vs = [.ref a, .ref b, .ref c] ∧ SqL K H1 a xs ∧ SqL K H1 b ys ∧ SqL K H1 c us ∧ R (Itz3 K a b c) H1
theorem pi_zip3 {X : Cx} {e e2 e3 : Expr} {ta : TA} {p pos tpos : Pos} {elts : List Expr} {kk : Nat} (hg : Gl X "zip") (hm : X.mg "zip" = none) (ha : PA X [e, e2, e3] ta)
    (hs : starEach [e, e2, e3] X.env = (false, eval e X.env) :: starEach [e2, e3] X.env := by rfl) (hpl : (backTo pos (starEach [e2, e3] X.env)).any (·.1) = false := by rfl) :
    PI X (.Tuple elts kk tpos) (.Call (.Name "zip" p) [e, e2, e3] [] pos) (iZip3 X.K ta) := by
  refine ⟨fun pins s σ H R I h => ?_⟩
  refine Call_ (ld_blt I hg hm PyProof.Rows.boot_zip (PyProof.Rows.callWith_type1 (thn (ha.run pos pins s σ H _ I h) fun us s1 ⟨vs, H1, I1, r1, q1⟩ => ?_) hs hpl))
  obtain ⟨a, b, c, xs, ys, us, ex, hqx, hqy, hqu, q⟩ := q1
  subst ex
  cases r1 with
  | cons r rr =>
    cases rr with
    | cons r' rr =>
      cases rr with
      | cons r'' rr =>
        cases rr
        cases r
        cases r'
        cases r''
        obtain ⟨its, rv, p1, _⟩ := I1.list hqx
        obtain ⟨its2, rv2, p2, _⟩ := I1.list hqy
        obtain ⟨its3, rv3, p3, _⟩ := I1.list hqu
        have la : a < s1.heap.objs.size := p1.lt
        have lb : b < s1.heap.objs.size := p2.lt
        have lc : c < s1.heap.objs.size := p3.lt
        refine call3 p1.isList p2.isList p3.isList fun h' hz hTI hTO h1 h2 h3 hsz hk => wpAny_pyIter_zip hz ?_
        have I2 : Inv X pins σ H1 { s1 with heap := h' } := I1.kept (t' := s1.toks) hk
        refine ⟨s1.heap.objs.size + 5, [s1.heap.objs.size + 5, s1.heap.objs.size + 3, s1.heap.objs.size + 4, s1.heap.objs.size, s1.heap.objs.size + 1, s1.heap.objs.size + 2], _, _, H1, rfl, I2, turn_zip3 (ap_new s1.heap.objs.size a b c la lb lc), ⟨hz, hTI, ⟨_, _, _, hTO⟩, h1, h2, h3⟩, fun c hcm => ?_, q⟩
        have e' : c = s1.heap.objs.size + 5 ∨ c = s1.heap.objs.size + 3 ∨ c = s1.heap.objs.size + 4 ∨ c = s1.heap.objs.size ∨ c = s1.heap.objs.size + 1 ∨ c = s1.heap.objs.size + 2 := by simpa using hcm
        have hle : s1.heap.objs.size ≤ c := by
          rcases e' with z | z | z | z | z | z
          · rw [z]; exact Nat.le_add_right _ _
          · rw [z]; exact Nat.le_add_right _ _
          · rw [z]; exact Nat.le_add_right _ _
          · rw [z]; exact Nat.le_refl _
          · rw [z]; exact Nat.le_add_right _ _
          · rw [z]; exact Nat.le_add_right _ _
        exact I1.fpOk hle (I1.hok.fresh hle)
def zipL3 : List Va → List Va → List Va → List Va
  | x :: r, y :: t, u :: q => .tup [x, y, u] :: zipL3 r t q
  | _, _, _ => []
theorem zipL3_get : ∀ (l m n : List Va) (i : Nat) (z : Va), (zipL3 l m n)[i]? = some z → ∃ x y u, l[i]? = some x ∧ m[i]? = some y ∧ n[i]? = some u ∧ z = .tup [x, y, u]
  | [], _, _, i, z, h => by simp [zipL3] at h
  | _ :: _, [], _, i, z, h => by simp [zipL3] at h
  | _ :: _, _ :: _, [], i, z, h => by simp [zipL3] at h
  | x :: r, y :: t, u :: q, 0, z, h => by simp [zipL3] at h; exact ⟨x, y, u, rfl, rfl, rfl, h.symm⟩
  | x :: r, y :: t, u :: q, i + 1, z, h => by
    rw [zipL3, List.getElem?_cons_succ] at h
    obtain ⟨x', y', u', h1, h2, h3, h4⟩ := zipL3_get r t q i z h
    exact ⟨x', y', u', by rw [List.getElem?_cons_succ]; exact h1, by rw [List.getElem?_cons_succ]; exact h2, by rw [List.getElem?_cons_succ]; exact h3, h4⟩
theorem zipL3_len : ∀ (l m n : List Va), (zipL3 l m n).length = min l.length (min m.length n.length)
  | [], _, _ => by simp [zipL3]
  | _ :: _, [], _ => by simp [zipL3]
  | _ :: _, _ :: _, [] => by simp [zipL3]
  | x :: r, y :: t, u :: q => by
    rw [zipL3, List.length_cons, List.length_cons, List.length_cons, List.length_cons, zipL3_len r t q]
    omega
def itZp3 (e : SE) : SI := fun s M => match e s M with
  | none => none
  | some (.val (.tup [v, u, y]), M1) => (match lstOf M1 v, lstOf M1 u, lstOf M1 y with
    | some l, some m, some n => some (.it (zipL3 l m n) (fun M => lstOf M v = some l ∧ lstOf M u = some m ∧ lstOf M y = some n), M1)
    | _, _, _ => none)
  | some (.val _, _) => none
  | some (.exc c v, M1) => some (.exc c v, M1)
theorem three_of {G : Sig} {R : Hp} {ρ : List Addr} {x y z : Va} {vs : List V} (r : VRs G R ρ [x, y, z] vs) : ∃ v u t, vs = [v, u, t] ∧ VR G R ρ x v ∧ VR G R ρ y u ∧ VR G R ρ z t := by
  cases r with
  | cons r t =>
    obtain ⟨u, q, rfl, r1, r2⟩ := two_of t
    exact ⟨_, u, q, rfl, r, r1, r2⟩
section
variable {X : Cx} {G : Sig} {E : XK} {ee : SE} {e e2 e3 : Expr} {pos : Pos}
theorem qi_zip3 {p tpos : Pos} {elts : List Expr} {kk : Nat} (hK : X.K = G.K) (hg : Gl X "zip") (hm : X.mg "zip" = none) (ha : PA X [e, e2, e3] (tA G E ee))
    (hs : starEach [e, e2, e3] X.env = (false, eval e X.env) :: starEach [e2, e3] X.env := by rfl) (hpl : (backTo pos (starEach [e2, e3] X.env)).any (·.1) = false := by rfl) :
    PI X (.Tuple elts kk tpos) (.Call (.Name "zip" p) [e, e2, e3] [] pos) (tI G E (itZp3 ee)) :=
  pi_imp (pi_zip3 hg hm ha hs hpl) fun σ H Q ⟨R, ρ, s, M, w, sr, p⟩ => by
    refine ⟨R, ρ, s, M, w, sr, ?_⟩
    unfold itZp3 at p
    rcases q : ee s M with _ | ⟨x | ⟨c, x⟩, M1⟩ <;> rw [q] at p
    · exact p
    · split at p
      · rename_i h; cases h
      · rename_i v u y M2 h
        cases h
        intro R1 ρ1 H1 vs e1 w1 r1
        obtain ⟨xv, yv, zv, rfl, rx, ry, rz⟩ := three_of r1
        split at p
        · rename_i l m n q2 q3 q4
          obtain ⟨ad, vs, rfl, hv, rv, hz⟩ := lst_read w1 rx q2
          obtain ⟨bd, us, rfl, hu, ru, hy⟩ := lst_read w1 ry q3
          obtain ⟨cd, ts, rfl, ht, rt, hx⟩ := lst_read w1 rz q4
          refine ⟨ad, bd, cd, vs, us, ts, rfl, by rw [hK]; exact hv, by rw [hK]; exact hu, by rw [hK]; exact ht, p R1 ρ1 H1 (Itz3 X.K ad bd cd) e1 w1 (by rw [zipL3_len]; omega) fun R2 ρ2 M2 H2 g2 w2 ck => ?_⟩
          obtain ⟨ad', vs', e', hv', rv', _⟩ := lst_read w2 (rx.mono g2) ck.1
          cases e'
          obtain ⟨bd', us', e'', hu', ru', _⟩ := lst_read w2 (ry.mono g2) ck.2.1
          cases e''
          obtain ⟨cd', ts', e''', ht', rt', _⟩ := lst_read w2 (rz.mono g2) ck.2.2
          cases e'''
          rw [hK]
          refine ⟨fun i z hz => ?_, fun i hi => ⟨vs', us', ts', hv', hu', ht', by rw [← rv'.length, ← ru'.length, ← rt'.length]; rw [zipL3_len] at hi; omega⟩⟩
          obtain ⟨x, y, u, hx, hy, hu2, rfl⟩ := zipL3_get l m n i z hz
          obtain ⟨xu, hxu, rxu⟩ := rv'.get hx
          obtain ⟨yu, hyu, ryu⟩ := ru'.get hy
          obtain ⟨zu, hzu, rzu⟩ := rt'.get hu2
          refine ⟨⟨vs', us', ts', xu, yu, zu, hv', hu', ht', hxu, hyu, hzu⟩, fun v H' ⟨T, x', y', z', e3, hT, h3, h4, h5, h6⟩ => ?_⟩
          subst e3 h3
          have a1 := h4 vs' hv'
          have a2 := h5 us' hu'
          have a3 := h6 ts' ht'
          rw [hxu] at a1
          rw [hyu] at a2
          rw [hzu] at a3
          cases a1
          cases a2
          cases a3
          obtain ⟨ex, wd⟩ := alloc_frz (o := .tup [xu, yu, zu]) w2 hT
          exact ⟨_, ex, wd, .tup upd_same (by show 3 ≤ sizeLine; decide) (.cons (rxu.mono ex.gr) (.cons (ryu.mono ex.gr) (.cons (rzu.mono ex.gr) .nil)))⟩
        · exact p.elim
      · exact p.elim
      · rename_i h; cases h
    · exact p
end
end PV

set_option Elab.async false
set_option linter.all false
set_option maxRecDepth 100000
set_option maxHeartbeats 4000000
namespace PV
open PySem PySem.Spec L2
open PyProof.Rows

/-! ### what raises nothing, beside what does -/
def noX (r : Res) : Res := match r with
  | some (.exc _ _, _) => none
  | r => r
def evNo (e : SE) : SE := fun s M => noX (e s M)
def stNo (e : SS) : SS := fun s M => match e s M with
  | some (.exc _ _, _, _) => none
  | r => r
section
variable {X : Cx} {G : Sig} {E : XK} {a : Expr} {es : List Expr} {st : Stmt} {ea : SE} {sa : SS}
theorem q_no (h : PE X a (tE G E0 ea)) : PE X a (tE G E (evNo ea)) := pe_imp h fun σ H Q ⟨R, ρ, s, M, w, sr, p⟩ => by
  refine ⟨R, ρ, s, M, w, sr, ?_⟩
  unfold evNo noX at p
  rcases q : ea s M with _ | ⟨x | ⟨c, x⟩, M1⟩ <;> rw [q] at p
  · exact p
  · exact p
  · exact p.elim
theorem qa_no (h : PA X es (tA G E0 ea)) : PA X es (tA G E (evNo ea)) := pa_imp h fun σ H Q ⟨R, ρ, s, M, w, sr, p⟩ => by
  refine ⟨R, ρ, s, M, w, sr, ?_⟩
  unfold evNo noX at p
  rcases q : ea s M with _ | ⟨x | ⟨c, x⟩, M1⟩ <;> rw [q] at p
  · exact p
  · cases x <;> first | exact p | exact p.elim
  · exact p.elim
theorem qt_no (h : PT X a (tT G E0 ea)) : PT X a (tT G E (evNo ea)) := pt_imp h fun σ H Q ⟨R, ρ, s, M, w, sr, p⟩ => by
  refine ⟨R, ρ, s, M, w, sr, ?_⟩
  unfold evNo noX at p
  rcases q : ea s M with _ | ⟨x | ⟨c, x⟩, M1⟩ <;> rw [q] at p
  · exact p
  · cases x <;> first | exact p | exact p.elim
  · exact p.elim
theorem qs_no (h : PS X st (tS G E0 sa)) : PS X st (tS G E (stNo sa)) := ps_imp h fun D σ H ⟨R, ρ, s, M, w, sr, p⟩ => by
  refine ⟨R, ρ, s, M, w, sr, ?_⟩
  unfold stNo at p
  rcases q : sa s M with _ | ⟨_ | x | _ | _ | ⟨c, x⟩, s1, M1⟩ <;> rw [q] at p
  · exact p
  · exact p
  · exact p
  · exact p
  · exact p
  · exact p.elim
end
theorem x_no {e : SE} {s : SL} {M M1 : Store} {v : Va} (h : e s M = some (.val v, M1)) : evNo e s M = some (.val v, M1) := by
  unfold evNo
  rw [h]
  rfl
theorem x_stNo {e : SS} {s s1 : SL} {M M1 : Store} (h : e s M = some (.nx, s1, M1)) : stNo e s M = some (.nx, s1, M1) := by
  unfold stNo
  rw [h]
theorem x_stRet {e : SS} {s s1 : SL} {M M1 : Store} {v : Va} (h : e s M = some (.ret v, s1, M1)) : stNo e s M = some (.ret v, s1, M1) := by
  unfold stNo
  rw [h]

/-! ### a def that may raise -/
def spE (G : Sig) (n : Nat) (f : FM) : Sp := fun vs H Q E => vs.length = n ∧ ∃ R ρ M l, Wd G R ρ M H ∧ VRs G R ρ l vs ∧ Post G R ρ H (f l M) Q E
abbrev Tk (X : Cx) (E : XK) : Prop := Takes X (fun cls d _ H => E cls d H)
section
variable {P : Program} {w : World} {K : PySem.W.Frag} {mg : Str → Option Value} {base : Heap} {G : Sig}
theorem ok_fnE {x qual : Str} {st : Stmt} {f : Addr} {fd : FuncData} {N ps : List Str} {k : Nat} {es : SS} (F : Fun K x qual st f fd) (S : FnScope N ps (defScope st))
    (hb : ∀ (cdv : Value) (A : Around) (outer : List Env) (s : Shared) (H : Hp) (E : XK), Room k (A.deeper (envOfC qual (defScope st) s.heap.objs.size f cdv)) → A.guards = some [] →
      PSs (cxOf (L2.CX P w) P w K mg base N qual (defScope st) f cdv A outer s H E) (defBody st) (tS G E es)) : FnG P w K mg base (L2.CX P w) (k + 1) f fd ps (spE G ps.length (runF N.length es)) :=
  fnG_of F S (fun vs H Q E h => h.1) fun cdv A outer s H vs Q E hr hg ⟨hl, R, ρ, M, l, wd, r, p⟩ =>
    ⟨_, hb cdv A outer s H E hr hg, R, ρ, startI N.length l, M, wd, sr_start r, post_end p⟩
theorem tk_of {N : List Str} {qual : Str} {scope : Scope} {f : Addr} {cd : Value} {A : Around} {outer : List Env} {s : Shared} {H : Hp} {E : XK} : Tk (cxOf (L2.CX P w) P w K mg base N qual scope f cd A outer s H E) E :=
  takes_of rfl rfl rfl rfl
theorem po_of {N : List Str} {qual : Str} {scope : Scope} {f : Addr} {cd : Value} {A : Around} {outer : List Env} {s : Shared} {H : Hp} {E : XK} :
    PassesOwn (model (cxOf (L2.CX P w) P w K mg base N qual scope f cd A outer s H E).prog (cxOf (L2.CX P w) P w K mg base N qual scope f cd A outer s H E).w) (cxOf (L2.CX P w) P w K mg base N qual scope f cd A outer s H E).A (cxOf (L2.CX P w) P w K mg base N qual scope f cd A outer s H E).env (cxOf (L2.CX P w) P w K mg base N qual scope f cd A outer s H E).xe := passes_of rfl
end
structure CalE (P : Program) (w : World) (K : PySem.W.Frag) (mg : Str → Option Value) (base : Heap) (G : Sig) (x : Str) (lv n : Nat) (fM : FM) : Prop where
  ex : ∃ (f : Addr) (fd : FuncData) (ps : List Str), mg x = some (.ref f) ∧ PySem.W.keepIn K (.ref f) = true ∧ Binds K fd ps [] ∧ FnG P w K mg base (L2.CX P w) lv f fd ps (spE G n fM)
theorem calE_of {P : Program} {w : World} {K : PySem.W.Frag} {mg : Str → Option Value} {base : Heap} {CA : Nat → Addr} {x : Str} {st : Stmt} {f : Addr} {fd : FuncData} {N ps : List Str} {k n N' : Nat} {es : SS} {c : FM} (F : Fun K x x st f fd) (S : FnScope N ps (defScope st)) (m : mg x = some (.ref f))
    (hb : Binds K fd ps []) (hn : ps.length = n) (hN : N.length = N') (hc : c = runF N' es)
    (body : ∀ (cdv : Value) (A : Around) (outer : List Env) (s : Shared) (H : Hp) (E : XK), Room k (A.deeper (envOfC x (defScope st) s.heap.objs.size f cdv)) → A.guards = some [] →
      PSs (cxOf (L2.CX P w) P w K mg base N x (defScope st) f cdv A outer s H E) (defBody st) (tS ⟨K, CA⟩ E es)) : CalE P w K mg base ⟨K, CA⟩ x (k + 1) n c := by
  subst hn hN hc
  exact ⟨f, fd, ps, m, F.kp, hb, ok_fnE F S body⟩
section
variable {X : Cx} {G : Sig} {E : XK} {a : Expr} {es : List Expr} {ea : SE} {pos p' : Pos} {lv k n : Nat} {x : Str} {fM : FM}
theorem q_calE (C : CalE X.prog X.w X.K X.mg X.base G x lv n fM) (tk : Tk X E) (hr : Room k X.A) (hl : lv ≤ k) (hgd : X.A.guards = some []) (hg : Gl X x) (ha : PA X (a :: es) (tA G E ea)) (hdb : (x == ("__debug__" : Str)) = false := by decide)
    (he : starEach (a :: es) X.env = (false, eval a X.env) :: starEach es X.env := by rfl) (hpl : (backTo pos (starEach es X.env)).any (·.1) = false := by rfl) :
    PE X (.Call (.Name x p') (a :: es) [] pos) (tE G E (evL (kFn n fM) ea)) := by
  obtain ⟨f, fd, ps, hm, hk, hb, F⟩ := C.ex
  refine pe_imp (pe_callG F (hr.mono hl) hgd hg hm hk hb .nil (passes_call tk fun _ _ _ _ h => h) ha hdb he hpl) fun σ H Q ⟨R, ρ, s, M, w, sr, p⟩ => stepA w sr p fun R1 ρ1 M1 H1 l vs e1 w1 sr1 r1 p1 => ?_
  unfold kFn at p1
  by_cases hl : l.length = n
  · rw [if_pos hl] at p1
    exact ⟨by rw [List.append_nil, ← r1.length]; exact hl, R1, ρ1, M1, l, w1, by rw [List.append_nil]; exact r1, p1⟩
  · rw [if_neg hl] at p1; exact False.elim p1
end

/-! ### raise C(e), C's own __init__ storing the value -/
def spInit (K : PySem.W.Frag) : Sp := fun vs H Q E => ∃ (a C : Addr) (v : V), vs = [.ref a, v] ∧ OexC K C ∧ PySem.W.findIn K (.ref C) "value" = some none ∧ H a = some (exo a C none) ∧ ∀ dx, H dx = none → dx ≠ a → Q .non (upd (upd H dx (exd dx [("value", v)])) a (exo a C (some dx)))
theorem ok_init {P : Program} {w : World} {K : PySem.W.Frag} {mg : Str → Option Value} {base : Heap} {x qual : Str} {st : Stmt} {f : Addr} {fd : FuncData} {k : Nat} {p1 p2 p3 p4 : Pos} (F : Fun K x qual st f fd) (S : FnScope ["self", "value"] ["self", "value"] (defScope st))
    (hb : defBody st = [.Assign [.Attribute (.Name "self" p1) "value" p2] (.Name "value" p3) p4])
    (h0 : Vis (defScope st) "self") (h1 : Vis (defScope st) "value") : FnOk P w K mg base CX0 (k + 1) f fd ["self", "value"] (spInit K) := by
  refine F.ok S (fun vs H Q E ⟨a, C, v, e, _⟩ => by rw [e]; rfl) fun cdv A outer s H vs Q E hr ⟨a, C, v, e, T, no, ea, h⟩ => ⟨tOst K "value" (tVar 0) (tVar 1), ?_, ?_⟩
  · rw [hb]
    exact pss_one (ps_ost (pe_var (i := 0) rfl h0) (pe_var (i := 1) rfl h1))
  · subst e
    exact ⟨v, rfl, .ref a, rfl, a, C, rfl, T, no, .inl ⟨ea, h⟩⟩
/-- an error class: how it is made, and what is read of it -/
structure ExB (P : Program) (w : World) (K : PySem.W.Frag) (mg : Str → Option Value) (base : Heap) (G : Sig) (x : Str) (c lv : Nat) : Prop where
  oex : OexC K (G.CA c)
  hm : mg x = some (.ref (G.CA c))
  no : PySem.W.findIn K (.ref (G.CA c)) "value" = some none
  xf : XfC K (G.CA c)
  ini : ∃ (f : Addr) (fd : FuncData) (ps : List Str), PySem.W.findIn K (.ref (G.CA c)) "__init__" = some (some (.ref f)) ∧ PySem.W.typeIn K (.ref f) = some (.type "function") ∧ Binds K fd ps [] ∧ FnOk P w K mg base CX0 lv f fd ps (spInit K)
def sRaise (c : Nat) (e : SE) : SS := fun s M => match e s M with
  | none => none
  | some (.val v, M1) => some (.exc c v, s, M1)
  | some (.exc c' v, M1) => some (.exc c' v, s, M1)
section
variable {X : Cx} {G : Sig} {E : XK} {a : Expr} {ea : SE} {pos pos' p' : Pos} {lv k c : Nat} {x : Str}
theorem qs_raise (B : ExB X.prog X.w X.K X.mg X.base G x c lv) (hc : X.calm = true) (tk : Tk X E) (hr : Room k X.A) (hl : lv + 1 ≤ k) (hg : Gl X x) (ha : PE X a (tE G E ea)) (hdb : (x == ("__debug__" : Str)) = false := by decide)
    (he : starEach [a] X.env = (false, eval a X.env) :: starEach [] X.env := by rfl) (hpl : (backTo pos (starEach [] X.env)).any (·.1) = false := by rfl) :
    PS X (.Raise (some (.Call (.Name x p') [a] [] pos)) none pos') (tS G E (sRaise c ea)) := by
  obtain ⟨f, fd, ps, iC, tI, hb, F⟩ := B.ini
  refine ps_imp (ps_raise hc tk (pmk_oex B.oex iC tI F (hr.mono hl) hb .nil pass0 hg B.hm (pa_cons ha pa_nil he) hdb he hpl)) fun D σ H ⟨R, ρ, s, M, w, sr, p⟩ => ?_
  show tE G E ea σ H fun x1 H1 => tNil σ H1 fun xs H2 => _
  refine ⟨R, ρ, s, M, w, sr, ?_⟩
  unfold sRaise at p
  rcases q : ea s M with _ | ⟨y | ⟨c', y⟩, M1⟩ <;> rw [q] at p
  · exact p
  · intro R1 ρ1 H1 v e1 w1 r1
    refine ⟨by show 1 ≤ 1000; decide, fun a0 ha0 => ⟨a0, G.CA c, v, rfl, B.oex, B.no, upd_same, fun dx hdx hne => ⟨rfl, dx, [("value", v)], upd_same, by rw [upd_ne hne, upd_same], by rw [upd_ne hne] at hdx; exact hdx, ?_⟩⟩⟩
    have hdx1 : H1 dx = none := by rw [upd_ne hne] at hdx; exact hdx
    have eq : upd (L2.del (upd (upd (upd H1 a0 (exo a0 (G.CA c) none)) dx (exd dx [("value", v)])) a0 (exo a0 (G.CA c) (some dx))) a0) dx (HO.xd [("value", v)]) = upd H1 dx (.xd [("value", v)]) := by
      funext b
      by_cases hb1 : b = dx
      · rw [hb1, upd_same, upd_same]
      · rw [upd_ne hb1, upd_ne hb1]
        by_cases hb2 : b = a0
        · rw [hb2, L2.del_same, ha0]
        · rw [L2.del_ne hb2, upd_ne hb2, upd_ne hb1, upd_ne hb2]
    show E (.ref (G.CA c)) (some dx) _
    rw [eq]
    obtain ⟨e2, w2⟩ := alloc_frz (o := .xd [("value", v)]) w1 hdx1
    exact p _ _ _ dx v (e1.trans e2) w2 upd_same (r1.mono e2.gr)
  · exact p
end

/-! ### try: body, several clauses 'except x as n' -/
def wMA (K : PySem.W.Frag) (D : Ends) : List (Value × Nat × (Addr → Value → Option Addr → TS)) → WX
  | [] => fun _ _ _ _ => False
  | (c, i, ts) :: r => fun cls d σ H => ∃ b, PySem.W.exmOne K cls c = some b ∧ (b = true → ∀ a, H a = none → ts a cls d { nx := fun σ' H' => D.nx (σ'.set i none) H', rt := D.rt, bk := fun σ' H' => D.bk (σ'.set i none) H', ct := fun σ' H' => D.ct (σ'.set i none) H' } (σ.set i (some (.ref a))) H) ∧
      (b = false → wMA K D r cls d σ H)
inductive HdA (X : Cx) : List ExceptHandler → List (Value × Nat × (Addr → Value → Option Addr → TS)) → Prop
  | nil : HdA X [] []
  | cons {x n : Str} {c : Value} {i : Nat} {ts : Addr → Value → Option Addr → TS} {b₀ : Stmt} {suite : List Stmt} {np pos' : Pos} {hds : List ExceptHandler} {l : List (Value × Nat × (Addr → Value → Option Addr → TS))} (hc : Names X x c)
      (hi : X.N[i]? = some n) (hln : X.env.kindOf n = some .local)
      (hsu : ∀ (a : Addr) (oe : Obj) (cls : Value) (d : Option Addr) (pn : List (Addr × Obj)), Zc cls d oe → (∃ vs, oe.data = .fields vs) → PSs (X.suite a ((a, oe) :: pn)) (b₀ :: suite) (ts a cls d)) (r : HdA X hds l) :
      HdA X (.ExceptHandler (some (.Name x np)) (some n) (b₀ :: suite) pos' :: hds) ((c, i, ts) :: l)
section
variable {X : Cx} {body : List Stmt} {h₀ : ExceptHandler} {hds : List ExceptHandler} {l : List (Value × Nat × (Addr → Value → Option Addr → TS))} {pos : Pos} {tb : WX → TS}
theorem ps_try_ma (hs : X.stack = X.env :: X.outer) (hf : X.env.frame = some X.env.locals) (hN : X.N.Nodup)
    (hb : ∀ (W : WX) (pn : List (Addr × Obj)) (xe : Value → Shared → Prop), Takes (X.tr pn xe) W → PassesOwn (model X.prog X.w) X.A X.env xe → PSs (X.tr pn xe) body (tb W))
    (hh : HdA X (h₀ :: hds) l) : PS X (.Try body (h₀ :: hds) [] [] pos) (fun D σ H => tb (wMA X.K D l) D σ H) := by
  refine ⟨fun pins s σ H D I h => ?_⟩
  have ok := I.ok
  have hfr : X.A.frames = some (X.env :: X.outer) := by rw [ok.frames, hs]
  refine wpAny_Try_except ?_
  refine wpAny_mono ((hb (wMA X.K D l) (X.pn ++ pins) (fun e s₁ => wpAny (model X.prog X.w) X.A (noteFrame e X.env) (fun _ s₂ => wpAny (model X.prog X.w) X.A (setFlight e none) (fun _ s₃ =>
    wpAny (model X.prog X.w) X.A (handleBy e X.env (h₀ :: hds)) (SP X pins D) X.xe s₃) X.xe s₂) X.xe s₁) (fun u s' xx => ?_) PassesOwn.looking).run [] s σ H D (I.toTry _) h) (fun f s1 hsp => ?_) (fun e s1 he => he)
  · obtain ⟨a, B, sI, pins', σ', H', cls, d, rfl, J', nb, up, sky, na, os, ag, w⟩ := xx
    have J : Inv X pins σ' H' sI := J'.ofTry ok
    have sky' : Sky B (X.env :: X.outer) a (Zc cls d) X.env.locals s'.heap := by rw [← hs]; exact sky
    show wpAny (model X.prog X.w) X.A (noteFrame (.ref a) X.env) _ _ _
    refine Sky.land Zc.steady hfr hf sky' fun h3 fl3 up3 => ?_
    have J3 : Inv X pins σ' H' { s' with heap := h3 } := J.landed nb fl3.1 (up.trans up3) os ag
    obtain ⟨oe3, vs3, he3, hz3, hd3⟩ := fl3.there
    have notFr : ∀ {h : Heap} {o : Obj} {vs : Array Value}, h.FunFrames B (X.env :: X.outer) → h.get? a = some o → o.data = .fields vs → a ∉ frs (X.env :: X.outer) := fun {h o vs} ff e dd hm => by
      obtain ⟨_, o', e', hnf⟩ := ff.mem hm
      rw [e] at e'; cases e'
      exact hnf _ dd
    have nfr := notFr fl3.2.2.1 he3 hd3
    have nL : a ≠ X.env.locals := fun z => nfr (List.mem_filterMap.mpr ⟨X.env, List.mem_cons_self, by rw [hf, z]⟩)
    have nF : a ∉ X.fs := fun hm => by
      obtain ⟨e, he, q⟩ := List.mem_filterMap.mp hm
      exact nfr (List.mem_filterMap.mpr ⟨e, List.mem_cons_of_mem _ he, q⟩)
    have S3 := J3.suite he3 hd3 na nL nF
    have go : ∀ {hds' : List ExceptHandler} {l' : List (Value × Nat × (Addr → Value → Option Addr → TS))}, HdA X hds' l' → wMA X.K D l' cls d σ' H' →
        wpAny (model X.prog X.w) X.A (handleBy (.ref a) X.env hds') (SP X pins D) X.xe { s' with heap := h3 } := by
      intro hds' l' hk
      induction hk with
      | nil => exact fun w => w.elim
      | @cons x n c i ts b₀ suite np pos' hds2 l2 hc hi hln hsu r ih =>
        intro w
        obtain ⟨b, hb1, hyes, hno⟩ := w
        have hloc : Loc X.env.scope n := .inl hln
        refine wpAny_handleBy_cons (codeAny_handlers_test ?_) (by intro q; cases q)
        have LT : PySem.W.Looks (model X.prog X.w) h3 (typeOf (.ref a)) cls := fun A Q E s k q => wpAny_typeOf_ref (k _ _ he3) (by rw [hz3.1]; exact q)
        have LM := PySem.W.exm_one (M := model X.prog X.w) (J3.kIn) LT hb1
        have test : ∀ {Q : Value → Shared → Prop} {E : Value → Shared → Prop}, Q c { s' with heap := h3 } → wpAny (model X.prog X.w) (X.A.mark (some (.ref a))) (eval (.Name x np) X.env) Q E { s' with heap := h3 } := fun {Q E} q => by
          obtain ⟨hg, hdbg, hm | ⟨hm, hv, hnn⟩⟩ := hc
          · exact ld_glob (X := X.suite a ((a, oe3) :: (X.pn ++ pins))) S3 hg hm q hdbg
          · exact ld_blt (X := X.suite a ((a, oe3) :: (X.pn ++ pins))) S3 hg hm hv q hnn hdbg
        refine test (LM.here ?_)
        cases b with
        | true =>
          refine codeAny_handlers_suite_as ?_
          refine HandSPX.lands_againZ fl3 fun h4 fl4 up4 => ?_
          have J4 : Inv X pins σ' H' { s' with heap := h4 } := J.landed nb fl4.1 ((up.trans up3).trans up4) os ag
          obtain ⟨oe4, vs4, he4, hz4, hd4⟩ := fl4.there
          have S4 := J4.suite he4 hd4 na nL nF
          refine store_ok (X := X.suite a ((a, oe4) :: (X.pn ++ pins))) (v := .ref a) S4 hN hi hloc rfl (fun s5 S5 => ?_) (.inr hln)
          refine wpAny_mono ((hsu a oe4 cls d (X.pn ++ pins) hz4 ⟨_, hd4⟩).run [] s5 _ H' _ S5 (hyes rfl a na)) (fun f s6 hsp => ?_) (fun _ _ z => False.elim z)
          have end_ : ∀ {σ6 : L2.St} {H6 : Hp} {Q : Shared → Prop}, Inv (X.suite a ((a, oe4) :: (X.pn ++ pins))) [] σ6 H6 s6 → (∀ s7, Inv X pins (σ6.set i none) H6 s7 → Q s7) →
              wpAny (model X.prog X.w) X.A (do bindName X.env n .none; unbindBehindTheSuite X.env n pos') (fun _ s7 => Q s7) X.xe s6 := fun {σ6 H6 Q} S6 hq => gone_ok (S6.unsuite ok) hN hi hln hq
          cases f with
          | next =>
            obtain ⟨σ6, H6, S6, q6⟩ := hsp
            exact end_ S6 fun s7 J7 => ⟨_, _, J7, q6⟩
          | brk =>
            obtain ⟨σ6, H6, S6, q6⟩ := hsp
            exact end_ S6 fun s7 J7 => ⟨_, _, J7, q6⟩
          | cont =>
            obtain ⟨σ6, H6, S6, q6⟩ := hsp
            exact end_ S6 fun s7 J7 => ⟨_, _, J7, q6⟩
          | ret u =>
            obtain ⟨v6, σ6, H6, S6, r6, q6⟩ := hsp
            exact end_ S6 fun s7 J7 => ⟨_, _, _, J7, r6, q6⟩
        | false =>
          show wpAny _ X.A (handleBy (.ref a) X.env hds2) _ _ _
          exact ih (hno rfl)
    exact go hh w
  · cases f with
    | next =>
      obtain ⟨σ', H', J', q⟩ := hsp
      exact wpAny_execs_nil ⟨σ', H', J'.ofTry ok, q⟩
    | brk =>
      obtain ⟨σ', H', J', q⟩ := hsp
      exact ⟨σ', H', J'.ofTry ok, q⟩
    | cont =>
      obtain ⟨σ', H', J', q⟩ := hsp
      exact ⟨σ', H', J'.ofTry ok, q⟩
    | ret u =>
      obtain ⟨v, σ', H', J', r, q⟩ := hsp
      exact ⟨v, σ', H', J'.ofTry ok, r, q⟩
end
theorem takes_len {X : Cx} {W W' : WX} (t : Takes X W) (h : ∀ c d σ H, σ.length = X.N.length → W' c d σ H → W c d σ H) : Takes X W' := fun u s' ⟨a, B, sI, pins, σ, H, cls, d, e, I, nb, up, sky, na, os, ag, w⟩ =>
  t u s' ⟨a, B, sI, pins, σ, H, cls, d, e, I, nb, up, sky, na, os, ag, h _ _ _ _ I.len w⟩

/-! ### a try by value: what its clauses do hangs on the error's value alone -/
abbrev Cls1 := Nat × Nat × (Va → SS)
def sHd (sub : Nat → Nat → Bool) (c : Nat) (x : Va) : List Cls1 → SS
  | [] => fun _ _ => none
  | (c', i, f) :: r => fun s M => if c = c' then (match f x (List.replicate s.length none) M with
      | some (.nx, s2, M2) => some (.nx, s2.set i none, M2)
      | some (.ret v, s2, M2) => some (.ret v, s2, M2)
      | _ => none) else if sub c c' = true then none else sHd sub c x r s M
def sTry (es : SS) (rs : List Nat) (sub : Nat → Nat → Bool) (cl : List Cls1) : SS := fun s M => match es s M with
  | some (.exc c x, _, M1) => if c ∈ rs then sHd sub c x cl s M1 else none
  | r => r
/-- what is known of the caught error a, its value x -/
def tX (G : Sig) (a d : Addr) (i : Nat) (f : Va → SS) : TS := fun D σ H => ∃ R ρ s M x v, Wd G R ρ M H ∧ SR G R ρ s σ ∧ σ[i]? = some (some (.ref a)) ∧ H d = some (.xd [("value", v)]) ∧ VR G R ρ x v ∧ PostS G R ρ H (f x s M) D E0
inductive ClA (X : Cx) (G : Sig) : List ExceptHandler → List Cls1 → Prop
  | nil : ClA X G [] []
  | cons {x n : Str} {c i : Nat} {f : Va → SS} {b₀ : Stmt} {suite : List Stmt} {np pos' : Pos} {hds : List ExceptHandler} {l : List Cls1} (hc : Names X x (.ref (G.CA c))) (hi : X.N[i]? = some n) (hln : X.env.kindOf n = some .local)
      (hsu : ∀ (a d : Addr) (oe : Obj) (pn : List (Addr × Obj)), Zc (.ref (G.CA c)) (some d) oe → (∃ vs, oe.data = .fields vs) → PSs (X.suite a ((a, oe) :: pn)) (b₀ :: suite) (tX G a d i f)) (r : ClA X G hds l) :
      ClA X G (.ExceptHandler (some (.Name x np)) (some n) (b₀ :: suite) pos' :: hds) ((c, i, f) :: l)
theorem ClA.ix {X : Cx} {G : Sig} : ∀ {hds : List ExceptHandler} {l : List Cls1}, ClA X G hds l → ∀ q ∈ l, q.2.1 < X.N.length
  | _, _, .nil, q, h => nomatch h
  | _, _, .cons hc hi hln hsu r, q, h => by
    rcases List.mem_cons.mp h with h | h
    · rw [h]
      exact (List.getElem?_eq_some_iff.mp hi).1
    · exact ClA.ix r q h
def clW (G : Sig) : List Cls1 → List (Value × Nat × (Addr → Value → Option Addr → TS)) := List.map fun q => (.ref (G.CA q.1), q.2.1, fun a cls d D σ H => cls = .ref (G.CA q.1) ∧ ∃ dd, d = some dd ∧ tX G a dd q.2.1 q.2.2 D σ H)
theorem hdA_of {X : Cx} {G : Sig} : ∀ {hds : List ExceptHandler} {l : List Cls1}, ClA X G hds l → HdA X hds (clW G l)
  | _, _, .nil => .nil
  | _, _, .cons hc hi hln hsu r => .cons hc hi hln (fun a oe cls d pn hz hf => ⟨fun pins s σ H D I ⟨hcls, dd, hd, h⟩ => by
      subst hcls
      subst hd
      exact (hsu a dd oe pn hz hf).run pins s σ H D I h⟩) (hdA_of r)
section
variable {X : Cx} {G : Sig} {body : List Stmt} {h₀ : ExceptHandler} {hds : List ExceptHandler} {cl : List Cls1} {pos : Pos} {es : SS}
theorem qs_try {rs : List Nat} {sub : Nat → Nat → Bool} (hs : X.stack = X.env :: X.outer) (hf : X.env.frame = some X.env.locals) (hN : X.N.Nodup)
    (hb : ∀ (E : XK) (pn : List (Addr × Obj)) (xe : Value → Shared → Prop), Tk (X.tr pn xe) E → PassesOwn (model X.prog X.w) X.A X.env xe → PSs (X.tr pn xe) body (tS G E es))
    (hh : ClA X G (h₀ :: hds) cl) (xm : ∀ c ∈ rs, ∀ q ∈ cl, PySem.W.exmOne X.K (.ref (G.CA c)) (.ref (G.CA q.1)) = some (decide (c = q.1) || sub c q.1)) :
    PS X (.Try body (h₀ :: hds) [] [] pos) (tS G E0 (sTry es rs sub cl)) := by
  have base := ps_try_ma (pos := pos) (tb := fun W => tS G (fun cls d H => ∀ σ : L2.St, σ.length = X.N.length → W cls d σ H) es) hs hf hN
    (fun W pn xe tk po => hb _ pn xe (takes_len tk fun c d σ H hl h => h σ hl) po) (hdA_of hh)
  refine ⟨fun pins s0 σ H D I ⟨R, ρ, s, M, w, sr, p⟩ => base.run pins s0 σ H D I ⟨R, ρ, s, M, w, sr, ?_⟩⟩
  have hsl : s.length = X.N.length := sr.len.trans I.len
  have hix := ClA.ix hh
  unfold sTry at p
  rcases q : es s M with _ | ⟨_ | y | _ | _ | ⟨c, y⟩, s1, M1⟩ <;> rw [q] at p
  · exact p
  · exact p
  · exact p
  · exact p
  · exact p
  · dsimp only at p
    by_cases hc : c ∈ rs
    · rw [if_pos hc] at p
      intro R1 ρ1 H1 d v e1 w1 hd r1 σ2 hl2
      have p1 : PostS G R1 ρ1 H1 (sHd sub c y cl s M1) D E0 := PostS.ext e1 p
      have key : ∀ (l : List Cls1), (∀ q ∈ l, q ∈ cl) → PostS G R1 ρ1 H1 (sHd sub c y l s M1) D E0 → wMA X.K D (clW G l) (.ref (G.CA c)) (some d) σ2 H1 := by
        intro l
        induction l with
        | nil => exact fun _ h => h.elim
        | cons k l ih =>
          intro hm h
          obtain ⟨c', i, f⟩ := k
          unfold sHd at h
          have x1 := xm c hc (c', i, f) (hm _ (by simp))
          by_cases hcc : c = c'
          · subst hcc
            rw [if_pos rfl] at h
            rw [decide_eq_true rfl, Bool.true_or] at x1
            refine ⟨true, x1, fun _ a ha => ⟨rfl, d, rfl, ?_⟩, fun z => by cases z⟩
            by_cases hil : i < σ2.length
            · refine ⟨R1, ρ1, List.replicate s.length none, M1, y, v, w1, ⟨by rw [List.length_replicate, List.length_set, hsl, hl2], fun j z e => ?_⟩, List.getElem?_set_self hil, hd, r1, ?_⟩
              · rw [List.getElem?_replicate] at e
                split at e <;> cases e
              · show PostS G R1 ρ1 H1 (f y (List.replicate s.length none) M1) { nx := fun σ' H' => D.nx (List.set σ' i none) H', rt := D.rt, bk := fun σ' H' => D.bk (List.set σ' i none) H', ct := fun σ' H' => D.ct (List.set σ' i none) H' } E0
                rcases q2 : f y (List.replicate s.length none) M1 with _ | ⟨_ | z | _ | _ | ⟨c2, z⟩, s2, M2⟩ <;> rw [q2] at h
                · exact h
                · exact fun R2 ρ2 H2 σ3 e3 w3 sr3 => h R2 ρ2 H2 _ e3 w3 (sr3.unset i none)
                · exact h
                · exact h.elim
                · exact h.elim
                · exact h.elim
            · exact absurd (hl2 ▸ hix (c, i, f) (hm _ (by simp))) hil
          · rw [if_neg hcc] at h
            by_cases hsb : sub c c' = true
            · rw [if_pos hsb] at h
              exact h.elim
            · rw [if_neg hsb] at h
              have hsb' : sub c c' = false := by simpa using hsb
              dsimp only at x1
              rw [decide_eq_false hcc, hsb'] at x1
              exact ⟨false, x1, fun z => (by cases z), fun _ => ih (fun q hq => hm q (by simp [hq])) h⟩
      exact key cl (fun _ h => h) p1
    · rw [if_neg hc] at p
      exact p.elim
end

/-! ### the suites -/
def evXv (x : Va) : SE := fun _ M => some (.val x, M)
def subOf (l : List (Nat × Nat)) (a b : Nat) : Bool := l.any fun p => p.1 == a && p.2 == b
section
variable {X : Cx} {G : Sig} {a d : Addr} {oe : Obj} {pn : List (Addr × Obj)} {c i j jk k : Nat} {y n z : Str} {py p1 p2 p3 p4 p5 : Pos} {sts : List Stmt}
theorem psu_never : PSs X sts (tX G a d i (fun _ _ _ => none)) := ⟨fun pins s σ H D I ⟨_, _, _, _, _, _, _, _, _, _, _, h⟩ => h.elim⟩
theorem psu_pair (T : XfC X.K (G.CA c)) (hno : PySem.W.findIn X.K (.ref (G.CA c)) "value" = some none) (hz : Zc (.ref (G.CA c)) (some d) oe) (hf : ∃ vs, oe.data = .fields vs)
    (hN : X.N.Nodup) (hj : X.N[j]? = some y) (hy : Loc X.env.scope y) (hi : X.N[i]? = some n) (hv : Vis X.env.scope n) (hd : (n == ("__debug__" : Str)) = false := by decide) (hcd : (n == ("__classdict__" : Str)) = false := by decide)
    (hs : swapsWith (.Tuple [.Constant (.str z) jk p1, .Attribute (.Name n p3) "value" p2] k p4) (some (.Name y py)) p5.line X.env = pure false := by rfl)
    (hfn : X.fn y = true ∨ X.env.scope.names.lookup y = some .local := by first | exact .inl rfl | exact .inr rfl | assumption) :
    PSs (X.suite a ((a, oe) :: pn)) [.Assign [.Name y py] (.Tuple [.Constant (.str z) jk p1, .Attribute (.Name n p3) "value" p2] k p4) p5] (tX G a d i (fun x => sSet j (evL kTup (evCons (evC (.str z)) (evCons (evXv x) evNil))))) := by
  refine pss_imp (pss_one (ps_set (X := X.suite a ((a, oe) :: pn)) hN hj hy (pe_tup (pa_cons pe_str (pa_cons (pe_xf T hno hz hf (pe_var (X := X.suite a ((a, oe) :: pn)) hi hv hd hcd)) pa_nil))) hs hfn)) fun D σ H ⟨R, ρ, s, M, x, v, w, sr, hia, hx, rv, p⟩ => ?_
  refine ⟨.ref a, hia, rfl, rfl, d, [("value", v)], v, rfl, hx, rfl, ?_⟩
  refine ⟨by show 2 ≤ sizeLine; decide, fun q hq => ?_⟩
  obtain ⟨e, w'⟩ := alloc_frz (o := .tup [.str z, v]) w hq
  have p' : Nxt G R ρ H (s.set j (some (.tup [.str z, x]))) M D.nx := p
  exact p' _ _ _ _ e w' ((sr.mono e.gr).set j (.tup upd_same (by show 2 ≤ sizeLine; decide) (.cons (.str _) (.cons (rv.mono e.gr) .nil))))
theorem psu_val (T : XfC X.K (G.CA c)) (hno : PySem.W.findIn X.K (.ref (G.CA c)) "value" = some none) (hz : Zc (.ref (G.CA c)) (some d) oe) (hf : ∃ vs, oe.data = .fields vs)
    (hN : X.N.Nodup) (hj : X.N[j]? = some y) (hy : Loc X.env.scope y) (hi : X.N[i]? = some n) (hv : Vis X.env.scope n) (hd : (n == ("__debug__" : Str)) = false := by decide) (hcd : (n == ("__classdict__" : Str)) = false := by decide)
    (hs : swapsWith (.Attribute (.Name n p3) "value" p2) (some (.Name y py)) p5.line X.env = pure false := by rfl)
    (hfn : X.fn y = true ∨ X.env.scope.names.lookup y = some .local := by first | exact .inl rfl | exact .inr rfl | assumption) :
    PSs (X.suite a ((a, oe) :: pn)) [.Assign [.Name y py] (.Attribute (.Name n p3) "value" p2) p5] (tX G a d i (fun x => sSet j (evXv x))) := by
  refine pss_imp (pss_one (ps_set (X := X.suite a ((a, oe) :: pn)) hN hj hy (pe_xf T hno hz hf (pe_var (X := X.suite a ((a, oe) :: pn)) hi hv hd hcd)) hs hfn)) fun D σ H ⟨R, ρ, s, M, x, v, w, sr, hia, hx, rv, p⟩ => ?_
  refine ⟨.ref a, hia, rfl, rfl, d, [("value", v)], v, rfl, hx, rfl, ?_⟩
  have p' : Nxt G R ρ H (s.set j (some x)) M D.nx := p
  exact p' _ _ _ _ Ext.refl w (sr.set j rv)
end
/-! ### what the written part says -/
theorem names_of {X : Cx} {x : Str} {c : Value} (hg : Gl X x) (hm : X.mg x = some c) (hd : (x == ("__debug__" : Str)) = false := by decide) : Names X x c := ⟨hg, hd, .inl hm⟩
end PV

set_option Elab.async false
set_option linter.all false
set_option maxRecDepth 100000
set_option maxHeartbeats 1000000
namespace PV
open PySem PySem.Spec PyProof.Rows L2
/-! ### min of a list of texts -/
def minS (z : Str) (zs : List Str) : Str := zs.foldl (fun m y => if leS m y = true then m else y) z
theorem minS_mem : ∀ (zs : List Str) (z : Str), minS z zs ∈ z :: zs
  | [], z => by simp [minS]
  | y :: zs, z => by
    have h := minS_mem zs (if leS z y = true then z else y)
    show minS (if leS z y = true then z else y) zs ∈ _
    rcases List.mem_cons.mp h with e | h
    · rw [e]
      by_cases q : leS z y = true
      · rw [if_pos q]; simp
      · rw [if_neg q]; simp
    · simp [h]
theorem leS_refl (a : Str) : leS a a = true := by
  have := leS_total a a
  simpa using this
theorem minS_le : ∀ (zs : List Str) (z : Str) (y : Str), y ∈ z :: zs → leS (minS z zs) y = true
  | [], z, y, h => by
    rw [List.mem_singleton.mp h]
    exact leS_refl _
  | x :: zs, z, y, h => by
    have h1 := minS_le zs (if leS z x = true then z else x)
    have h0 := h1 _ (List.mem_cons_self)
    show leS (minS (if leS z x = true then z else x) zs) y = true
    rcases List.mem_cons.mp h with e | h
    · subst e
      by_cases q : leS y x = true
      · rw [if_pos q] at h0 ⊢; exact h0
      · rw [if_neg q] at h0 ⊢
        have := leS_total y x
        have q' : leS x y = true := by
          cases hh : leS y x
          · rw [hh] at this; simpa using this
          · exact absurd hh q
        exact leS_trans _ _ _ h0 q'
    · rcases List.mem_cons.mp h with e | h
      · subst e
        by_cases q : leS z y = true
        · rw [if_pos q] at h0 ⊢; exact leS_trans _ _ _ h0 q
        · rw [if_neg q] at h0 ⊢; exact h0
      · exact h1 y (by simp [h])
theorem argBest_min (x : Nat → Str) : ∀ n : Nat, argBest (fun i j => decide ((x i).cps.toList < (x j).cps.toList)) n ≤ n ∧ ∀ j, j ≤ n → leS (x (argBest (fun i j => decide ((x i).cps.toList < (x j).cps.toList)) n)) (x j) = true
  | 0 => ⟨Nat.le_refl _, fun j hj => by
    have : j = 0 := by omega
    subst this
    exact leS_refl _⟩
  | n + 1 => by
    obtain ⟨h1, h2⟩ := argBest_min x n
    unfold argBest
    by_cases q : (x (n + 1)).cps.toList < (x (argBest (fun i j => decide ((x i).cps.toList < (x j).cps.toList)) n)).cps.toList
    · rw [if_pos (decide_eq_true q)]
      have hle : leS (x (n + 1)) (x (argBest (fun i j => decide ((x i).cps.toList < (x j).cps.toList)) n)) = true := by
        unfold leS
        exact decide_eq_true (List.le_of_lt q)
      refine ⟨Nat.le_refl _, fun j hj => ?_⟩
      by_cases e : j = n + 1
      · rw [e]; exact leS_refl _
      · exact leS_trans _ _ _ hle (h2 j (by omega))
    · rw [if_neg (by simpa using q)]
      refine ⟨by omega, fun j hj => ?_⟩
      by_cases e : j = n + 1
      · rw [e]
        unfold leS
        exact decide_eq_true (List.not_lt.mp q)
      · exact h2 j (by omega)
section
variable {prog : Program} {w : World} {A : Around} {E : Value → Shared → Prop} {s : Shared} {l : Addr} {its : Array Value} {xs : List Str}
theorem cmpOf_strs (h : StrsAre its.toList xs) : CmpOf prog w A .Lt (fun i v => its[i]? = some v) (fun i j => decide ((xs.getD i Str.empty).cps.toList < (xs.getD j Str.empty).cps.toList)) := fun i j vi vj s Q E hi hj hQ => by
  obtain ⟨t, rfl⟩ := SS.strs_at h i vi (by rw [Array.getElem?_toList]; exact hi)
  obtain ⟨u, rfl⟩ := SS.strs_at h j vj (by rw [Array.getElem?_toList]; exact hj)
  exact lt_str hQ
theorem minS_raw {Q : Value → Shared → Prop} (hh : A.handled = none) (hl : s.heap.IsList l its) (hi : StrsAre its.toList xs) (hne : 0 < xs.length)
    (h : ∀ h' tk m t', (∀ b o, s.heap.get? b = some o → h'.get? b = some o) → m ∈ xs → (∀ y, y ∈ xs → leS m y = true) → Q (.str m t') { s with heap := h', toks := tk }) :
    wpAny (model prog w) A (call (.builtin "min") [.ref l]) Q E s := by
  have hsz : its.size = xs.length := by rw [← Array.length_toList]; exact StrsAre.len_eq hi
  refine call_min_walk (iter_anyList hl fun s₂ e st hfp hlI => ?_)
  subst e
  refine ⟨_, _, _, _, _, _, _, rfl, Walks.list (A := A.in1) hh _ l hlI its, st, hfp, by rw [hsz]; exact hne, cmpOf_strs hi, fun v h' tk hP hk => ?_⟩
  obtain ⟨h1, h2⟩ := argBest_min (fun i => xs.getD i Str.empty) (its.size - 1)
  obtain ⟨t, rfl⟩ := SS.strs_at hi _ v (by rw [Array.getElem?_toList]; exact hP)
  refine h h' tk _ t (PySem.old_kept hk) ?_ fun y hy => ?_
  · have hlt : argBest (fun i j => decide ((xs.getD i Str.empty).cps.toList < (xs.getD j Str.empty).cps.toList)) (its.size - 1) < xs.length := by
      have : argBest (fun i j => decide ((xs.getD i Str.empty).cps.toList < (xs.getD j Str.empty).cps.toList)) (its.size - 1) ≤ its.size - 1 := h1
      omega
    rw [List.getD_eq_getElem?_getD, List.getElem?_eq_getElem hlt]
    exact List.getElem_mem hlt
  · obtain ⟨j, hj, e⟩ := List.mem_iff_getElem.mp hy
    have := h2 j (by omega)
    rw [show xs.getD j Str.empty = y by
      rw [List.getD_eq_getElem?_getD, List.getElem?_eq_getElem hj, ← e]
      rfl] at this
    exact this
end
section
variable {X : Cx} {G : Sig}
def rMinS (K : PySem.W.Frag) : List V → Hp → VK → Prop := fun vs H Q => ∃ (a : Addr) (xs : List Str), vs = [V.ref a] ∧ SqL K H a (xs.map V.str) ∧ 0 < xs.length ∧ ∀ m, m ∈ xs → (∀ y, y ∈ xs → leS m y = true) → Q (.str m) H
theorem cr_minS (hc : X.calm = true) : CallR X (.builtin "min") (rMinS X.K) := by
  intro pins s σ H vs us Q I r h
  obtain ⟨a, xs, rfl, hs, hne, q⟩ := h
  obtain ⟨its, rv, hl, _⟩ := I.list hs
  rw [Vals.ref1 r]
  exact minS_raw (I.ok.hd hc) hl.isList rv.strs hne fun h' tk m t' hk h1 h2 => ⟨.str _, H, I.kept hk, ⟨_, rfl⟩, q m h1 h2⟩
def gMin2 (M : Store) (l : List Va) : Option Va := match gMin M l with
  | some r => some r
  | none => match l with
    | [x] => (match (lstOf M x).bind strsOf with
      | some (z :: zs) => some (.str (minS z zs))
      | _ => none)
    | _ => none
theorem s_min2 (hK : X.K = G.K) : OpL G (fun xs H Q => ((∃ i j, xs = [.int i, .int j] ∧ Q (.int (if j < i then j else i)) H) ∨ rMin X.K xs H Q) ∨ rMinS X.K xs H Q) (kPure gMin2) := pure_of fun R ρ M H xs l res Q w rv h g => by
  unfold gMin2 at h
  split at h
  · rename_i r hr
    cases h
    left
    unfold gMin at hr
    split at hr
    · obtain ⟨v, u, rfl, r, q⟩ := two_of rv
      cases r; cases q; cases hr
      exact .inl ⟨_, _, rfl, gives_now w (.int _) g⟩
    · obtain ⟨v, rfl, r⟩ := one_of rv
      split at hr
      · rename_i l hl
        split at hr
        · rename_i n ns hn
          cases hr
          obtain ⟨a, rfl, sq⟩ := lst_ints w r hl hn
          refine .inr ⟨a, n :: ns, rfl, by rw [hK]; exact sq, by simp, fun m h1 h2 => ?_⟩
          have e : m = minL n ns := Int.le_antisymm (h2 _ (minL_mem ns n)) (minL_le ns n m h1)
          rw [e]
          exact gives_now w (.int _) g
        · cases hr
      · cases hr
    · cases hr
  · split at h
    · rename_i x _
      obtain ⟨v, rfl, r⟩ := one_of rv
      split at h
      · rename_i z zs hz
        cases h
        right
        cases hq : lstOf M x with
        | none => rw [hq] at hz; cases hz
        | some l' =>
          rw [hq] at hz
          obtain ⟨a, vs, rfl, sq, rv', _⟩ := lst_read w r hq
          rw [strs_of rv' hz] at sq
          refine ⟨a, z :: zs, rfl, by rw [hK]; exact sq, by simp, fun m h1 h2 => ?_⟩
          have e : m = minS z zs := leS_antisymm _ _ (h2 _ (minS_mem zs z)) (minS_le zs z m h1)
          rw [e]
          exact gives_now w (.str _) g
      · cases h
    · cases h
end
end PV

set_option Elab.async false
set_option linter.all false
set_option maxRecDepth 100000
set_option maxHeartbeats 4000000
namespace PV
open PySem PySem.Spec L2
open PyProof.Rows
/-! ### making and methods that may raise -/
section
variable {P : Program} {w : World} {K : PySem.W.Frag} {mg : Str → Option Value} {base : Heap} {CA : Nat → Addr} {x qual : Str} {st : Stmt} {f p : Addr} {fd : FuncData} {N ps : List Str} {k n N' c : Nat} {es : SS} {fM : FM}
theorem fnG_byE (F : Fun K x qual st f fd) (S : FnScope N ps (defScope st)) (hn : ps.length = n) (hN : N.length = N') (hc : fM = runF N' es)
    (body : ∀ (cdv : Value) (A : Around) (outer : List Env) (s : Shared) (H : Hp) (E : XK), Room k (A.deeper (envOfC qual (defScope st) s.heap.objs.size f cdv)) → A.guards = some [] →
      PSs (cxOf (L2.CX P w) P w K mg base N qual (defScope st) f cdv A outer s H E) (defBody st) (tS ⟨K, CA⟩ E es)) : FnG P w K mg base (L2.CX P w) (k + 1) f fd ps (spE ⟨K, CA⟩ n fM) := by
  subst hn hN hc
  exact ok_fnE F S body
end
structure MkE (P : Program) (w : World) (K : PySem.W.Frag) (mg : Str → Option Value) (base : Heap) (G : Sig) (x : Str) (c : Nat) (lv n : Nat) (fM : FM) : Prop where
  ex : ∃ (f : Addr) (fd : FuncData) (ps : List Str), mg x = some (.ref (G.CA c)) ∧ Mk K (G.CA c) f ∧ Binds K fd ps [] ∧ FnG P w K mg base (L2.CX P w) lv f fd ps (spE G (n + 1) fM)
structure MeE (P : Program) (w : World) (K : PySem.W.Frag) (mg : Str → Option Value) (base : Heap) (G : Sig) (c : Nat) (x : Str) (lv n : Nat) (fM : FM) : Prop where
  ex : ∃ (f : Addr) (fd : FuncData) (ps : List Str), Cls K (G.CA c) ∧ Meth K (G.CA c) x f ∧ Binds K fd ps [] ∧ FnG P w K mg base (L2.CX P w) lv f fd ps (spE G (n + 1) fM)
section
variable {P : Program} {w : World} {K : PySem.W.Frag} {mg : Str → Option Value} {base : Heap} {CA : Nat → Addr} {f p : Addr} {fd : FuncData} {ps : List Str} {k n c : Nat} {fM : FM}
theorem mk_ofE {y : Str} (hm : mg y = some (.ref (CA c))) (M : Mk K (CA c) f) (hb : Binds K fd ps []) (F : FnG P w K mg base (L2.CX P w) k f fd ps (spE ⟨K, CA⟩ (n + 1) fM)) : MkE P w K mg base ⟨K, CA⟩ y c k n fM := ⟨f, fd, ps, hm, M, hb, F⟩
theorem me_ofE {y : Str} (C : Cls K (CA c)) (hp : Meth K (CA c) y f) (hb : Binds K fd ps []) (F : FnG P w K mg base (L2.CX P w) k f fd ps (spE ⟨K, CA⟩ (n + 1) fM)) : MeE P w K mg base ⟨K, CA⟩ c y k n fM := ⟨f, fd, ps, C, hp, hb, F⟩
end
section
variable {X : Cx} {G : Sig} {E : XK} {a o e : Expr} {es : List Expr} {ea eo : SE} {pos p' apos : Pos} {c n k lv : Nat} {f C : Addr} {x m : Str} {fM : FM}
theorem make_simE {R : Hp} {ρ : List Addr} {M : Store} {H : Hp} {l : List Va} {vs : List V} {Q : VK} (w : Wd G R ρ M H) (r : VRs G R ρ l vs) (q : Post G R ρ H (kMake c n fM l M) Q E) (hC : G.CA c = C) :
    ∀ x dx, H x = none → H dx = none → dx ≠ x → spE G (n + 1) fM (.ref x :: (vs ++ [])) (upd (upd H dx (.own x)) x (.ins C dx [])) (fun v H2 => v = .non ∧ Q (.ref x) H2) E := by
  intro x dx hx hdx ne
  unfold kMake at q
  by_cases hl : l.length = n
  · rw [if_pos hl] at q
    have e0 : Ext R ρ H R ρ (upd H dx (.own x)) := Ext.heapNew hdx
    have w0 : Wd G R ρ M (upd H dx (.own x)) := w.heap fun b o h => by rw [upd_ne (ne_of_none h hdx)]; exact h
    have hx' : (upd H dx (.own x)) x = none := by rw [upd_ne ne.symm]; exact hx
    obtain ⟨e1, w1, g1⟩ := alloc_cel (o := .ins C dx []) (x := .ins c []) w0 hx' ⟨dx, [], by rw [hC, upd_same], .nil⟩
    refine ⟨by rw [List.append_nil, List.length_cons, ← r.length, hl], R, _, _, .cel M.nx :: l, w1, .cons (.cel g1) (by rw [List.append_nil]; exact r.mono e1.gr), ?_⟩
    rcases z : fM (.cel M.nx :: l) (M.new (.ins c [])) with _ | ⟨y | ⟨k, y⟩, M2⟩ <;> rw [z] at q
    · exact q
    · cases y <;> first | exact q.elim | skip
      intro R' ρ' H' v e w' rv
      cases rv
      exact ⟨rfl, q R' ρ' H' (.ref x) ((e0.trans e1).trans e) w' (.cel (e.get g1))⟩
    · intro R' ρ' H' d v e w' h rv
      exact q R' ρ' H' d v ((e0.trans e1).trans e) w' h rv
  · rw [if_neg hl] at q; exact q.elim
theorem q_makeE (B : MkE X.prog X.w X.K X.mg X.base G x c lv n fM) (tk : Tk X E) (hr : Room k X.A) (hl : lv + 1 ≤ k) (hgd : X.A.guards = some []) (hg : Gl X x) (ha : PA X (e :: es) (tA G E ea)) (hdb : (x == ("__debug__" : Str)) = false := by decide)
    (he : starEach (e :: es) X.env = (false, eval e X.env) :: starEach es X.env := by rfl) (hpl : (backTo pos (starEach es X.env)).any (·.1) = false := by rfl) :
    PE X (.Call (.Name x p') (e :: es) [] pos) (tE G E (evL (kMake c n fM) ea)) := by
  obtain ⟨f, fd, ps, hm, hk, hb, F⟩ := B.ex
  exact pe_imp (pe_makeG hk F (hr.mono hl) hgd hg hm hb .nil (passes_call tk fun _ _ _ _ h => h) ha hdb he hpl) fun σ H Q ⟨R, ρ, s, M, w, sr, p⟩ => stepA w sr p fun R1 ρ1 M1 H1 l vs e1 w1 sr1 r1 p1 => make_simE w1 r1 p1 rfl
theorem q_methE {pl : Sem Bool} (B : MeE X.prog X.w X.K X.mg X.base G c m lv n fM) (tk : Tk X E) (hr : Room k X.A) (hl : lv ≤ k) (hgd : X.A.guards = some []) (ho : PE X o (tE G E eo)) (ha : PA X (e :: es) (tA G E ea))
    (hst : starEach (e :: es) X.env = (false, eval e X.env) :: starEach es X.env := by rfl) (hpl : (backTo pos (starEach es X.env)).any (·.1) = false := by rfl)
    (ht : eval (.Call (.Attribute o m apos) (e :: es) [] pos) X.env = (do
      let ov ← eval o X.env
      standAt apos.atName
      let (f, first) ← holding [ov] (getMethod ov m pl)
      callWith pos f first (backTo pos (starEach (e :: es) X.env)) (backToKw pos (keywordEach [] X.env))) := by rfl) :
    PE X (.Call (.Attribute o m apos) (e :: es) [] pos) (tE G E (evMeth c m n fM eo ea)) := by
  obtain ⟨f, fd, ps, hc, hm, hb, F⟩ := B.ex
  refine ⟨fun pins s σ H Q I h => ?_⟩
  have h' : tE G E eo σ H fun x H1 => ∃ b dx fs, x = .ref b ∧ H1 b = some (.ins (G.CA c) dx fs) ∧ fs.lookup m = none ∧ tA G E ea σ H1 fun vs H2 => spE G (n + 1) fM (x :: vs) H2 Q E := by
    obtain ⟨R, ρ, s', M, w, sr, p⟩ := h
    refine stepE w sr p fun R1 ρ1 M1 H1 va v e1 w1 sr1 r1 p1 => ?_
    split at p1
    · rename_i hob
      obtain ⟨b, dx, fs, rfl, hb', hn⟩ := meth_obj w1 r1 hob
      refine ⟨b, dx, fs, rfl, hb', hn, stepA w1 sr1 p1 fun R2 ρ2 M2 H2 l vs e2 w2 sr2 r2 p2 => ?_⟩
      by_cases hl : l.length = n
      · rw [if_pos hl] at p2
        exact ⟨by rw [List.length_cons, ← r2.length, hl], R2, ρ2, M2, va :: l, w2, .cons (r1.mono e2.gr) r2, p2⟩
      · rw [if_neg hl] at p2; exact p2.elim
    · exact p1.elim
  refine PySem.W.methodCall_KW (pl := pl) (thn (ho.run pins s σ H _ I h') fun u s1 ⟨x, H1, I1, rx, b, dx, fs, ex, ea, l, q⟩ => ?_) ht
  subst ex
  obtain rfl : u = Value.ref b := rx
  refine getmeth_ok I1 ea hc hm l ?_
  refine PySem.W.callWith_K (first := [.ref b]) (h₀ := X.base) I.ok.mod.kin hm.kp (thn (ha.run pos pins s1 σ H1 _ I1 q) fun us s2 ⟨vs, H2, I2, r, q2⟩ => ⟨I2.kIn, ?_⟩) hst hpl
  exact run_fnG (us := .ref b :: us) (vs := .ref b :: vs) F (hr.mono hl) hgd hb .nil (passes_call tk fun _ _ _ _ h => h) I2 (.cons rfl r) (by rw [List.append_nil]; exact q2)
/-- a def that raises nothing, its arguments may -/
def fnNo (fM : FM) : FM := fun l M => noX (fM l M)
theorem q_calM (B : Cal X.prog X.w X.K X.mg X.base G x lv n fM) (hr : Room k X.A) (hl : lv ≤ k) (hgd : X.A.guards = some []) (hg : Gl X x) (ha : PA X (e :: es) (tA G E ea)) (hdb : (x == ("__debug__" : Str)) = false := by decide)
    (he : starEach (e :: es) X.env = (false, eval e X.env) :: starEach es X.env := by rfl) (hpl : (backTo pos (starEach es X.env)).any (·.1) = false := by rfl) :
    PE X (.Call (.Name x p') (e :: es) [] pos) (tE G E (evL (kFn n (fnNo fM)) ea)) := by
  obtain ⟨f, fd, ps, hm, hk, hb, F⟩ := B.ex
  refine pe_imp (pe_callG F (hr.mono hl) hgd hg hm hk hb .nil (show Passes CX0 X E from fun _ _ _ _ _ _ _ h => h.elim) ha hdb he hpl) fun σ H Q ⟨R, ρ, s, M, w, sr, p⟩ => stepA w sr p fun R1 ρ1 M1 H1 l vs e1 w1 sr1 r1 p1 => ?_
  unfold kFn at p1
  by_cases hl : l.length = n
  · rw [if_pos hl] at p1
    refine ⟨by rw [List.append_nil, ← r1.length]; exact hl, R1, ρ1, M1, l, w1, by rw [List.append_nil]; exact r1, ?_⟩
    unfold fnNo noX at p1
    rcases q : fM l M1 with _ | ⟨y | ⟨c, y⟩, M2⟩ <;> rw [q] at p1
    · exact p1
    · exact p1
    · exact p1.elim
  · rw [if_neg hl] at p1; exact False.elim p1
theorem x_fnNo {fM : FM} {l : List Va} {M M1 : Store} {v : Va} (h : fM l M = some (.val v, M1)) : fnNo fM l M = some (.val v, M1) := by
  unfold fnNo
  rw [h]
  rfl
end
end PV

set_option Elab.async false
set_option linter.all false
set_option maxRecDepth 100000
set_option maxHeartbeats 4000000
/-! an exception out of the element of a list comprehension -/
namespace PV
open PySem PySem.Spec L2
open PyProof.Rows

theorem ns_ne {h : Heap} {C e : Addr} {m : Str → Option Value} {oe : Obj} {vs : Array Value} (hn : h.Ns C m) (he : h.get? e = some oe) (hd : oe.data = .fields vs) : e ≠ C := fun q => by
  obtain ⟨o, es, ep, ho, hdd, _⟩ := hn
  rw [q, ho] at he
  cases he
  rw [hdd] at hd
  cases hd
section
variable {M : Model} {A : Around} {E : Value → Shared → Prop} {s' : Shared} {base : Heap} {env cenv : Env} {outer l : List Env} {e L : Addr} {Z : Obj → Prop} {m : Str → Option Value}
/-- the block's names are let go, the exception is held by the def's frame -/
theorem failsZ (hf : cenv.frame = some L) (hbC : base.get? cenv.locals = none) (hn : s'.heap.Ns cenv.locals m) (hh : HandSPX.HeldZ base l e Z L s'.heap)
    (hQ : ∀ h', HandSPX.HeldZ base l e Z L h' → (∀ b o, s'.heap.get? b = some o → b ≠ cenv.locals → (∀ vs, o.data ≠ .fields vs) → ∃ sl, h'.get? b = some { o with slots := sl }) → E (.ref e) { s' with heap := h' }) :
    CompFails M A E cenv (.ref e) s' := by
  refine ⟨m, hn, fun h2 m2 hn2 hs2 => ?_⟩
  obtain ⟨b1, b0, f1, oe, vs, T, oT, ts, he, hz, hd, h1, hnT, hTe, hT, hdT, h3⟩ := hh
  have b2 : base.StaysIn h2 := fun b o hb => (hs2.2 b fun q => by rw [q, hbC] at hb; cases hb).trans (b1 b o hb)
  have f2 : h2.FunFrames base l := Heap.FunFrames.sameBut hs2 hn2 f1
  have he2 := (hs2.2 e (ns_ne hn he hd)).trans he
  have hT2 := (hs2.2 T (ns_ne hn hT hdT)).trans hT
  have hh2 : HandSPX.HeldZ base l e Z L h2 := ⟨b2, b0, f2, oe, vs, T, oT, ts, he2, hz, hd, h1, hnT, hTe, hT2, hdT, h3⟩
  unfold PySem.passOn
  refine wpAny_bind (wpAny_field he2 hd h1 ?_)
  rw [if_neg (show ¬ ((Value.ref T == Value.none) = true) from by simp)]
  rw [hf]
  refine wpAny_bind (HandSPX.setFlight_onZ (s := { s' with heap := h2 }) hh2 fun h4 hh4 up => ?_)
  exact wpAny_throw (hQ h4 hh4 fun b o hb hbL hnf => up b o ((hs2.2 b hbL).trans hb) hnf)
/-- out of a call in the element -/
theorem notedZ (hZ : HandSPX.Steady Z) (hfr : A.frames = some (env :: outer)) (hcf : cenv.frame = env.frame) (hf : env.frame = some L) (hbC : base.get? cenv.locals = none) (hn : s'.heap.Ns cenv.locals m) (hfl : HandSPX.FlyingZ base (env :: outer) e Z s'.heap)
    (hQ : ∀ h', HandSPX.HeldZ base (env :: outer) e Z L h' → (∀ b o, s'.heap.get? b = some o → b ≠ cenv.locals → (∀ vs, o.data ≠ .fields vs) → ∃ sl, h'.get? b = some { o with slots := sl }) → E (.ref e) { s' with heap := h' }) :
    notedBy M A cenv (CompFails M A E cenv) (.ref e) s' := by
  show wpAny M A (noteFrame (.ref e) cenv) _ _ s'
  rw [noteFrame_env _ hcf]
  refine HandSPX.looks_onZ hZ hfr hf hfl fun h1 hH hk => ?_
  refine failsZ (s' := { s' with heap := h1 }) (hcf.trans hf) hbC (hn.upToSlots hk) hH fun h2 hH2 hk2 => hQ h2 hH2 fun b o hb hbC' hnf => ?_
  obtain ⟨sl, e1⟩ := hk b o hb hnf
  obtain ⟨sl2, e2⟩ := hk2 b _ e1 hbC' hnf
  exact ⟨sl2, e2⟩
end

section
variable {X : Cx} {pins : List (Addr × Obj)} {σ : L2.St} {H : Hp} {s s' : Shared} {E : XK}
/-- a call's exception, in the air above a state of ours -/
theorem air_of (I : Inv X pins σ H s) {u : Value} (c : L2.CX X.prog X.w X.stack H s E u s') :
    ∃ (a : Addr) (B : Heap) (sI : Shared) (H' : Hp) (cls : Value) (d : Option Addr), u = .ref a ∧ Inv X pins σ H' sI ∧ (∀ b o, sI.heap.get? b = some o → b ∉ frs X.stack → B.get? b = some o) ∧ sI.heap.UpToSlots s'.heap ∧
      HandSPX.FlyingZ B X.stack a (Zc cls d) s'.heap ∧ H' a = none ∧ s'.os = sI.os ∧ AllBare s'.gens ∧ E cls d H' := by
  obtain ⟨a, B, H', cls, d, rfl, fl, hok, ub, na, os, ag, hE⟩ := c
  have st : B.StaysIn s'.heap := fl.1
  obtain ⟨G, g1, g2⟩ := restrict s'.heap fun b => (B.get? b).isSome || decide (b ∈ frs X.stack)
  have inB : ∀ b o, B.get? b = some o → G.get? b = some o := fun b o e => (g1 b (by simp [e])).trans (st b o e)
  have inF : ∀ b, b ∈ frs X.stack → G.get? b = s'.heap.get? b := fun b hb => g1 b (by simp [hb])
  have out : ∀ b o, G.get? b = some o → s'.heap.get? b = some o ∧ ((B.get? b).isSome = true ∨ b ∈ frs X.stack) := fun b o e => by
    cases q : ((B.get? b).isSome || decide (b ∈ frs X.stack)) with
    | false => rw [g2 b q] at e; cases e
    | true => exact ⟨(g1 b q).symm.trans e, by simpa [Bool.or_eq_true] using q⟩
  have I' : Inv X pins σ H' { s with heap := G, gens := s'.gens, drawn := s'.drawn, toks := s'.toks } := by
    refine I.call (ch := []) ⟨fun b o e n hb _ => inB b o (ub.keep b o e n hb), fun b o e n hb _ => ?_, fun b o e n _ => ub.free b o e n, fun b o e _ => ?_, ub.tups, ub.frzs, ub.tbls⟩ (hok.kept inB) ag (fun _ z => nomatch z)
    · obtain ⟨sl, q⟩ := ub.slot b o e hb
      exact ⟨sl, (inF b hb).trans q⟩
    · by_cases hb : b ∈ frs X.stack
      · obtain ⟨sl, q⟩ := ub.slot b o e hb
        exact ⟨_, (inF b hb).trans q⟩
      · obtain ⟨o', q⟩ := ub.there b o e hb
        exact ⟨o', inB b o' q⟩
  refine ⟨a, B, _, H', cls, d, rfl, I', fun b o e hb => ?_, Heap.UpToSlots.of_keeps fun b o e => (out b o e).1, fl, na, os, ag, hE⟩
  obtain ⟨e1, h⟩ := out b o e
  rcases h with h | h
  · obtain ⟨o', q⟩ := Option.isSome_iff_exists.mp h
    have z := st b o' q
    rw [e1] at z; cases z
    exact q
  · exact absurd h hb
end
/-- a block whose element may raise what E says -/
abbrev blkE (X : Cx) (E : XK) (s : Shared) (H : Hp) (scope : Scope) (cenv : Env) (fp : List Addr) : Cx :=
  (X.blk s H scope cenv fp).wish fun e s' => ∃ (pins : List (Addr × Obj)) (σ : L2.St) (H' : Hp) (s0 : Shared), Inv (X.blk s H scope cenv fp) pins σ H' s0 ∧ L2.CX X.prog X.w X.stack H' s0 E e s'
theorem passes_blk {X : Cx} {E : XK} {s : Shared} {H : Hp} {scope : Scope} {cenv : Env} {fp : List Addr} : Passes (L2.CX X.prog X.w) (blkE X E s H scope cenv fp) E := fun pins σ H' s0 e s' I c => ⟨pins, σ, H', s0, I.unwish, c⟩
/-- out of the block, into the def -/
theorem blk_out {X : Cx} {E : XK} {pins pins' : List (Addr × Obj)} {σ0 σ : L2.St} {H3 H : Hp} {s3 s0 s' : Shared} {fp : List Addr} {scope : Scope} {ce : Env} {e : Value} (tk : Tk X E) (hs : X.stack = X.env :: X.outer) (hf : X.env.frame = some X.env.locals)
    (I3 : Inv X pins σ0 H3 s3) (f3 : ∀ b ∈ fp, FpOk X pins H3 b ∧ b < s3.heap.objs.size) (cL : ce.locals = s3.heap.objs.size) (cF : ce.frame = X.env.frame)
    (I : Inv (X.blk s3 H3 scope ce fp) pins' σ H s0) (c : L2.CX X.prog X.w X.stack H s0 E e s') : notedBy (model X.prog X.w) X.A ce (CompFails (model X.prog X.w) X.A X.xe ce) e s' := by
  obtain ⟨a, B, sI, H', cls, d, rfl, Ib, nb, up, fl, na, os, ag, hE⟩ := air_of I c
  have nb : ∀ b o, sI.heap.get? b = some o → b ∉ frs X.stack → B.get? b = some o := nb
  have fl : HandSPX.FlyingZ B X.stack a (Zc cls d) s'.heap := fl
  have nC : H' s3.heap.objs.size = none := by
    have z : H' ce.locals = none := Ib.free
    rw [cL] at z
    exact z
  have IX : Inv X pins σ0 H' sI := I3.call' (ch := fp) Ib.os Ib.base Ib.hok Ib.bare fun b hb => ⟨(f3 b hb).1.2.2.2.1, (f3 b hb).1.2.1, (f3 b hb).1.2.2.2.2.1, (f3 b hb).1.2.2.2.2.2⟩
  obtain ⟨m, hn, _⟩ := Ib.loc
  have hn : sI.heap.Ns ce.locals m := hn
  have hn' : s'.heap.Ns ce.locals m := hn.upToSlots up
  have hfr : X.A.frames = some (X.env :: X.outer) := by rw [I3.ok.frames, hs]
  let B' := PySem.W.hideAll B [ce.locals]
  have sub : ∀ b o, B'.get? b = some o → B.get? b = some o := fun b o e => PySem.W.of_hideAll _ e
  have fl' : HandSPX.FlyingZ B' (X.env :: X.outer) a (Zc cls d) s'.heap := by
    rw [hs] at fl
    obtain ⟨k1, k2, k3, oe, vs, T, oT, ts, he, hz, hd, h1, hnT, hr⟩ := fl
    have no : ∀ b, B.get? b = none → B'.get? b = none := fun b hb => by
      cases q : B'.get? b with
      | none => rfl
      | some o => rw [sub b o q] at hb; cases hb
    exact ⟨fun b o e => k1 b o (sub b o e), no a k2, funFrames_none k3 fun b hb => no b (k3.mem hb).1, oe, vs, T, oT, ts, he, hz, hd, h1, no T hnT, hr⟩
  refine notedZ (base := B') Zc.steady hfr cF hf (PySem.W.hideAll_none _ (by simp)) hn' fl' fun h2 hh2 k2 => ?_
  refine tk (.ref a) _ ⟨a, B', { sI with heap := PySem.W.hideAll sI.heap [ce.locals], toks := sI.toks }, pins, σ0, H', cls, d, rfl, ?_, fun b o e hb => ?_, fun b o e hnf => ?_, ?_, na, os, ag, hE⟩
  · obtain ⟨f0, f1, f2, f4, f5, f6⟩ := I3.fpOk (H' := H') (Nat.le_refl _) nC
    exact IX.turned (t' := sI.toks) (fun b o hb e => PySem.W.hideAll_get _ e (by rw [cL]; simpa using hb)) f0 f1 f4 f5 f6
  · have ne : b ≠ ce.locals := fun z => by
      have := PySem.W.hideAll_none (h := sI.heap) [ce.locals] (b := b) (by simp [z])
      rw [this] at e; cases e
    exact PySem.W.hideAll_get _ (nb b o (PySem.W.of_hideAll _ e) hb) (by simpa using ne)
  · have ne : b ≠ ce.locals := fun z => by
      have := PySem.W.hideAll_none (h := sI.heap) [ce.locals] (b := b) (by simp [z])
      rw [this] at e; cases e
    obtain ⟨sl, e1⟩ := up b o (PySem.W.of_hideAll _ e) hnf
    obtain ⟨sl2, e2⟩ := k2 b _ e1 ne hnf
    exact ⟨sl2, e2⟩
  · rw [hs]
    exact .inr (.inr hh2)
end PV

set_option Elab.async false
set_option linter.all false
set_option maxRecDepth 100000
set_option maxHeartbeats 4000000
/-! a list comprehension whose element may raise (HandS.Comp's rule with the raise let out of the block) -/
namespace PV
open PySem PySem.Spec L2
open PyProof.Rows

section
variable {X : Cx}
theorem lcE_core {E : XK} {pins : List (Addr × Obj)} {s : Shared} {σ : L2.St} {H : Hp} {Q : VK} {elt tg iter : Expr} {ifs : List Expr} {scope : Scope} {own : List (Str × Nat)} {pos pos' : Pos} {wi : TI} {g : TG} {tt : TT} {te : TE} {use : Option (Value → Sem Unit)} {Qf : Value → Shared → Prop}
    (tk : Tk X E) (hst : X.stack = X.env :: X.outer) (hf : X.env.frame = some X.env.locals)
    (hc : X.calm = true) (hN : X.N.Nodup) (I : Inv X pins σ H s) (hi : PI X tg iter wi) (ok : BlkOk X.N X.env.scope scope own)
    (hg : ∀ (s : Shared) (H : Hp) (C : Addr) (cl : List (Str × Addr)) (fp : List Addr), PG (X.blk s H scope (compEnvC scope cl C X.env) fp) tg g) (ht : ∀ (s : Shared) (H : Hp) (C : Addr) (cl : List (Str × Addr)) (fp : List Addr), PTs (X.blk s H scope (compEnvC scope cl C X.env) fp) ifs tt)
    (he : ∀ (s : Shared) (H : Hp) (C : Addr) (cl : List (Str × Addr)) (fp : List Addr), PE (blkE X E s H scope (compEnvC scope cl C X.env) fp) elt te) (hs : ∀ x, foldedSetIterable iter X.env x = pure x)
    (h : tLc wi g tt te (own.map (·.2)) σ H Q)
    (hRR : ∀ D (ce : Env) s' m H', Inv X pins σ H' s' → Q (.ref D) H' → s'.heap.Ns ce.locals m → FpOk X pins H' ce.locals → compEnds (model X.prog X.w) X.A X.xe use Qf (.ref D) ce (.ok .next) s') :
    wpAny (model X.prog X.w) X.A (comprehension (.ListComp elt [⟨tg, iter, ifs, 0⟩] scope pos) scope X.env pos' (newList []) false (eval iter X.env) use) Qf X.xe s := by
  have hfree : ∀ y ∈ scope.names, y.2 = .free → ∃ c, X.env.cells.lookup y.1 = some c := fun y hy e => by
    rcases ok.free y hy e with k | k
    · exact I.ok.has _ (.inl k)
    · exact I.ok.has _ (.inr k)
  refine comprehension_at (use := use) rfl hs (closure_ok hfree) ok.kind (fun y hy e => by rw [ok.uniq y hy, e])
    (thn (hi.run pins s σ H _ I h) fun xv s1 hx => thn hx fun itv s2 h2 => ?_)
  obtain ⟨it, fp, tn, J, H2, e, I2, T, st2, f2, q⟩ := h2
  subst e
  refine wpAny_newObj_type (newEnv_comp ?_) (by show 0 ≤ sizeLine; decide)
  generalize hD : s2.heap.objs.size = D
  have hDn : H2 D = none := I2.hok.fresh (Nat.le_of_eq hD)
  obtain ⟨W, ⟨m0, w0⟩, turn⟩ := q D hDn
  generalize hs3 : ({ s2 with heap := s2.heap.push { cls := .type "list", data := .seq ([] : List Value).toArray } } : Shared) = s3
  have I3 : Inv X pins σ (upd H2 D (.lst [])) s3 := by
    rw [← hs3]
    refine I2.laid (t' := s2.toks) (fun b o e => Heap.get?_push_of_some _ e) (Nat.le_of_eq hD) ⟨Nat.zero_le _, [], 0, .nil, ?_⟩
    rw [← hD]
    exact Heap.get?_push_size _ rfl
  have h3 : s3.heap = s2.heap.push { cls := .type "list", data := .seq ([] : List Value).toArray } := by rw [← hs3]
  have f3 : ∀ b ∈ fp, FpOk X pins (upd H2 D (.lst [])) b ∧ b < s3.heap.objs.size := fun b hb => by
    have hlt : b < s2.heap.objs.size := by
      obtain ⟨o, e, _⟩ := T.obj _ _ st2 b hb
      exact Heap.lt_size e
    refine ⟨⟨?_, (f2 b hb).2⟩, by rw [h3, Heap.size_push]; exact Nat.lt_succ_of_lt hlt⟩
    rw [upd_ne (by rw [← hD]; exact Nat.ne_of_lt hlt)]
    exact (f2 b hb).1
  have st3 : tn 0 s3.heap := T.keep _ _ _ st2 fun b _ o e => by rw [h3]; exact Heap.get?_push_of_some _ e
  have I4 := block_start I3 ok hN f3
  have pg := hg s3 (upd H2 D (.lst [])) s3.heap.objs.size (cellsFrom (s3.heap.objs.size + 1) scope.names (cloFrom X.env.cells scope.names [])) fp
  have pt := ht s3 (upd H2 D (.lst [])) s3.heap.objs.size (cellsFrom (s3.heap.objs.size + 1) scope.names (cloFrom X.env.cells scope.names [])) fp
  have pe := he s3 (upd H2 D (.lst [])) s3.heap.objs.size (cellsFrom (s3.heap.objs.size + 1) scope.names (cloFrom X.env.cells scope.names [])) fp
  show codeAny _ _ (.compStart (.ListComp elt [⟨tg, iter, ifs, 0⟩] scope pos) 0 (.ref it) (.ref D) (compEnvC scope (cellsFrom (s3.heap.objs.size + 1) scope.names (cloFrom X.env.cells scope.names [])) s3.heap.objs.size X.env)) (compEnds (model X.prog X.w) X.A X.xe use Qf (.ref D) (compEnvC scope (cellsFrom (s3.heap.objs.size + 1) scope.names (cloFrom X.env.cells scope.names [])) s3.heap.objs.size X.env)) { s3 with heap := pushCells (s3.heap.push { cls := .type "dict", data := .dict #[] }) scope.names }
  have nfp : ∀ b ∈ fp, (upd H2 D (.lst [])) b = none := fun b hb => (f3 b hb).1.1
  have cF : (compEnvC scope (cellsFrom (s3.heap.objs.size + 1) scope.names (cloFrom X.env.cells scope.names [])) s3.heap.objs.size X.env).frame = X.env.frame := rfl
  generalize hce : compEnvC scope (cellsFrom (s3.heap.objs.size + 1) scope.names (cloFrom X.env.cells scope.names [])) s3.heap.objs.size X.env = ce at I4 pg pt pe cF ⊢
  have cL : ce.locals = s3.heap.objs.size := by subst hce; rfl
  generalize hH3 : upd H2 D (.lst []) = H3 at I3 I4 pg pt pe w0 nfp f3
  generalize hs4 : ({ s3 with heap := pushCells (s3.heap.push { cls := .type "dict", data := .dict #[] }) scope.names } : Shared) = s4 at I4 ⊢
  have st4 : tn 0 s4.heap := T.keep _ _ _ st3 fun b _ o e => by rw [← hs4]; exact pushCells_keeps _ _ _ _ (Heap.get?_push_of_some _ e)
  have stat : ∀ {σ' : L2.St} {H' : Hp} {s' : Shared}, Inv (X.blk s3 H3 scope ce fp) [] σ' H' s' → (∀ b ∈ fp, H' b = none) → ∀ b ∈ fp, FpOk (X.blk s3 H3 scope ce fp) [] H' b := fun {σ' H' s'} I' hn b hb =>
    ⟨hn b hb, (I'.ok.exf b hb).1, I'.ok.exfs b hb, .inl hb, fun x c e => (I'.ok.exf b hb).2 x c e, fun p hp => absurd (show p ∈ ([] : List (Addr × Obj)) ++ [] from hp) (by simp)⟩
  have RE : ∀ e s', CompFails (model X.prog X.w) X.A X.xe ce e s' → compEnds (model X.prog X.w) X.A X.xe use Qf (.ref D) ce (.error e) s' := fun e s' z => by
    cases use <;> exact z
  have loop : codeAny (model X.prog X.w) X.A (.compLoop (.ListComp elt [⟨tg, iter, ifs, 0⟩] scope pos) 0 (.ref it) (.ref D) ce) (compEnds (model X.prog X.w) X.A X.xe use Qf (.ref D) ce) s4 := by
    refine compLoop_any (fun n s' => ∃ i H', Inv (X.blk s3 H3 scope ce fp) [] (wipe σ (own.map (·.2))) H' s' ∧ tn i s'.heap ∧ (∀ b ∈ fp, H' b = none) ∧ W i n H') ?_ m0 ⟨0, H3, I4, st4, nfp, w0⟩
    rintro n s5 ⟨i, H5, I5, st5, n5, w5⟩
    rcases turn i n H5 w5 with ⟨stop, qq⟩ | ⟨go, Nx, hNx, step⟩
    · have td := T.done (X.blk s3 H3 scope ce fp) rfl rfl rfl hc i [] s5 _ H5 (fun _ _ => False) I5 (stat I5 n5) st5 stop
      refine thnF td fun r s6 ⟨hr, I6⟩ => ?_
      subst hr
      have I7 : Inv X pins σ H5 s6 := I3.call' (ch := fp) I6.os I6.base I6.hok I6.bare fun b hb => ⟨(f3 b hb).1.2.2.2.1, (f3 b hb).1.2.1, (f3 b hb).1.2.2.2.2.1, (f3 b hb).1.2.2.2.2.2⟩
      have nC : H5 s3.heap.objs.size = none := by
        have z : H5 ce.locals = none := I6.free
        rw [cL] at z
        exact z
      obtain ⟨m, hn, _⟩ := I6.loc
      have hn : s6.heap.Ns ce.locals m := hn
      exact hRR D ce s6 m H5 I7 qq hn (by rw [cL]; exact I3.fpOk (Nat.le_refl _) nC)
    · have ti := T.item (X.blk s3 H3 scope ce fp) rfl rfl rfl hc i [] s5 _ H5 (fun _ _ => False) I5 (stat I5 n5) st5 go
      refine thnF ti fun r s6 ⟨u, hr, h6⟩ => ?_
      subst hr
      refine thnF h6 fun _ s7 ⟨x, H7, I7, r7, y7, st7, n7⟩ => ?_
      have I7' := I7.pinned (stat I7 n7) (T.obj _ _ st7)
      refine thnF (pg.run _ s7 _ H7 x u _ I7' r7 (step x H7 y7)) fun _ s8 ⟨σ8, H8, I8, hw8, q8⟩ => ?_
      refine thnF (pt.run _ s8 σ8 H8 _ I8 q8) fun b s9 ⟨H9, I9, q9⟩ => ?_
      have fin : ∀ {s' : Shared} {H' : Hp}, Inv (X.blk s3 H3 scope ce fp) ([] ++ pinsAt fp s7.heap) σ8 H' s' → Nx H' → ∃ m, m < n ∧ ∃ i H', Inv (X.blk s3 H3 scope ce fp) [] (wipe σ (own.map (·.2))) H' s' ∧ tn i s'.heap ∧ (∀ b ∈ fp, H' b = none) ∧ W i m H' := fun {s' H'} I' nx => by
        obtain ⟨m', hm, w'⟩ := hNx H' nx
        have pin' : ∀ b ∈ fp, ∀ o, s7.heap.get? b = some o → s'.heap.get? b = some o ∧ H' b = none := fun b hb o e =>
          let z := I'.pin (b, o) (List.mem_append_right _ (List.mem_append_right _ (mem_pinsAt hb e)))
          ⟨z.1, z.2.1⟩
        have hl : (wipe σ (own.map (·.2))).length = σ8.length := by rw [← hw8, wipe_length]
        refine ⟨m', hm, i + 1, H', (I'.unpinned (pins := [])).weak hl (fun j v e => ?_), T.keep _ _ _ st7 fun b hb o e => (pin' b hb o e).1, fun b hb => ?_, w'⟩
        · rw [← hw8] at e
          exact (wipe_some e).1
        · obtain ⟨o, e, _⟩ := T.obj _ _ st7 b hb
          exact (pin' b hb o e).2
      cases b with
      | false =>
        simp only [Bool.false_eq_true, if_false] at q9 ⊢
        exact fin I9 q9
      | true =>
        simp only [if_true] at q9 ⊢
        have run := pe.run _ s9 σ8 H9 _ (I9.wish _) q9
        refine wpAny_mono run (fun z s10 ⟨yv, H10, I10, r10, acc, hD10, hz10, nx⟩ => ?_) fun e s' ⟨pins', σ', H', s0, Ie, ce'⟩ => ?_
        · exact app_ok (X := X.blk s3 H3 scope ce fp) I10.unwish hD10 hz10 r10 fun s11 I11 => fin I11 nx
        · exact wpAny_mono (blk_out tk hst hf I3 f3 cL cF Ie ce') (fun _ s'' z => RE e s'' z) fun _ _ z => RE _ _ z
  exact codeAny_compStart_list loop (T.self X.A 0 _ _ _ st4 loop)
theorem pe_lcE {E : XK} {elt tg iter : Expr} {ifs : List Expr} {scope : Scope} {own : List (Str × Nat)} {pos : Pos} {wi : TI} {g : TG} {tt : TT} {te : TE} (tk : Tk X E) (hst : X.stack = X.env :: X.outer) (hf : X.env.frame = some X.env.locals) (hc : X.calm = true) (hN : X.N.Nodup) (hi : PI X tg iter wi) (ok : BlkOk X.N X.env.scope scope own)
    (hg : ∀ (s : Shared) (H : Hp) (C : Addr) (cl : List (Str × Addr)) (fp : List Addr), PG (X.blk s H scope (compEnvC scope cl C X.env) fp) tg g) (ht : ∀ (s : Shared) (H : Hp) (C : Addr) (cl : List (Str × Addr)) (fp : List Addr), PTs (X.blk s H scope (compEnvC scope cl C X.env) fp) ifs tt)
    (he : ∀ (s : Shared) (H : Hp) (C : Addr) (cl : List (Str × Addr)) (fp : List Addr), PE (blkE X E s H scope (compEnvC scope cl C X.env) fp) elt te) (hs : ∀ x, foldedSetIterable iter X.env x = pure x := by intro _; rfl) :
    PE X (.ListComp elt [⟨tg, iter, ifs, 0⟩] scope pos) (tLc wi g tt te (own.map (·.2))) := by
  refine ⟨fun pins s σ H Q I h => ?_⟩
  rw [eval_ListComp]
  refine lcE_core tk hst hf hc hN I hi ok hg ht he hs h fun D ce s' m H' I' q hn f => ⟨m, hn, fun h'' sb => ?_⟩
  obtain ⟨f0, f1, f2, f3, f4, f5⟩ := f
  exact ⟨.ref D, H', I'.turned (t' := s'.toks) (fun b o hb e => (sb.2 b hb).trans e) f0 f1 f3 f4 f5, rfl, q⟩
theorem ps_setLcE {E : XK} {i : Nat} {y : Str} {py : Pos} {elt tg iter : Expr} {ifs : List Expr} {scope : Scope} {own : List (Str × Nat)} {pos spos : Pos} {wi : TI} {g : TG} {tt : TT} {te : TE} (tk : Tk X E) (hst : X.stack = X.env :: X.outer) (hf : X.env.frame = some X.env.locals) (hc : X.calm = true) (hN : X.N.Nodup) (hy : X.N[i]? = some y) (hyl : X.env.scope.names.lookup y = some .local)
    (hsw : swapsWith (.ListComp elt [⟨tg, iter, ifs, 0⟩] scope pos) (some (.Name y py)) spos.line X.env = pure true) (hi : PI X tg iter wi) (ok : BlkOk X.N X.env.scope scope own)
    (hg : ∀ (s : Shared) (H : Hp) (C : Addr) (cl : List (Str × Addr)) (fp : List Addr), PG (X.blk s H scope (compEnvC scope cl C X.env) fp) tg g) (ht : ∀ (s : Shared) (H : Hp) (C : Addr) (cl : List (Str × Addr)) (fp : List Addr), PTs (X.blk s H scope (compEnvC scope cl C X.env) fp) ifs tt)
    (he : ∀ (s : Shared) (H : Hp) (C : Addr) (cl : List (Str × Addr)) (fp : List Addr), PE (blkE X E s H scope (compEnvC scope cl C X.env) fp) elt te) (hs : ∀ x, foldedSetIterable iter X.env x = pure x := by intro _; rfl) :
    PS X (.Assign [.Name y py] (.ListComp elt [⟨tg, iter, ifs, 0⟩] scope pos) spos) (tAsg (tLc wi g tt te (own.map (·.2))) (gName i)) := by
  refine ⟨fun pins s σ H D I h => ?_⟩
  rw [exec_Assign_Name_used _ _ _ _ hsw]
  refine wpAny_bind (wpAny_standAt (wpAny_bind ?_))
  show wpAny _ X.A (do let _ ← comprehension (.ListComp elt [⟨tg, iter, ifs, 0⟩] scope pos) scope X.env (firstIterPos [⟨tg, iter, ifs, 0⟩] pos) (newList []) false (eval iter X.env) (some (assign (.Name y py) X.env))) _ _ s
  have h : tLc wi g tt te (own.map (·.2)) σ H (fun x H1 => gName i x σ H1 D.nx) := h
  refine wpAny_bind (thn (lcE_core (Qf := fun _ s' => SP X pins D .next s') tk hst hf hc hN I hi ok hg ht he hs h fun L ce s' m H' I' q hn f => ?_) fun _ s' hq => wpAny_pure (wpAny_pure hq))
  show wpAny _ _ (assign (.Name y py) X.env (.ref L)) _ _ _
  refine wpAny_assign_Name (store_ok2 (v := V.ref L) I' hN hy (.inl hyl) rfl (fun s2 I2 ⟨a, sb, ha⟩ => ?_) (.inr hyl))
  obtain ⟨f0, f1, f2, f3, f4, f5⟩ := f
  have haC : ce.locals ≠ a := by
    rcases ha with z | z
    · rw [z]; exact f1
    · exact fun e => f4 y a z e.symm
  refine ⟨m, hn.sameBut sb haC, fun h3 sb3 => ?_⟩
  exact ⟨_, H', I2.turned (t' := s2.toks) (fun b o hb e => (sb3.2 b hb).trans e) f0 f1 f3 f4 f5, q⟩
end
end PV

set_option Elab.async false
set_option linter.all false
set_option maxRecDepth 100000
set_option maxHeartbeats 4000000
/-! the same, as a function of values -/
namespace PV
open PySem PySem.Spec L2
open PyProof.Rows

abbrev LX := List Va ⊕ (Nat × Va)
noncomputable section
open Classical
def compLX (chk : Store → Prop) (tg : Tgt) (te : SE) (sw : SL) : List Va → Store → Option (LX × Store)
  | [], M => if chk M then some (.inl [], M) else none
  | x :: xs, M => if chk M then (match tg x sw M with
    | none => none
    | some s1 => match te s1 M with
      | some (.val y, M2) => (match compLX chk tg te sw xs M2 with
        | some (.inl ys, M3) => some (.inl (y :: ys), M3)
        | some (.inr z, M3) => some (.inr z, M3)
        | none => none)
      | some (.exc c v, M2) => some (.inr (c, v), M2)
      | none => none) else none
def evLcX (src : SI) (tg : Tgt) (te : SE) (vs : List Nat) : SE := fun s M => match src s M with
  | none => none
  | some (.it l chk, M1) => (match compLX chk tg te (wipeI s vs) l M1 with
    | some (.inl ys, M2) => some (.val (.lst ys), M2)
    | some (.inr (c, v), M2) => some (.exc c v, M2)
    | none => none)
  | some (.exc c v, M1) => some (.exc c v, M1)
end
def glueX (acc : List Va) : LX → LX
  | .inl r => .inl (acc ++ r)
  | .inr z => .inr z
section
variable {G : Sig} {E : XK}
theorem lc_walkX {t : Tgt} {te : SE} {vs ix : List Nat} {g : TG} (sm : TgSim G g t ix) (hix : ∀ i ∈ ix, i ∈ vs) {σ : L2.St} {R1 : Hp} {ρ1 : List Addr} {M1 M2 : Store} {H1 : Hp} {s : SL} {J : It} {l : List Va} {out : LX} {chk : Store → Prop} {Q : VK} {D : Addr}
    (w1 : Wd G R1 ρ1 M1 H1) (sr : SR G R1 ρ1 s σ) (hz : l.length ≤ sizeLine) (js : ItSim G R1 ρ1 J l chk) (hcomp : compLX chk t te (wipeI s vs) l M1 = some (out, M2)) (hD : H1 D = none)
    (fin : ∀ ys, out = .inl ys → ∀ R' ρ' H' acc, Ext R1 ρ1 H1 R' ρ' H' → Wd G R' ρ' M2 H' → H' D = some (.lst acc) → R' D = none → D ∉ ρ' → VRs G R' ρ' ys acc → ys.length ≤ sizeLine → Q (.ref D) H')
    (bad : ∀ c v, out = .inr (c, v) → PostX G R1 ρ1 H1 M2 E c v) :
    ∃ W : Nat → Nat → Hp → Prop, (∃ m, W 0 m (upd H1 D (.lst []))) ∧ ∀ i m H, W i m H →
      (J.stop i H ∧ Q (.ref D) H) ∨ (J.go i H ∧ ∃ Nx : Hp → Prop, (∀ H', Nx H' → ∃ m', m' < m ∧ W (i + 1) m' H') ∧ ∀ x H', J.yld i H x H' → g x (wipe σ vs) H' fun σ2 H2 => wipe σ2 vs = wipe σ vs ∧ tT G E evYes σ2 H2 fun b H3 =>
        if b = true then tE G E te σ2 H3 fun y H4 => ∃ acc, H4 D = some (.lst acc) ∧ acc.length < sizeLine ∧ Nx (upd H4 D (.lst (acc ++ [y]))) else Nx H3) := by
  have rD : R1 D = none := w1.nonR hD
  refine ⟨fun i m Hc => ∃ R' ρ' M' acc accI o, m = l.length - i ∧ i ≤ l.length ∧ Ext R1 ρ1 H1 R' ρ' Hc ∧ Wd G R' ρ' M' Hc ∧ Hc D = some (.lst acc) ∧ VRs G R' ρ' accI acc ∧ R' D = none ∧ (D ∉ ρ') ∧
    compLX chk t te (wipeI s vs) (l.drop i) M' = some (o, M2) ∧ glueX accI o = out ∧ accI.length ≤ i, ?_, ?_⟩
  · refine ⟨l.length, R1, ρ1, M1, [], [], out, rfl, Nat.zero_le _, Ext.heapNew hD, ?_, upd_same, .nil, rD, ?_, hcomp, by cases out <;> rfl, Nat.zero_le _⟩
    · exact w1.heap fun a o h => by rw [upd_ne (ne_of_none h hD)]; exact h
    · exact fun hm => w1.al D hm hD
  · rintro i m Hc ⟨R', ρ', M', acc, accI, o, rfl, hi, e', w', hDc, ra, rDn, nDr, hc, hy, hal⟩
    by_cases hlt : i < l.length
    · have ed : l.drop i = l[i] :: l.drop (i + 1) := List.drop_eq_getElem_cons hlt
      rw [ed] at hc
      unfold compLX at hc
      by_cases ck : chk M'
      · rw [if_pos ck] at hc
        obtain ⟨go, _⟩ := js R' ρ' M' Hc e'.gr w' ck
        obtain ⟨go, yld⟩ := go i l[i] (by simp [hlt])
        refine .inr ⟨go, fun H2 => ∃ R2 ρ2 M3 acc accI o, Ext R1 ρ1 H1 R2 ρ2 H2 ∧ Wd G R2 ρ2 M3 H2 ∧ H2 D = some (.lst acc) ∧ VRs G R2 ρ2 accI acc ∧ R2 D = none ∧ (D ∉ ρ2) ∧
          compLX chk t te (wipeI s vs) (l.drop (i + 1)) M3 = some (o, M2) ∧ glueX accI o = out ∧ accI.length ≤ i + 1, fun H2 ⟨R2, ρ2, M3, acc, accI, o, q⟩ => ⟨l.length - (i + 1), by omega, R2, ρ2, M3, acc, accI, o, rfl, hlt, q⟩, fun x H2 hyl => ?_⟩
        obtain ⟨R2, e2, w2, r2⟩ := yld x H2 hyl
        obtain ⟨rD2, nD2, hD2⟩ := e2.apart hDc rDn nDr
        cases q3 : t l[i] (wipeI s vs) M' with
        | none => rw [q3] at hc; cases hc
        | some s3 =>
          rw [q3] at hc
          have srw : SR G R2 ρ' (wipeI s vs) (wipe σ vs) := (SR.wipe (sr.mono (e'.gr.trans e2.gr)) vs)
          refine sm R2 ρ' M' H2 (wipeI s vs) s3 (wipe σ vs) l[i] x _ w2 srw r2 q3 fun σ3 sr3 hl3 hk3 => ⟨?_, ?_⟩
          · have z1 : wipe σ3 vs = wipe (wipe σ vs) vs := wipe_same hl3 fun j hj => hk3 j fun z => hj (hix j z)
            rw [z1]
            exact wipe_same (wipe_length σ vs) fun j hj => wipe_get σ j vs hj
          · dsimp only at hc
            refine ⟨R2, ρ', s3, M', w2, sr3, ?_⟩
            intro R5 ρ5 H5 e5 w5
            obtain ⟨rD5, nD5, hD5⟩ := e5.apart hD2 rD2 nD2
            refine iteT ?_
            refine ⟨R5, ρ5, s3, M', w5, sr3.mono e5.gr, ?_⟩
            rcases q6 : te s3 M' with _ | ⟨y | ⟨c, y⟩, M6⟩ <;> rw [q6] at hc
            · cases hc
            · intro R7 ρ7 H7 v e7 w7 r7
              obtain ⟨rD7, nD7, hD7⟩ := e7.apart hD5 rD5 nD5
              dsimp only at hc
              have eall := ((e'.trans e2).trans e5).trans e7
              have step : ∀ o2, compLX chk t te (wipeI s vs) (l.drop (i + 1)) M6 = some (o2, M2) → glueX (accI ++ [y]) o2 = out → ∃ acc, H7 D = some (.lst acc) ∧ acc.length < sizeLine ∧ ∃ R2 ρ2 M3 acc_1 accI o, Ext R1 ρ1 H1 R2 ρ2 (upd H7 D (.lst (acc ++ [v]))) ∧ Wd G R2 ρ2 M3 (upd H7 D (.lst (acc ++ [v]))) ∧ (upd H7 D (.lst (acc ++ [v]))) D = some (.lst acc_1) ∧ VRs G R2 ρ2 accI acc_1 ∧ R2 D = none ∧ (D ∉ ρ2) ∧
                  compLX chk t te (wipeI s vs) (l.drop (i + 1)) M3 = some (o, M2) ∧ glueX accI o = out ∧ accI.length ≤ i + 1 := fun o2 q8 hg => by
                refine ⟨acc, hD7, ?_, R7, ρ7, M6, acc ++ [v], accI ++ [y], o2, eall.mut hD, w7.other rD7 nD7, upd_same, VRs.append (ra.mono ((e2.trans e5).trans e7).gr) (.cons r7 .nil), rD7, nD7, q8, hg, by simp; omega⟩
                rw [← ra.length]
                omega
              rcases q8 : compLX chk t te (wipeI s vs) (l.drop (i + 1)) M6 with _ | ⟨ys8 | z8, M8⟩ <;> rw [q8] at hc
              · cases hc
              · cases hc
                exact step (.inl ys8) q8 (by rw [← hy]; simp [glueX])
              · cases hc
                exact step (.inr z8) q8 (by rw [← hy]; rfl)
            · dsimp only at hc
              cases hc
              have hb := bad c y (by rw [← hy]; rfl)
              exact PostX.ext ((e'.trans e2).trans e5) hb
      · rw [if_neg ck] at hc; cases hc
    · have e0 : i = l.length := by omega
      subst e0
      rw [List.drop_length] at hc
      unfold compLX at hc
      by_cases ck : chk M'
      · rw [if_pos ck] at hc
        cases hc
        obtain ⟨_, stop⟩ := js R' ρ' _ Hc e'.gr w' ck
        have hy2 : out = .inl accI := by rw [← hy]; simp [glueX]
        exact .inl ⟨stop _ (Nat.le_refl _), fin accI hy2 R' ρ' Hc acc e' w' hDc rDn nDr ra (by omega)⟩
      · rw [if_neg ck] at hc; cases hc
end
section
variable {X : Cx} {G : Sig} {E E2 : XK} {a b c tg elt iter : Expr} {es ifs : List Expr} {pos : Pos}
variable {src : SI} {t : Tgt} {te : SE} {ix : List Nat} {g : TG} {scope : Scope} {own : List (Str × Nat)}
theorem lc_frzX {σ : L2.St} {H : Hp} {Q : VK} (sm : TgSim G g t ix) (hix : ∀ i ∈ ix, i ∈ own.map (·.2)) (h : tE G E (evLcX src t te (own.map (·.2))) σ H Q) : tLc (tI G E src) g (tT G E evYes) (tE G E te) (own.map (·.2)) σ H Q := by
  obtain ⟨R, ρ, s, M, w, sr, p⟩ := h
  refine ⟨R, ρ, s, M, w, sr, ?_⟩
  unfold evLcX at p
  rcases q : src s M with _ | ⟨⟨l, chk⟩ | ⟨c, x⟩, M1⟩ <;> rw [q] at p
  · exact p
  · intro R1 ρ1 H1 J e1 w1 hz js D hD
    dsimp only at p
    rcases q2 : compLX chk t te (wipeI s (own.map (·.2))) l M1 with _ | ⟨out, M2⟩ <;> rw [q2] at p
    · exact False.elim p
    · refine lc_walkX sm hix w1 (sr.mono e1.gr) hz js q2 hD (fun ys ey R' ρ' H' acc e' w' hDc rDn nDr ra hzy => ?_) (fun c v ev => ?_)
      · subst ey
        exact p (upd R' D (.lst acc)) ρ' H' (.ref D) (e1.trans (e'.take hD rDn)) (w'.take hDc rDn nDr) (.lst upd_same hzy (ra.mono ⟨fun a o q => by rw [upd_ne (fun z => by subst z; rw [rDn] at q; cases q)]; exact q, fun _ _ q => q⟩))
      · subst ev
        exact PostX.ext e1 p
  · exact p
theorem q_lcX (tk : Tk X E) (hst : X.stack = X.env :: X.outer) (hf : X.env.frame = some X.env.locals) (hc : X.calm = true) (hN : X.N.Nodup) (hi : PI X tg iter (tI G E src)) (ok : BlkOk X.N X.env.scope scope own)
    (hg : ∀ (s : Shared) (H : Hp) (C : Addr) (cl : List (Str × Addr)) (fp : List Addr), QG (X.blk s H scope (compEnvC scope cl C X.env) fp) G tg g t ix)
    (he : ∀ (s : Shared) (H : Hp) (C : Addr) (cl : List (Str × Addr)) (fp : List Addr), PE (blkE X E s H scope (compEnvC scope cl C X.env) fp) elt (tE G E te))
    (hix : ∀ i ∈ ix, i ∈ own.map (·.2) := by decide) (hs : ∀ x, foldedSetIterable iter X.env x = pure x := by intro _; rfl) :
    PE X (.ListComp elt [⟨tg, iter, [], 0⟩] scope pos) (tE G E (evLcX src t te (own.map (·.2)))) :=
  ⟨fun pins s σ H Q I h => (pe_lcE tk hst hf hc hN hi ok (fun s H C cl fp => (hg s H C cl fp).pg) (fun _ _ _ _ _ => qts_nil) he hs).run pins s σ H Q I (lc_frzX (hg s H 0 [] []).sim hix h)⟩
theorem qs_setLcX {i : Nat} {y : Str} {py spos : Pos} (tk : Tk X E) (hst : X.stack = X.env :: X.outer) (hf : X.env.frame = some X.env.locals) (hc : X.calm = true) (hN : X.N.Nodup) (hy : X.N[i]? = some y) (hyl : X.env.scope.names.lookup y = some .local)
    (hsw : swapsWith (.ListComp elt [⟨tg, iter, [], 0⟩] scope pos) (some (.Name y py)) spos.line X.env = pure true) (hi : PI X tg iter (tI G E src)) (ok : BlkOk X.N X.env.scope scope own)
    (hg : ∀ (s : Shared) (H : Hp) (C : Addr) (cl : List (Str × Addr)) (fp : List Addr), QG (X.blk s H scope (compEnvC scope cl C X.env) fp) G tg g t ix)
    (he : ∀ (s : Shared) (H : Hp) (C : Addr) (cl : List (Str × Addr)) (fp : List Addr), PE (blkE X E s H scope (compEnvC scope cl C X.env) fp) elt (tE G E te))
    (hix : ∀ i ∈ ix, i ∈ own.map (·.2) := by decide) (hs : ∀ x, foldedSetIterable iter X.env x = pure x := by intro _; rfl) :
    PS X (.Assign [.Name y py] (.ListComp elt [⟨tg, iter, [], 0⟩] scope pos) spos) (tS G E (sSet i (evLcX src t te (own.map (·.2))))) :=
  ⟨fun pins s0 σ H D I ⟨R, ρ, s, M, w, sr, p⟩ => (ps_setLcE tk hst hf hc hN hy hyl hsw hi ok (fun s H C cl fp => (hg s H C cl fp).pg) (fun _ _ _ _ _ => qts_nil) he hs).run pins s0 σ H D I (lc_frzX (hg s0 H 0 [] []).sim hix
    (stepS (Q' := fun x H1 => gName i x σ H1 D.nx) w sr p fun R1 ρ1 M1 H1 va v e1 w1 sr1 r1 p1 => nxt_now w1 (sr1.set i r1) p1))⟩
/-- a call that may raise, in the element -/
theorem q_calP {es : List Expr} {ea : SE} {p' : Pos} {lv k n : Nat} {x : Str} {fM : FM} (C : CalE X.prog X.w X.K X.mg X.base G x lv n fM) (hp : Passes (L2.CX X.prog X.w) X E) (hr : Room k X.A) (hl : lv ≤ k) (hgd : X.A.guards = some []) (hg : Gl X x) (ha : PA X (a :: es) (tA G E ea)) (hdb : (x == ("__debug__" : Str)) = false := by decide)
    (he : starEach (a :: es) X.env = (false, eval a X.env) :: starEach es X.env := by rfl) (hpl : (backTo pos (starEach es X.env)).any (·.1) = false := by rfl) :
    PE X (.Call (.Name x p') (a :: es) [] pos) (tE G E (evL (kFn n fM) ea)) := by
  obtain ⟨f, fd, ps, hm, hk, hb, F⟩ := C.ex
  refine pe_imp (pe_callG F (hr.mono hl) hgd hg hm hk hb .nil hp ha hdb he hpl) fun σ H Q ⟨R, ρ, s, M, w, sr, p⟩ => stepA w sr p fun R1 ρ1 M1 H1 l vs e1 w1 sr1 r1 p1 => ?_
  unfold kFn at p1
  by_cases hl : l.length = n
  · rw [if_pos hl] at p1
    exact ⟨by rw [List.append_nil, ← r1.length]; exact hl, R1, ρ1, M1, l, w1, by rw [List.append_nil]; exact r1, p1⟩
  · rw [if_neg hl] at p1; exact False.elim p1
end
end PV

set_option Elab.async false
set_option linter.all false
set_option maxRecDepth 100000
set_option maxHeartbeats 4000000
namespace PV
open PySem PySem.Spec L2
open PyProof.Rows
/-! ### xs.insert(i, y), i not below 0 -/
def cInsert : Cell → List Va → Option (Cell × Va)
  | .lst l, [.int i, y] => if l.length < sizeLine ∧ 0 ≤ i ∧ i < 2 ^ 63 then some (.lst (l.take i.toNat ++ [y] ++ l.drop i.toNat), .non) else none
  | _, _ => none
section
variable {G : Sig}
theorem s_insert : OpM G "list" (fun x vs H Q => ∃ (l : Addr) (xs : List V) (i : Int) (y : V), x = .ref l ∧ vs = [.int i, y] ∧ H l = some (.lst xs) ∧ xs.length < sizeLine ∧ 0 ≤ i ∧ i < 2 ^ 63 ∧
    Q .non (upd H l (.lst (xs.take i.toNat ++ [y] ++ xs.drop i.toNat)))) (kMut cInsert) := mut_of (fun c l c' y h => by unfold cInsert at h; split at h; exact ⟨_, rfl⟩; cases h) fun R ρ M H a vs l0 l xs l' y Q w ha r0 z rv h k => by
  unfold cInsert at h
  split at h
  · rename_i l1 i y1 e1
    cases e1
    obtain ⟨u, v, rfl, ri, ry⟩ := two_of rv
    cases ri
    split at h
    · rename_i hz
      cases h
      exact ⟨a, vs, i, v, rfl, rfl, ha, by rw [← r0.length]; exact hz.1, hz.2.1, hz.2.2, k _ .non .non fun H' hH => ⟨_, hH, by simp only [List.length_append, List.length_take, List.length_drop, List.length_cons, List.length_nil]; omega, VRs.append (VRs.append (VRs.take i.toNat r0) (.cons ry .nil)) (VRs.drop i.toNat r0)⟩⟩
    · cases h
  · cases h
end
end PV

set_option Elab.async false
set_option linter.all false
set_option maxRecDepth 100000
set_option maxHeartbeats 4000000
/-! list(d.values()); any of ints -/
namespace PV
open PySem PySem.Spec L2
open PyProof.Rows
def rValsL : V → Hp → VK → Prop := fun x H Q => ∃ (d : Addr) (kvs : List (Key × V)), x = .ref d ∧ H d = some (.dK kvs) ∧ ∀ l, H l = none → Q (.ref l) (upd H l (.lst (kvs.map (·.2))))
def tListVals (te : TE) : TE := fun σ H Q => te σ H fun x H1 => rValsL x H1 Q
section
variable {X : Cx} {e : Expr} {te : TE} {p apos cpos pos : Pos}
theorem paired_vals {kvs : List (Key × V)} {vs : List (Key × Value)} (kv : KV kvs vs) : ∀ {its : List Value}, its.length = vs.length → (∀ (j : Nat) (v : Value), its[j]? = some v → ∃ q : Key × Value, vs[j]? = some q ∧ v = q.2) → Vals (kvs.map (·.2)) its := by
  induction kv with
  | nil =>
    intro its h _
    cases its with
    | nil => exact .nil
    | cons a b => cases h
  | cons r t ih =>
    intro its h g
    cases its with
    | nil => cases h
    | cons a b =>
      obtain ⟨q, e1, e2⟩ := g 0 a (by simp)
      cases e1
      refine .cons ?_ (ih (Nat.succ.inj h) fun j v hj => g (j + 1) v (by simpa using hj))
      rw [e2]
      exact r.2
theorem pe_listVals (hc : X.calm = true) (he : PE X e te) (hg : Gl X "list") (hm : X.mg "list" = none) (hv : bootBuiltins "list" = some (.type "list")) (hbase : attributeBase e "values" X.env (eval e X.env) = eval e X.env := by rfl) (hline : (apos.endLine == cpos.line) = true := by rfl)
    (hs : starEach [.Call (.Attribute e "values" apos) [] [] cpos] X.env = (false, eval (.Call (.Attribute e "values" apos) [] [] cpos) X.env) :: starEach [] X.env := by rfl) :
    PE X (.Call (.Name "list" p) [.Call (.Attribute e "values" apos) [] [] cpos] [] pos) (tListVals te) := by
  refine ⟨fun pins s σ H Q I hq => ?_⟩
  refine wpAny_Call_Name_kw (ld_blt I hg hm hv ?_)
  refine PyProof.Rows.callWith_type1 ?_ hs rfl
  rw [hs]
  show wpAny _ _ (spliced ((false, eval (.Call (.Attribute e "values" apos) [] [] cpos) X.env) :: backTo pos (starEach [] X.env))) _ _ s
  refine Calls.spliced_cons ?_
  refine wpAny_Call_method (T := "dict") (id := "dict.values") hbase rfl hline F.plainAttrs_dict F.slot_dict_values F.type_dict_values (thn (he.run pins s σ H _ I hq) fun u s1 ⟨x, H1, I1, rx, d, kvs, ex, hd, q⟩ => ?_)
  subst ex
  obtain rfl : u = Value.ref d := rx
  obtain ⟨hz, hs0, vs, kv, hdo⟩ := I1.hok d _ hd
  obtain ⟨ep, hat⟩ := hdo.dictAt
  have lk : kvs.length = vs.length := Paired.length kv
  have I2 : Inv X pins σ H1 { s1 with heap := s1.heap.push { cls := .type "dict_values", data := .fields #[.ref d] } } := I1.kept (t' := s1.toks) fun b ob q => Heap.get?_push_of_some _ q
  refine ⟨hdo.typeIs, hdo.mapOf.noDict, ?_⟩
  show wpAny _ _ (callWith cpos (.builtin "dict.values") [.ref d] [] []) _ X.xe s1
  refine method_meetsIn F.slot_dict_values F.entry_dict_values rfl (PySem.evalArgs_none ⟨rfl, hdo.typeIs, F.args_dict_values_1 _, _, meets_dict_values (mixKind X.prog X.w) d hs0, ⟨vs, hdo⟩, ?_⟩)
  refine Calls.spliced_nil ?_
  obtain ⟨es, hraw, hsz, hent⟩ := (hat.push { cls := .type "dict_values", data := .fields #[.ref d] }).raw
  refine PySem.W.kdl_call (PySem.KdlSrc.rawValues (prog := X.prog) (w := X.w) (r := s1.heap.objs.size) (d := d) (es := es) (ep := ep)) (I1.ok.hd hc) ⟨⟨_, Heap.get?_push_size _ rfl, rfl, rfl⟩, hraw⟩ (by rw [hsz]; omega) fun h' tk acc' c' hk hS hacc => ?_
  have hits : Vals (kvs.map (·.2)) acc'.toList := paired_vals kv (by rw [Array.length_toList, hacc.1, hsz]) fun j v hj => by
    have hj' : acc'[j]? = some v := by rw [← Array.getElem?_toList]; exact hj
    obtain ⟨hi, ev⟩ := hacc.2 j v hj'
    have hlt : j < vs.length := by rw [← hsz]; exact hi
    have hq := hent j hi vs[j].1 vs[j].2 (by rw [List.getElem?_eq_getElem hlt])
    exact ⟨vs[j], List.getElem?_eq_getElem hlt, by rw [ev, hq.2]⟩
  have fr := I2.hok.fresh (Nat.le_refl _)
  have I3 : Inv X pins σ (upd H1 (s1.heap.push { cls := .type "dict_values", data := .fields #[.ref d] }).objs.size (.lst (kvs.map (·.2)))) { s1 with heap := h', toks := tk } :=
    I2.laid (t' := tk) (fun b o q => hk b o q) (Nat.le_refl _) ⟨by rw [List.length_map]; omega, acc'.toList, c', hits, by rw [Array.toArray_toList]; exact hS⟩
  exact ⟨.ref _, _, I3, rfl, q _ fr⟩
end
/-! ### any of ints -/
theorem truth_ints {prog : Program} {w : World} {A : Around} {ns : List Int} {its : List Value} (e : Vals (ns.map V.int) its) :
    TruthOf prog w A (fun i v => its.toArray[i]? = some v) (fun i => ns.getD i 0 != 0) := fun i v s Q E hv hq => by
  have hv' : its[i]? = some v := by simpa using hv
  have : ∀ {ns : List Int} {its : List Value} {i : Nat}, Vals (ns.map V.int) its → its[i]? = some v → ∃ n t, v = .int n t ∧ ns.getD i 0 = n := by
    intro ns
    induction ns with
    | nil => intro its i h g; cases h; cases g
    | cons n ns ih =>
      intro its i h g
      cases h with
      | cons r t =>
        cases i with
        | zero =>
          cases g
          obtain ⟨tk, ht⟩ := r
          exact ⟨n, tk, ht, rfl⟩
        | succ i => exact ih t g
  obtain ⟨n, t, rfl, hn⟩ := this e hv'
  have hq' : Q (ns.getD i 0 != 0) s := hq
  rw [hn] at hq'
  exact P.truthy_int hq'
theorem anyI_range : ∀ ns : List Int, (List.range ns.length).any (fun i => ns.getD i 0 != 0) = ns.any (· != 0)
  | [] => rfl
  | n :: ns => by
    rw [List.length_cons, List.range_succ_eq_map, List.any_cons, List.any_map, List.any_cons, ← anyI_range ns]
    rfl
def rAnyI (K : PySem.W.Frag) : List V → Hp → VK → Prop := fun vs H Q => ∃ (a : Addr) (ns : List Int), vs = [V.ref a] ∧ SqL K H a (ns.map V.int) ∧ Q (.bl (ns.any (· != 0))) H
theorem cr_anyI {X : Cx} (hc : X.calm = true) : CallR X (.builtin "any") (rAnyI X.K) := by
  intro pins s σ H vs us Q I r h
  obtain ⟨a, ns, rfl, hs, q⟩ := h
  obtain ⟨its, rv, hl, _⟩ := I.list hs
  rw [Vals.ref1 r]
  have hlen : ns.length = its.length := by have := Paired.length rv; rw [List.length_map] at this; exact this
  refine call_any_walk (iter_any hl.isList fun s₂ e2 st hne => ?_)
  subst e2
  refine ⟨_, _, _, _, _, _, _, rfl, Walks.list (A := X.A.in1) (I.ok.hd hc) _ a hne its.toArray, st, truth_ints rv, fun h' tk hk => ?_⟩
  refine ⟨.bl _, H, I.kept fun b o eo => hk b o (fun hmem => ?_) (Heap.get?_push_of_some _ eo), ?_, q⟩
  · rcases List.mem_cons.mp hmem with e1 | hmem
    · exact absurd (e1 ▸ Heap.lt_size eo) (Nat.lt_irrefl _)
    · cases hmem
  · show Value.bool _ = Value.bool _
    rw [← anyI_range, List.size_toArray, hlen]
/-! ### by values -/
def evVals (ee : SE) : SE := fun s M => bindO (ee s M) fun x M1 => match dicOf M1 x with
  | some l => some (.val (.lst (l.map (·.2))), M1)
  | none => none
def gAnyI (M : Store) : List Va → Option Va
  | [x] => match lstOf M x with
    | some l => (intsOf l).map fun ns => .bl (ns.any (· != 0))
    | none => none
  | _ => none
section
variable {G : Sig} {R : Hp} {ρ : List Addr}
theorem VRk.vals : ∀ {l : List (Key × Va)} {vs : List (Key × V)}, VRk G R ρ l vs → VRs G R ρ (l.map (·.2)) (vs.map (·.2))
  | _, _, .nil => .nil
  | _, _, .cons r t => .cons r (VRk.vals t)
end
section
variable {X : Cx} {G : Sig} {E : XK} {e : Expr} {ee : SE} {p apos cpos pos : Pos}
theorem q_listVals (hc : X.calm = true) (hg : Gl X "list") (hm : X.mg "list" = none) (hv : bootBuiltins "list" = some (.type "list")) (he : PE X e (tE G E ee)) (hbase : attributeBase e "values" X.env (eval e X.env) = eval e X.env := by rfl) (hline : (apos.endLine == cpos.line) = true := by rfl)
    (hs : starEach [.Call (.Attribute e "values" apos) [] [] cpos] X.env = (false, eval (.Call (.Attribute e "values" apos) [] [] cpos) X.env) :: starEach [] X.env := by rfl) :
    PE X (.Call (.Name "list" p) [.Call (.Attribute e "values" apos) [] [] cpos] [] pos) (tE G E (evVals ee)) :=
  pe_imp (pe_listVals hc he hg hm hv hbase hline hs) fun σ H Q ⟨R, ρ, s, M, w, sr, p⟩ => stepE w sr p fun R1 ρ1 M1 H1 va v e1 w1 sr1 r1 p1 => by
    cases h : dicOf M1 va with
    | none => rw [h] at p1; exact p1.elim
    | some l =>
      rw [h] at p1
      obtain ⟨a, vs, rfl, hd, rk, z⟩ := dic_read w1 r1 h
      exact ⟨a, vs, rfl, hd, fun q hq => gives_lst w1 (VRk.vals rk) (by rw [List.length_map]; exact z) p1 hq⟩
theorem s_anyI (hK : X.K = G.K) : OpL G (rAnyI X.K) (kPure gAnyI) := pure_of fun R ρ M H xs l res Q w rv h g => by
  unfold gAnyI at h
  split at h
  · obtain ⟨v, rfl, r⟩ := one_of rv
    split at h
    · rename_i l hl
      cases q : intsOf l with
      | none => rw [q] at h; cases h
      | some ns =>
        rw [q] at h
        cases h
        obtain ⟨a, vs, rfl, sq, rv', _⟩ := lst_read w r hl
        rw [ints_of rv' q] at sq
        exact ⟨a, ns, rfl, by rw [hK]; exact sq, gives_now w (.bl _) g⟩
    · cases h
  · cases h
end
end PV

set_option Elab.async false
set_option linter.all false
set_option maxRecDepth 100000
set_option maxHeartbeats 4000000
/-! upper, lstrip of signs, a text times an int, a short text turned about -/
namespace PV
open PySem PySem.Spec L2
open PyProof.Rows
def gUpper (_ : Store) : Va → List Va → Option Va
  | .str a, [] => if a.length ≤ 5592405 then some (.str (Txt.upper a)) else none
  | _, _ => none
def gLstrip (_ : Store) : Va → List Va → Option Va
  | .str a, [.str b] => if a.length ≤ sizeLine then some (.str (Txt.lstripChars a b)) else none
  | _, _ => none
section
variable {X : Cx} {G : Sig}
theorem s_upper : OpM G "str" (fun x xs H Q => ∃ a, x = .str a ∧ xs = [] ∧ a.length ≤ 5592405 ∧ Q (.str (Txt.upper a)) H) (kVal gUpper) := val_of fun R ρ M H x xs o l res Q w ro rv h g => by
  unfold gUpper at h
  split at h
  · cases ro; cases rv
    split at h
    · rename_i hz; cases h; exact ⟨_, rfl, rfl, hz, gives_now w (.str _) g⟩
    · cases h
  · cases h
theorem s_lstrip : OpM G "str" (fun x xs H Q => ∃ a b, x = .str a ∧ xs = [.str b] ∧ a.length ≤ sizeLine ∧ Q (.str (Txt.lstripChars a b)) H) (kVal gLstrip) := val_of fun R ρ M H x xs o l res Q w ro rv h g => by
  unfold gLstrip at h
  split at h
  · cases ro
    obtain ⟨v, rfl, r⟩ := one_of rv
    cases r
    split at h
    · rename_i hz; cases h; exact ⟨_, _, rfl, rfl, hz, gives_now w (.str _) g⟩
    · cases h
  · cases h
/-! split into a list that will change -/
def kSplitC (o : Va) (l : List Va) (M : Store) : Res := match o, l with
  | .str a, [.str b] => if (b.length == 0) = false ∧ a.length + 2 ≤ sizeLine ∧ (Txt.split a b).length ≤ sizeLine then some (.val (.cel M.nx), M.new (.lst ((Txt.split a b).map Va.str))) else none
  | _, _ => none
theorem s_splitC : OpM G "str" (fun x xs H Q => ∃ a b, x = .str a ∧ xs = [.str b] ∧ (b.length == 0) = false ∧ a.length + 2 ≤ sizeLine ∧ rNewStrs (Txt.split a b) H Q) kSplitC := fun R ρ M H x xs o l Q E w ro rv p => by
  unfold kSplitC at p
  split at p
  · cases ro
    rename_i a b
    obtain ⟨v, rfl, r⟩ := one_of rv
    cases r
    split at p
    · rename_i hz
      exact ⟨a, b, rfl, rfl, hz.1, hz.2.1, fun q hq => gives_new w (VRs.strs _) (by rw [List.length_map]; exact hz.2.2) p hq⟩
    · exact False.elim p
  · exact False.elim p
/-! a text times an int -/
def repS (a : Str) (k : Int) : Str := if a.length = 0 then a else ⟨(List.replicate k.toNat a.cps).foldl (· ++ ·) #[]⟩
def rRepS : R2 := fun x y H Q => ∃ a k, x = .str a ∧ y = .int k ∧ 2 ≤ k ∧ k ≤ 1000 ∧ a.length ≤ 1000 ∧ Q (.str (repS a k)) H
theorem op_repS : OpR X (binaryOp .Mult) rRepS := by
  intro pins s σ H x y v u Q I rx ry h
  obtain ⟨a, k, rfl, rfl, h1, h2, h3, q⟩ := h
  obtain ⟨t, rfl⟩ := rx
  obtain ⟨t', rfl⟩ := ry
  have hm : a.length * k.toNat ≤ 1000 * 1000 := Nat.mul_le_mul h3 (by omega)
  refine PySem.P.mul_str ?_ (fun _ _ => ?_) (fun _ _ => short24 (by omega)) ?_
  · rw [decide_eq_false (by omega), decide_eq_false (by omega)]; rfl
  · have : (1000 : Int) ≤ (2 ^ 63 - 1) / k := Int.le_ediv_of_mul_le (by omega) (by omega)
    omega
  · rw [if_neg (by omega)]
    unfold repS at q
    by_cases h0 : a.length = 0
    · rw [if_pos h0] at q
      rw [if_pos (by rw [h0]; simp)]
      exact ⟨.str a, H, I, ⟨_, rfl⟩, q⟩
    · rw [if_neg h0] at q
      rw [if_neg (by
        have e1 : (k == 1) = false := by rw [beq_eq_false_iff_ne]; omega
        have e2 : (a.length == 0) = false := by rw [beq_eq_false_iff_ne]; exact h0
        rw [e1, e2]; decide)]
      exact ⟨fits_reps (short24 (by omega)), .str _, H, I.tok _, ⟨_, rfl⟩, q⟩
noncomputable def opMul2 (M : Store) (a b : Va) : Option Va := match opMul M a b with
  | some r => some r
  | none => match a, b with
    | .str a, .int k => if 2 ≤ k ∧ k ≤ 1000 ∧ a.length ≤ 1000 then some (.str (repS a k)) else none
    | _, _ => none
theorem s_mul2 : Op2 G (fun x y H Q => (rI IntMulOk (fun i j => .int (i * j)) x y H Q ∨ rRep x y H Q) ∨ rRepS x y H Q) opMul2 := by
  intro R ρ M H x y va vb res Q w ra rb h g
  unfold opMul2 at h
  split at h
  · rename_i r hr
    cases h
    exact .inl (s_mul R ρ M H x y va vb _ Q w ra rb hr g)
  · split at h
    · cases ra; cases rb
      split at h
      · rename_i hz
        cases h
        exact .inr ⟨_, _, rfl, rfl, hz.1, hz.2.1, hz.2.2, gives_now w (.str _) g⟩
      · cases h
    · cases h
theorem q_mul2 {E : XK} {a b : Expr} {ea eb : SE} {pos : Pos} (ha : PE X a (tE G E ea)) (hb : PE X b (tE G E eb)) : PE X (.BinOp a .Mult b pos) (tE G E (ev2 opMul2 ea eb)) := q_op ((op_mulA.or op_rep).or op_repS) s_mul2 ha hb
/-! a short text turned about -/
def revS (a : Str) : Str := ⟨((Builtin.Str.strSliceIndices none none (-1) a.length).filterMap (a.cps[·]?)).toArray⟩
theorem revS_len {a : Str} (h : a.length ≤ 2) : (revS a).length ≤ 2 := by
  show ((Builtin.Str.strSliceIndices none none (-1) a.length).filterMap (a.cps[·]?)).toArray.size ≤ 2
  rw [List.size_toArray]
  refine Nat.le_trans (List.length_filterMap_le _ _) ?_
  have : a.length = 0 ∨ a.length = 1 ∨ a.length = 2 := by omega
  rcases this with e | e | e <;> rw [e] <;> decide
theorem revS_mem {a : Str} {c : Nat} (h : c ∈ (revS a).cps.toList) : c ∈ a.cps.toList := by
  have h : c ∈ (Builtin.Str.strSliceIndices none none (-1) a.length).filterMap (a.cps[·]?) := h
  obtain ⟨i, _, e⟩ := List.mem_filterMap.mp h
  rw [← Array.getElem?_toList] at e
  exact List.mem_of_getElem? e
def tRevS (te : TE) : TE := fun σ H Q => te σ H fun x H1 => ∃ a, x = .str a ∧ a.length ≤ 2 ∧ Q (.str (revS a)) H1
theorem pe_revS {e : Expr} {te : TE} {k : Nat} {p1 p2 p3 pos : Pos} (he : PE X e te) : PE X (.Subscript e (.Slice none none (some (.UnaryOp .USub (.Constant (.int 1) k p1) p2)) p3) pos) (tRevS te) := by
  refine ⟨fun pins s σ H Q I h => ?_⟩
  refine Subscript_ (thn (he.run pins s σ H _ I h) fun v s1 ⟨x, H1, I1, r1, q1⟩ => ?_)
  obtain ⟨a, ex, hz, q⟩ := q1
  subst ex
  obtain ⟨t, rfl⟩ := r1
  have hst : PO X (some (.UnaryOp .USub (.Constant (.int 1) k p1) p2)) (tPart (tUn (rU fun i => .int (-i)) (tC (.int 1)))) := po_some (pe_un un_neg pe_int)
  refine wpAny_Slice (thn (po_none.run pins s1 σ H1 (fun o H2 => o = none ∧ H2 = H1) I1 ⟨rfl, rfl⟩) fun vl s2 ⟨l, H2, I2, pl, el, e2⟩ => ?_)
  subst el e2
  refine thn (po_none.run pins s2 σ H2 (fun o H3 => o = none ∧ H3 = H2) I2 ⟨rfl, rfl⟩) fun vu s3 ⟨u, H3, I3, pu, eu, e3⟩ => ?_
  subst eu e3
  refine thn (hst.run pins s3 σ H3 (fun o H4 => o = some (-1) ∧ H4 = H3) I3 ⟨1, rfl, -1, rfl, rfl, rfl⟩) fun vs s4 ⟨o, H4, I4, ps, eo, e4⟩ => ?_
  subst eo e4
  cases pl
  cases pu
  cases ps with
  | int i tk =>
  have I5 : Inv X pins σ H4 { s4 with heap := s4.heap.push { cls := .type "slice", data := .fields #[.none, .none, .int (-1) tk] } } := I4.kept (t' := s4.toks) fun b ob q => Heap.get?_push_of_some _ q
  show wpAny (model X.prog X.w) X.A (subscriptTail e (.Slice none none (some (.UnaryOp .USub (.Constant (.int 1) k p1) p2)) p3) (.str a t) (.ref s4.heap.objs.size)) (EP X pins σ Q) X.xe { s4 with heap := s4.heap.push { cls := .type "slice", data := .fields #[.none, .none, .int (-1) tk] } }
  refine tail_any (ops := [.str a t, .ref s4.heap.objs.size]) (typeIs_str _ a t) (PySem.F.slot_str_getitem.lookup) ?_ (by with_unfolding_all rfl)
  refine wpAny_getItem_str_slice (l := none) (u := none) (st := some (-1, tk)) ⟨_, Heap.get?_push_size _ rfl, rfl, rfl⟩ rfl ?_
  unfold sliceMade
  rw [if_neg (by simp)]
  exact ⟨Nat.le_trans (revS_len hz) (by decide), .str (revS a), _, I5.tok _, ⟨_, rfl⟩, q⟩
def opRevS (M : Store) (x : Va) : Option Va := match x with
  | .str a => if a.length ≤ 2 then some (.str (revS a)) else none
  | _ => none
theorem q_revS {E : XK} {e : Expr} {ee : SE} {k : Nat} {p1 p2 p3 pos : Pos} (he : PE X e (tE G E ee)) : PE X (.Subscript e (.Slice none none (some (.UnaryOp .USub (.Constant (.int 1) k p1) p2)) p3) pos) (tE G E (ev1 opRevS ee)) :=
  pe_imp (pe_revS he) fun σ H Q ⟨R, ρ, s, M, w, sr, p⟩ => stepE w sr p fun R1 ρ1 M1 H1 va v e1 w1 sr1 r1 p1 => by
    cases r1 <;> first | exact p1.elim | skip
    rename_i a
    unfold opRevS at p1
    dsimp only at p1
    split at p1
    · rename_i q
      split at q
      · rename_i hz
        cases q
        exact ⟨_, rfl, hz, gives_now w1 (.str _) p1⟩
      · cases q
    · exact p1.elim
end
end PV

set_option Elab.async false
set_option linter.all false
set_option maxRecDepth 100000
set_option maxHeartbeats 4000000
namespace Lw
open PySem L2 PV
noncomputable section
def m__law_run_text : SS :=
    (sSeq (sSet 1 (evC (.str "")))
    (sSeq (sFor (itA (evVar 0)) (tgTup [(tgName 2), (tgName 3), (tgName 4)]) (sSet 1 (ev2 opAdd (ev2 opAdd (ev2 opAdd (ev2 opAdd (ev2 opAdd (ev2 opAdd (evVar 1) (evC (.str "; "))) (evVar 2)) (evC (.str " "))) (evL (kPure gStr) (evCons (evVar 3) evNil))) (evC (.str " "))) (evL (kPure gStr) (evCons (evVar 4) evNil)))))
    (sRet (evSl (evVar 1) (evB (evC (.int 2))) (evC .non)))))
def c__law_run_text : FM := runF 5 m__law_run_text
def m__law_draw : SS :=
    (sSeq (sIf (ev2 opGt (ev2 opIx (evVar 0) (evC (.int 0))) (evC (.int 0))) (sSeq (sSet 3 (ev2 opMod (evL (kPure gInt) (evCons (ev2 opIx (evVar 0) (evC (.int 0))) evNil)) (evVar 1)))
    (sSeq (sSub (ev2 opDiv (ev2 opIx (evVar 0) (evC (.int 0))) (evVar 1)) (evVar 0) (evC (.int 0)) cSetAt)
    (sRet (evVar 3)))) sNx)
    (sSeq (sSub (ev2 opAdd (ev2 opIx (evVar 0) (evC (.int 2))) (evC (.int 1))) (evVar 0) (evC (.int 2)) cSetAt)
    (sSeq (sSet 2 (ev2 opMod (evL (kPure gInt) (evCons (ev2 opPow (ev2 opAdd (ev2 opIx (evVar 0) (evC (.int 1))) (ev2 opMul (ev2 opIx (evVar 0) (evC (.int 2))) (evC (.int 49979693)))) (evC (.int 3))) evNil)) (ev2 opAdd (ev2 opPow (evC (.int 10)) (evC (.int 28))) (evC (.int 333)))))
    (sRet (ev2 opMod (ev2 opDiv (ev2 opMod (evL (kPure gInt) (evCons (ev2 opAdd (ev2 opMul (evVar 2) (evVar 2)) (ev2 opDiv (evVar 2) (evC (.int 7927)))) evNil)) (ev2 opAdd (ev2 opPow (evC (.int 10)) (evC (.int 24))) (evC (.int 403)))) (evC (.int 104759))) (evVar 1))))))
def c__law_draw : FM := runF 4 m__law_draw
def m__law_integer : SS :=
    (sSeq (sSet 1 (evL (kFn 2 c__law_draw) (evCons (evVar 0) (evCons (evC (.int 10)) evNil))))
    (sSeq (sFor (itR1 (evCons (ev2 opMul (evL (kFn 2 c__law_draw) (evCons (evVar 0) (evCons (evC (.int 3)) evNil))) (evL (kFn 2 c__law_draw) (evCons (evVar 0) (evCons (evC (.int 3)) evNil)))) evNil)) (tgName 2) (sSet 1 (ev2 opAdd (ev2 opMul (evVar 1) (ev2 opPow (evC (.int 10)) (evC (.int 14)))) (evL (kFn 2 c__law_draw) (evCons (evVar 0) (evCons (ev2 opPow (evC (.int 10)) (evC (.int 14))) evNil))))))
    (sRet (ev2 opIx (evL kLst (evCons (evVar 1) (evCons (ev2 opSub (evC (.int 0)) (evVar 1)) evNil))) (evL (kFn 2 c__law_draw) (evCons (evVar 0) (evCons (evC (.int 2)) evNil)))))))
def c__law_integer : FM := runF 3 m__law_integer
def m__law_word : SS :=
    (sSeq (sSet 2 (evC (.str "abcdefghijklmnopqrstuvwxyz")))
    (sSeq (sSet 3 (evL (kFn 2 c__law_draw) (evCons (evVar 0) (evCons (evC (.int 6)) evNil))))
    (sSeq (sSet 4 (ev2 opIx (evL kLst (evCons (evC (.str "columns")) (evCons (evC (.str "kind")) (evCons (evC (.str "check")) (evCons (evC (.str "new")) (evCons (evC (.str "step")) (evCons (evC (.str "held")) (evCons (evC (.str "taken")) evNil)))))))) (evL (kFn 2 c__law_draw) (evCons (evVar 0) (evCons (evC (.int 7)) evNil)))))
    (sSeq (sIf (evAnd (ev2 opEq (evVar 3) (evC (.int 5))) (ev2 opNe (evVar 1) (evL kLst evNil))) (sSeq (sSet 6 (ev2 opIx (evVar 1) (evL (kFn 2 c__law_draw) (evCons (evVar 0) (evCons (evL (kPure gLen) (evCons (evVar 1) evNil)) evNil)))))
    (sSeq (sSet 7 (evL (kFn 2 c__law_draw) (evCons (evVar 0) (evCons (ev2 opAdd (evL (kPure gLen) (evCons (evVar 6) evNil)) (evC (.int 1))) evNil))))
    (sSet 4 (evSl (ev2 opAdd (ev2 opAdd (evSl (evVar 6) (evC .non) (evB (evVar 7))) (ev2 opIx (evVar 2) (evL (kFn 2 c__law_draw) (evCons (evVar 0) (evCons (evC (.int 26)) evNil))))) (evSl (evVar 6) (evB (ev2 opAdd (evVar 7) (evL (kFn 2 c__law_draw) (evCons (evVar 0) (evCons (evC (.int 2)) evNil))))) (evC .non))) (evC .non) (evB (evC (.int 8))))))) (sIf (ev2 opLt (evVar 3) (evC (.int 4))) (sSet 4 (evM2 isStrA (kVal gJoin) (evC (.str "")) (evCons (evLc (itR1 (evCons (ev2 opAdd (evC (.int 1)) (evL (kFn 2 c__law_draw) (evCons (evVar 0) (evCons (evC (.int 8)) evNil)))) evNil)) (tgName 8) evYes (ev2 opIx (evVar 2) (evL (kFn 2 c__law_draw) (evCons (evVar 0) (evCons (evC (.int 26)) evNil)))) [8]) evNil))) sNx))
    (sSeq (sFor (itR1 (evCons (evC (.int 676)) evNil)) (tgName 5) (sSeq (sIf (ev2 opNotInD (evVar 4) (evVar 1)) (sRet (evVar 4)) sNx)
    (sSet 4 (ev2 opAdd (ev2 opIx (evVar 2) (ev2 opMod (evVar 5) (evC (.int 26)))) (ev2 opIx (evVar 2) (ev2 opDiv (evVar 5) (evC (.int 26))))))))
    (sRet (evVar 4)))))))
def c__law_word : FM := runF 9 m__law_word
def m__law_wild : SS :=
    (sSeq (sIf (ev2 opEq (evL (kFn 2 c__law_draw) (evCons (evVar 0) (evCons (evC (.int 2)) evNil))) (evC (.int 0))) (sRet (evL kTup (evCons (evC (.str "new")) (evCons (evL (kFn 2 c__law_word) (evCons (evVar 0) (evCons (evL kLst evNil) evNil))) (evCons (evL (kFn 1 c__law_integer) (evCons (evVar 0) evNil)) evNil))))) sNx)
    (sRet (evL kTup (evCons (evC (.str "step")) (evCons (evL (kFn 1 c__law_integer) (evCons (evVar 0) evNil)) (evCons (evL (kFn 2 c__law_word) (evCons (evVar 0) (evCons (evL kLst evNil) evNil))) evNil))))))
def c__law_wild : FM := runF 1 m__law_wild
def m__law_is_name : SS :=
    (sSeq (sSet 1 (evC (.str "abcdefghijklmnopqrstuvwxyz")))
    (sRet (evAnd (evChain opLe opLe (evC (.int 1)) (evL (kPure gLen) (evCons (evVar 0) evNil)) (evC (.int 8))) (evL (kPure gAll) (evCons (evLc (itA (evVar 0)) (tgName 2) evYes (ev2 opInD (evVar 2) (evVar 1)) [2]) evNil)))))
def c__law_is_name : FM := runF 3 m__law_is_name
def m__law_is_number : SS :=
    (sSeq (sSet 1 (evIf (ev2 opEq (evSl (evVar 0) (evC .non) (evB (evC (.int 1)))) (evC (.str "-"))) (evSl (evVar 0) (evB (evC (.int 1))) (evC .non)) (evVar 0)))
    (sSeq (sIf (evOr (ev2 opLt (evL (kPure gLen) (evCons (evVar 1) evNil)) (evC (.int 1))) (evOr (ev2 opGt (evL (kPure gLen) (evCons (evVar 1) evNil)) (evC (.int 60))) (evNot (evTru (evL (kPure gAll) (evCons (evLc (itA (evVar 1)) (tgName 2) evYes (ev2 opInD (evVar 2) (evC (.str "0123456789"))) [2]) evNil)))))) (sRet (evC (.bl false))) sNx)
    (sRet (evOr (ev2 opEq (evVar 0) (evC (.str "0"))) (ev2 opNe (ev2 opIx (evVar 1) (evC (.int 0))) (evC (.str "0")))))))
def c__law_is_number : FM := runF 3 m__law_is_number
def m__law_deed_in : SS :=
    (sSeq (sSet 1 (evM2 isStrA (kVal gSplit) (evVar 0) (evCons (evC (.str " ")) evNil)))
    (sSeq (sIf (evAnd (ev2 opEq (evL (kPure gLen) (evCons (evVar 1) evNil)) (evC (.int 3))) (evAnd (ev2 opEq (ev2 opIx (evVar 1) (evC (.int 0))) (evC (.str "new"))) (evAnd (evTru (evL (kFn 1 c__law_is_name) (evCons (ev2 opIx (evVar 1) (evC (.int 1))) evNil))) (evTru (evL (kFn 1 c__law_is_number) (evCons (ev2 opIx (evVar 1) (evC (.int 2))) evNil)))))) (sRet (evL kTup (evCons (evC (.str "new")) (evCons (ev2 opIx (evVar 1) (evC (.int 1))) (evCons (evL (kPure gInt) (evCons (ev2 opIx (evVar 1) (evC (.int 2))) evNil)) evNil))))) sNx)
    (sSeq (sIf (evAnd (ev2 opEq (evL (kPure gLen) (evCons (evVar 1) evNil)) (evC (.int 3))) (evAnd (ev2 opEq (ev2 opIx (evVar 1) (evC (.int 0))) (evC (.str "step"))) (evAnd (evTru (evL (kFn 1 c__law_is_number) (evCons (ev2 opIx (evVar 1) (evC (.int 1))) evNil))) (evTru (evL (kFn 1 c__law_is_name) (evCons (ev2 opIx (evVar 1) (evC (.int 2))) evNil)))))) (sRet (evL kTup (evCons (evC (.str "step")) (evCons (evL (kPure gInt) (evCons (ev2 opIx (evVar 1) (evC (.int 1))) evNil)) (evCons (ev2 opIx (evVar 1) (evC (.int 2))) evNil))))) sNx)
    (sRet (evC .non)))))
def c__law_deed_in : FM := runF 2 m__law_deed_in
def m__law_run_in : SS :=
    (sSeq (sSet 1 (evLc (itA (evM2 isStrA (kVal gSplit) (evVar 0) (evCons (evC (.str "; ")) evNil))) (tgName 2) evYes (evL (kFn 1 c__law_deed_in) (evCons (evVar 2) evNil)) [2]))
    (sSeq (sIf (ev2 opEq (evVar 0) (evC (.str ""))) (sRet (evL kLst evNil)) sNx)
    (sRet (evIf (ev2 opInD (evC .non) (evVar 1)) (evC .non) (evVar 1)))))
def c__law_run_in : FM := runF 3 m__law_run_in
def m_read_number : SS :=
    (sSeq (sSet 1 (evIf (evTru (evM2 isStrA (kVal gStarts) (evVar 0) (evCons (evC (.str "-")) evNil))) (evSl (evVar 0) (evB (evC (.int 1))) (evC .non)) (evVar 0)))
    (sSeq (sIf (evOr (evNot (evChain opLe opLe (evC (.int 1)) (evL (kPure gLen) (evCons (evVar 1) evNil)) (evC (.int 60)))) (evTru (evL (kPure gAny) (evCons (evLc (itA (evVar 1)) (tgName 2) evYes (ev2 opNotInD (evVar 2) (evC (.str "0123456789"))) [2]) evNil)))) (sRet (evC .non)) sNx)
    (sSeq (sIf (evAnd (ev2 opEq (ev2 opIx (evVar 1) (evC (.int 0))) (evC (.str "0"))) (ev2 opNe (evVar 0) (evC (.str "0")))) (sRet (evC .non)) sNx)
    (sRet (evL (kPure gInt) (evCons (evVar 0) evNil))))))
def c_read_number : FM := runF 3 m_read_number
def m_is_name : SS :=
    (sRet (evAnd (evChain opLe opLe (evC (.int 1)) (evL (kPure gLen) (evCons (evVar 0) evNil)) (evC (.int 8))) (evL (kPure gAll) (evCons (evLc (itA (evVar 0)) (tgName 1) evYes (ev2 opInD (evVar 1) (evC (.str "abcdefghijklmnopqrstuvwxyz"))) [1]) evNil))))
def c_is_name : FM := runF 2 m_is_name
def m_read_deed : SS :=
    (sSeq (sSet 1 (evM2 isStrA (kVal gSplit) (evVar 0) (evCons (evC (.str " ")) evNil)))
    (sSeq (sIf (ev2 opNe (evL (kPure gLen) (evCons (evVar 1) evNil)) (evC (.int 3))) (sRet (evC .non)) sNx)
    (sSeq (sSet 2 (evL (kFn 1 c_read_number) (evCons (evIf (ev2 opEq (ev2 opIx (evVar 1) (evC (.int 0))) (evC (.str "new"))) (ev2 opIx (evVar 1) (evC (.int 2))) (ev2 opIx (evVar 1) (evC (.int 1)))) evNil)))
    (sSeq (sSet 3 (evIf (ev2 opEq (ev2 opIx (evVar 1) (evC (.int 0))) (evC (.str "new"))) (ev2 opIx (evVar 1) (evC (.int 1))) (ev2 opIx (evVar 1) (evC (.int 2)))))
    (sSeq (sIf (evOr (ev2 opNotInD (ev2 opIx (evVar 1) (evC (.int 0))) (evL kTup (evCons (evC (.str "new")) (evCons (evC (.str "step")) evNil)))) (evOr (ev2 opIsN (evVar 2) (evC .non)) (evNot (evTru (evL (kFn 1 c_is_name) (evCons (evVar 3) evNil)))))) (sRet (evC .non)) sNx)
    (sRet (evIf (ev2 opEq (ev2 opIx (evVar 1) (evC (.int 0))) (evC (.str "new"))) (evL kTup (evCons (evC (.str "new")) (evCons (evVar 3) (evCons (evVar 2) evNil)))) (evL kTup (evCons (evC (.str "step")) (evCons (evVar 2) (evCons (evVar 3) evNil)))))))))))
def c_read_deed : FM := runF 4 m_read_deed
def m_read_runX : SS :=
    (sSeq (stNo (sIf (ev2 opEq (evVar 0) (evC (.str ""))) (sRet (evL kLst evNil)) sNx))
    (sSeq (stNo (sSet 1 (evLc (itA (evM2 isStrA (kVal gSplit) (evVar 0) (evCons (evC (.str "; ")) evNil))) (tgName 2) evYes (evL (kFn 1 c_read_deed) (evCons (evVar 2) evNil)) [2])))
    (sSeq (sIf (evNo (ev2 opInD (evC .non) (evVar 1))) (sRaise 1 (evVar 0)) sNx)
    (stNo (sRet (evVar 1))))))
def c_read_runX : FM := runF 3 m_read_runX
def m__law_said : SS :=
    (sSeq (sSet 1 (evC .non))
    (sSeq (sTry (sSet 1 (evL kTup (evCons (evC (.str "deeds")) (evCons (evL (kFn 1 c_read_runX) (evCons (evVar 0) evNil)) evNil)))) [1] (subOf [(1, 0)]) [(1, 2, (fun x => sSet 1 (evL kTup (evCons (evC (.str "Unreadable")) (evCons (evXv x) evNil))))), (0, 2, (fun _ _ _ => none))])
    (sRet (evVar 1))))
def c__law_said : FM := runF 3 m__law_said
def m__law_asked_right : SS :=
    (sSeq (sSet 1 (evL (kFn 1 c__law_run_in) (evCons (evVar 0) evNil)))
    (sSeq (sSet 2 (evIf (ev2 opIsN (evVar 1) (evC .non)) (evL kTup (evCons (evC (.str "Unreadable")) (evCons (evVar 0) evNil))) (evL kTup (evCons (evC (.str "deeds")) (evCons (evVar 1) evNil)))))
    (sRet (ev2 opEq (evL kRepr (evCons (evL (kFn 1 c__law_said) (evCons (evVar 0) evNil)) evNil)) (evL kRepr (evCons (evVar 2) evNil))))))
def c__law_asked_right : FM := runF 3 m__law_asked_right
def m__law_odd_text : SS :=
    (sSeq (sSet 2 (evLc (itA (evVar 1)) (tgName 9) evYes (evM2 isStrA kSplitC (evL (kFn 1 c__law_run_text) (evCons (evL kLst (evCons (evVar 9) evNil)) evNil)) (evCons (evC (.str " ")) evNil)) [9]))
    (sSeq (sSet 3 (ev2 opIx (evVar 2) (evL (kFn 2 c__law_draw) (evCons (evVar 0) (evCons (evL (kPure gLen) (evCons (evVar 2) evNil)) evNil)))))
    (sSeq (sSet 4 (ev2 opAdd (evC (.int 1)) (evL (kFn 2 c__law_draw) (evCons (evVar 0) (evCons (evC (.int 2)) evNil)))))
    (sSeq (sIf (evTru (evL (kFn 1 c__law_is_number) (evCons (ev2 opIx (evVar 3) (evVar 4)) evNil))) (sSeq (sSet 5 (evM2 isStrA (kVal gLstrip) (ev2 opIx (evVar 3) (evVar 4)) (evCons (evC (.str "-")) evNil)))
    (sSeq (sSet 6 (ev2 opMul2 (evC (.str "1234567890")) (evC (.int 6))))
    (sSeq (sSet 7 (evL kLst (evCons (ev2 opAdd (evC (.str "+")) (evVar 5)) (evCons (ev2 opAdd (evC (.str "0")) (evVar 5)) (evCons (evC (.str "-0")) (evCons (ev2 opAdd (evC (.str "-0")) (evVar 5)) (evCons (ev2 opAdd (evC (.str "--")) (evVar 5)) evNil)))))))
    (sSeq (sSet 7 (ev2 opAdd (evVar 7) (evL kLst (evCons (evVar 6) (evCons (ev2 opAdd (evVar 6) (evC (.str "1"))) (evCons (ev2 opAdd (evC (.str "-")) (evVar 6)) (evCons (ev2 opAdd (evVar 5) (evC (.str "."))) evNil)))))))
    (sSub (ev2 opIx (evVar 7) (evL (kFn 2 c__law_draw) (evCons (evVar 0) (evCons (evC (.int 9)) evNil)))) (evVar 3) (evVar 4) cSetAt))))) (sSeq (sSet 8 (ev2 opIx (evVar 3) (evVar 4)))
    (sSeq (sSet 7 (evL kLst (evCons (evSl (ev2 opMul2 (evVar 8) (evC (.int 9))) (evC .non) (evB (evC (.int 9)))) (evCons (evSl (ev2 opMul2 (evVar 8) (evC (.int 8))) (evC .non) (evB (evC (.int 8)))) (evCons (evM2 isStrA (kVal gUpper) (evVar 8) evNil) (evCons (evC (.str "")) (evCons (ev2 opAdd (evVar 8) (evC (.str "1"))) evNil)))))))
    (sSeq (sSet 7 (ev2 opAdd (evVar 7) (evL kLst (evCons (ev2 opAdd (evSl (evVar 8) (evC .non) (evB (evC (.int 7)))) (evC (.str "Z"))) (evCons (evC (.str "new")) (evCons (evC (.str "step")) (evCons (ev2 opAdd (evVar 8) (evC (.str "-"))) evNil)))))))
    (sSub (ev2 opIx (evVar 7) (evL (kFn 2 c__law_draw) (evCons (evVar 0) (evCons (evC (.int 9)) evNil)))) (evVar 3) (evVar 4) cSetAt)))))
    (sRet (evM2 isStrA (kVal gJoin) (evC (.str "; ")) (evCons (evLc (itA (evVar 2)) (tgName 10) evYes (evM2 isStrA (kVal gJoin) (evC (.str " ")) (evCons (evVar 10) evNil)) [10]) evNil)))))))
def c__law_odd_text : FM := runF 11 m__law_odd_text
def m__law_spoiled : SS :=
    (sSeq (sSet 2 (evC (.str " ;,[]()-+.0123456789columnskidhewpt~A_'")))
    (sSeq (sFor (itR1 (evCons (ev2 opAdd (evC (.int 1)) (ev2 opDiv (evL (kFn 2 c__law_draw) (evCons (evVar 0) (evCons (evC (.int 4)) evNil))) (evC (.int 3)))) evNil)) (tgName 3) (sSeq (sSet 4 (evL (kFn 2 c__law_draw) (evCons (evVar 0) (evCons (evC (.int 5)) evNil))))
    (sSeq (sSet 5 (evL (kFn 2 c__law_draw) (evCons (evVar 0) (evCons (ev2 opAdd (evL (kPure gLen) (evCons (evVar 1) evNil)) (evC (.int 1))) evNil))))
    (sSeq (sSet 6 (ev2 opIx (evVar 2) (evL (kFn 2 c__law_draw) (evCons (evVar 0) (evCons (evL (kPure gLen) (evCons (evVar 2) evNil)) evNil)))))
    (sIf (ev2 opEq (evVar 4) (evC (.int 0))) (sSet 1 (ev2 opAdd (ev2 opAdd (evSl (evVar 1) (evC .non) (evB (evVar 5))) (evVar 6)) (evSl (evVar 1) (evB (evVar 5)) (evC .non)))) (sIf (ev2 opEq (evVar 4) (evC (.int 1))) (sSet 1 (ev2 opAdd (evSl (evVar 1) (evC .non) (evB (evVar 5))) (evSl (evVar 1) (evB (ev2 opAdd (evVar 5) (evC (.int 1)))) (evC .non)))) (sIf (ev2 opEq (evVar 4) (evC (.int 2))) (sSet 1 (ev2 opAdd (ev2 opAdd (evSl (evVar 1) (evC .non) (evB (evVar 5))) (evVar 6)) (evSl (evVar 1) (evB (ev2 opAdd (evVar 5) (evC (.int 1)))) (evC .non)))) (sIf (ev2 opEq (evVar 4) (evC (.int 3))) (sSeq (sSet 7 (evSl (evVar 1) (evB (evVar 5)) (evB (ev2 opAdd (evVar 5) (evC (.int 2))))))
    (sSet 1 (ev2 opAdd (ev2 opAdd (evSl (evVar 1) (evC .non) (evB (evVar 5))) (ev1 opRevS (evVar 7))) (evSl (evVar 1) (evB (ev2 opAdd (evVar 5) (evC (.int 2)))) (evC .non))))) (sSeq (sSet 8 (ev2 opIx (evL kLst (evCons (evC (.str " ")) (evCons (evC (.str "; ")) (evCons (evC (.str ",")) evNil)))) (evL (kFn 2 c__law_draw) (evCons (evVar 0) (evCons (evC (.int 3)) evNil)))))
    (sSeq (sSet 9 (evM2 isStrA kSplitC (evVar 1) (evCons (evVar 8) evNil)))
    (sSeq (sSet 10 (evM2 isLstA (kMut cPopAt) (evVar 9) (evCons (evL (kFn 2 c__law_draw) (evCons (evVar 0) (evCons (evL (kPure gLen) (evCons (evVar 9) evNil)) evNil))) evNil)))
    (sSeq (sIf (ev2 opGt (evL (kFn 2 c__law_draw) (evCons (evVar 0) (evCons (evC (.int 3)) evNil))) (evC (.int 0))) (sDrop (evM2 isLstA (kMut cInsert) (evVar 9) (evCons (evL (kFn 2 c__law_draw) (evCons (evVar 0) (evCons (ev2 opAdd (evL (kPure gLen) (evCons (evVar 9) evNil)) (evC (.int 1))) evNil))) (evCons (evVar 10) evNil)))) sNx)
    (sSet 1 (evM2 isStrA (kVal gJoin) (evVar 8) (evCons (evVar 9) evNil)))))))))))))))
    (sRet (evVar 1))))
def c__law_spoiled : FM := runF 11 m__law_spoiled
def m__law_right : SS :=
    (sSeq (sSet 1 (evLc (itR1 (evCons (evL (kFn 2 c__law_draw) (evCons (evVar 0) (evCons (evC (.int 9)) evNil))) evNil)) (tgName 3) evYes (evL (kFn 1 c__law_wild) (evCons (evVar 0) evNil)) [3]))
    (sSeq (sSet 2 (evL (kFn 1 c__law_run_text) (evCons (evVar 1) evNil)))
    (sSeq (sFor (itR1 (evCons (evC (.int 4)) evNil)) (tgName 3) (sIf (evOr (evNot (evTru (evL (kFn 1 c__law_asked_right) (evCons (evL (kFn 2 c__law_spoiled) (evCons (evVar 0) (evCons (evVar 2) evNil))) evNil)))) (evNot (evTru (evL (kFn 1 c__law_asked_right) (evCons (evVar 2) evNil))))) (sRet (evC (.bl false))) sNx))
    (sSeq (sIf (ev2 opEq (evVar 1) (evL kLst evNil)) (sRet (evL (kPure gAll) (evCons (evLc (itA (evL kLst (evCons (evC (.str " ")) (evCons (evC (.str "; ")) (evCons (evC (.str "columns")) (evCons (evC (.str "columns a; check [1]")) evNil)))))) (tgName 4) evYes (evL (kFn 1 c__law_asked_right) (evCons (evVar 4) evNil)) [4]) evNil))) sNx)
    (sRet (evAnd (evL (kFn 1 c__law_asked_right) (evCons (evL (kFn 2 c__law_odd_text) (evCons (evVar 0) (evCons (evVar 1) evNil))) evNil)) (evL (kFn 1 c__law_asked_right) (evCons (evVar 2) evNil))))))))
def c__law_right : FM := runF 5 m__law_right
def m__law_well : SS :=
    (sSeq (sSet 2 (evL (kPure gMax) (evCons (evVar 0) (evCons (ev2 opSub (evC (.int 0)) (evVar 0)) evNil))))
    (sRet (evL kNew (evCons (evL (kPure gMax) (evCons (evC (.int 0)) (evCons (ev2 opSub (evVar 2) (ev2 opPow (evC (.int 10)) (evC (.int 18)))) evNil))) (evCons (ev2 opMod (evL (kPure gInt) (evCons (ev2 opAdd (ev2 opMul (evVar 0) (evC (.int 86028157))) (ev2 opMul (ev2 opAdd (evVar 1) (evC (.int 5))) (evC (.int 32452867)))) evNil)) (ev2 opAdd (ev2 opPow (evC (.int 10)) (evC (.int 26))) (evC (.int 711)))) (evCons (evC (.int 0)) evNil))))))
def c__law_well : FM := runF 3 m__law_well
def m_law : SS :=
    (sSeq (sSet 1 (ev2 opAdd (evSl (evVar 0) (evC .non) (evB (evC (.int 16)))) (ev2 opMul (evL kLst (evCons (evC (.int 0)) evNil)) (evL (kPure gInt) (evCons (ev2 opEq (evVar 0) (evL kLst evNil)) evNil)))))
    (sSeq (sFor (itR1 (evCons (evL (kPure gLen) (evCons (evVar 1) evNil)) evNil)) (tgName 2) (sIf (evNot (evTru (evL (kFn 1 c__law_right) (evCons (evL (kFn 2 c__law_well) (evCons (ev2 opIx (evVar 1) (evVar 2)) (evCons (evVar 2) evNil))) evNil)))) (sRet (evC (.bl false))) sNx))
    (sRet (evC (.bl true)))))
def c_law : FM := runF 3 m_law
end
end Lw

set_option Elab.async false
set_option linter.all false
set_option maxRecDepth 100000
set_option maxHeartbeats 1000000
set_option exponentiation.threshold 3000
namespace Lw
open PySem L2 PV
/-- a source of numbers stands at w, less than b of its mixed ones drawn -/
structure Wl (M : Store) (w : Nat) (b : Nat) : Prop where
  ex : ∃ x y z : Int, M.c w = some (.lst [.int x, .int y, .int z]) ∧ 0 ≤ y ∧ y < 2 ^ 100 ∧ 0 ≤ z ∧ z ≤ b
  lt : w < M.nx
/-- all below stays but the source -/
structure Kp (M M' : Store) (w : Nat) : Prop where
  nx : M.nx ≤ M'.nx
  kp : ∀ n, n < M.nx → n ≠ w → M'.c n = M.c n
theorem Kp.refl {M : Store} {w : Nat} : Kp M M w := ⟨Nat.le_refl _, fun _ _ _ => rfl⟩
theorem Kp.trans {M M1 M2 : Store} {w : Nat} (a : Kp M M1 w) (b : Kp M1 M2 w) : Kp M M2 w := ⟨Nat.le_trans a.nx b.nx, fun n h1 h2 => (b.kp n (Nat.lt_of_lt_of_le h1 a.nx) h2).trans (a.kp n h1 h2)⟩
theorem Kp.put {M : Store} {w : Nat} {x : Cell} : Kp M (M.put w x) w := ⟨Nat.le_refl _, fun n _ h => put_ne h⟩
theorem Wl.mono {M : Store} {w b b' : Nat} (h : Wl M w b) (hb : b ≤ b') : Wl M w b' := by
  obtain ⟨⟨x, y, z, h1, h2, h3, h4, h5⟩, h6⟩ := h
  exact ⟨⟨x, y, z, h1, h2, h3, h4, by omega⟩, h6⟩
theorem ix3_0 : ixN 3 0 = some 0 := rfl
theorem ix3_2 : ixN 3 2 = some 2 := rfl
theorem draw1 (M : Store) (w : Nat) (x y z m : Int) (h : M.c w = some (.lst [.int x, .int y, .int z])) (hm : 0 < m) (hm2 : m < 2 ^ 200) (hx : 0 < x) : c__law_draw [.cel w, .int m] M = some (.val (.int (x % m)), M.put w (.lst [.int (x / m), .int y, .int z])) := by
  unfold c__law_draw runF m__law_draw
  simp [startI, h, hx, y_mod hm, y_div hm hm2, cSetAt, ix3_0]
theorem draw2 (M : Store) (w : Nat) (x y z m : Int) (h : M.c w = some (.lst [.int x, .int y, .int z])) (hm : 0 < m) (hm2 : m < 2 ^ 200) (hx : ¬ 0 < x) (hy : 0 ≤ y) (hy2 : y < 2 ^ 100) (hz : 0 ≤ z) (hz2 : z < 2 ^ 60) :
    ∃ r, c__law_draw [.cel w, .int m] M = some (.val (.int r), M.put w (.lst [.int x, .int y, .int (z + 1)])) ∧ 0 ≤ r ∧ r < m := by
  unfold c__law_draw runF m__law_draw
  simp (disch := omega) [startI, h, hx, y_mod, y_div, y_pow, y_pow3, y_mulR, y_mulN, cSetAt, ix3_2]
  exact ⟨Int.emod_nonneg _ (by omega), Int.emod_lt_of_pos _ hm⟩
theorem draw {M : Store} {w b : Nat} (h : Wl M w b) (m : Int) (hm : 0 < m) (hm2 : m < 2 ^ 200) (hb : b < 2 ^ 50) : ∃ r M', c__law_draw [.cel w, .int m] M = some (.val (.int r), M') ∧ 0 ≤ r ∧ r < m ∧ Wl M' w (b + 1) ∧ Kp M M' w := by
  obtain ⟨⟨x, y, z, h1, h2, h3, h4, h5⟩, h6⟩ := h
  by_cases hx : 0 < x
  · exact ⟨_, _, draw1 M w x y z m h1 hm hm2 hx, Int.emod_nonneg _ (by omega), Int.emod_lt_of_pos _ hm, ⟨⟨_, _, _, put_same, h2, h3, h4, by omega⟩, h6⟩, Kp.put⟩
  · obtain ⟨r, e, r0, r1⟩ := draw2 M w x y z m h1 hm hm2 hx h2 h3 h4 (by omega)
    exact ⟨r, _, e, r0, r1, ⟨⟨_, _, _, put_same, h2, h3, by omega, by omega⟩, h6⟩, Kp.put⟩
theorem well (cell k : Int) (M : Store) : ∃ M', c__law_well [.int cell, .int k] M = some (.val (.cel M.nx), M') ∧ Wl M' M.nx 0 ∧ M'.nx = M.nx + 1 ∧ ∀ n, n ≠ M.nx → M'.c n = M.c n := by
  unfold c__law_well runF m__law_well
  simp (disch := omega) [startI, y_mod, y_pow, y_mulR]
  exact ⟨⟨⟨_, _, _, new_same, by omega, by omega, by omega, by omega⟩, by simp⟩, fun n h => new_ne h⟩
/-! ### words -/
def Nm (z : Str) : Prop := 1 ≤ (tl z).length ∧ (tl z).length ≤ 8 ∧ ∀ c ∈ tl z, 97 ≤ c ∧ c ≤ 122
instance (z : Str) : Decidable (Nm z) := by unfold Nm; infer_instance
theorem Nm.ok {z : Str} (h : Nm z) : PyData.strOk z = true := by
  unfold PyData.strOk
  rw [Array.all_eq_true_iff_forall_mem]
  intro c hc
  have := h.2.2 c (Array.mem_toList_iff.mpr hc)
  exact decide_eq_true (by omega)
theorem Nm.len {z : Str} (h : Nm z) : 1 ≤ z.length ∧ z.length ≤ 8 := by
  rw [tl_len]; exact ⟨h.1, h.2.1⟩
/-- the word that a turn of the loop tries next -/
def two (i : Nat) : Str := (⟨#[97 + i % 26]⟩ : Str) ++ ⟨#[97 + i / 26]⟩
theorem tl_two (i : Nat) : tl (two i) = [97 + i % 26, 97 + i / 26] := by
  show TL.tl _ = _
  unfold two
  rw [TL.tl_append]; rfl
theorem two_nm {i : Nat} (h : i < 676) : Nm (two i) := by
  unfold Nm
  rw [tl_two]
  refine ⟨by simp, by simp, fun c hc => ?_⟩
  simp at hc
  omega
theorem two_inj {i j : Nat} (h : two i = two j) : i = j := by
  have e := congrArg tl h
  rw [tl_two, tl_two] at e
  simp at e
  omega
/-- d turns on, a word that is not taken -/
def Fnd (zs : List Str) : Nat → Nat → Str → Prop
  | 0, _, cur => cur ∉ zs
  | d + 1, i, cur => cur ∈ zs ∧ Fnd zs d (i + 1) (two i)
theorem fnd_or (zs : List Str) : ∀ (m i : Nat) (cur : Str), (∃ d, d ≤ m ∧ Fnd zs d i cur) ∨ (cur ∈ zs ∧ ∀ j, j < m → two (i + j) ∈ zs)
  | 0, i, cur => by
    by_cases h : cur ∈ zs
    · exact .inr ⟨h, fun j hj => by omega⟩
    · exact .inl ⟨0, Nat.le_refl _, h⟩
  | m + 1, i, cur => by
    by_cases h : cur ∈ zs
    · rcases fnd_or zs m (i + 1) (two i) with ⟨d, hd, hf⟩ | ⟨h1, h2⟩
      · exact .inl ⟨d + 1, by omega, h, hf⟩
      · refine .inr ⟨h, fun j hj => ?_⟩
        cases j with
        | zero => exact h1
        | succ j =>
          have := h2 j (by omega)
          have e : i + 1 + j = i + (j + 1) := by omega
          rw [← e]; exact this
    · exact .inl ⟨0, by omega, h⟩
theorem fnd (zs : List Str) (z : Str) : ∃ d, d ≤ zs.length + 1 ∧ Fnd zs d 0 z := by
  rcases fnd_or zs (zs.length + 1) 0 z with h | ⟨_, h⟩
  · exact h
  · exfalso
    have nd : ((List.range (zs.length + 1)).map two).Nodup := by
      rw [List.nodup_iff_pairwise_ne, List.pairwise_map]
      exact List.Pairwise.imp (fun hne e => hne (two_inj e)) (List.nodup_iff_pairwise_ne.mp List.nodup_range)
    have := nd.length_le_of_subset (l₂ := zs) fun x hx => by
      obtain ⟨j, hj, rfl⟩ := List.mem_map.mp hx
      have := h j (List.mem_range.mp hj)
      rwa [Nat.zero_add] at this
    simp at this
    omega
theorem loop_word (M : Store) (x : Va) (zs : List Str) (hx : LstAt M x (zs.map Va.str)) (W : Va) (s3 s6 s7 s8 : Option Va) : ∀ (d i k : Nat) (cur : Str) (s5 : Option Va), d < k → i + k ≤ 676 → Nm cur → Fnd zs d i cur →
    ∃ z s5', loopF (fun _ => True) (tgName 5) (sSeq (sIf (ev2 opNotInD (evVar 4) (evVar 1)) (sRet (evVar 4)) sNx)
      (sSet 4 (ev2 opAdd (ev2 opIx (evVar 2) (ev2 opMod (evVar 5) (evC (.int 26)))) (ev2 opIx (evVar 2) (ev2 opDiv (evVar 5) (evC (.int 26))))))) ((List.range' i k).map fun (i : Nat) => Va.int i)
      [some W, some x, some (.str "abcdefghijklmnopqrstuvwxyz"), s3, some (.str cur), s5, s6, s7, s8] M = some (.ret (.str z), [some W, some x, some (.str "abcdefghijklmnopqrstuvwxyz"), s3, some (.str z), s5', s6, s7, s8], M) ∧ Nm z ∧ z ∉ zs
  | 0, i, k, cur, s5, hk, _, hn, hf => by
    obtain ⟨k, rfl⟩ : ∃ k', k = k' + 1 := ⟨k - 1, by omega⟩
    have hf' : cur ∉ zs := hf
    refine ⟨cur, some (.int i), ?_, hn, hf'⟩
    rw [List.range'_succ, List.map_cons]
    unfold loopF
    simp [hx.notIn, hf']
  | d + 1, i, k, cur, s5, hk, hi, hn, hf => by
    obtain ⟨k, rfl⟩ : ∃ k', k = k' + 1 := ⟨k - 1, by omega⟩
    obtain ⟨hc, hf⟩ := hf
    obtain ⟨z, s5', e, hz, hz2⟩ := loop_word M x zs hx W s3 s6 s7 s8 d (i + 1) k (two i) (some (.int i)) (by omega) (by omega) (two_nm (by omega)) hf
    refine ⟨z, s5', ?_, hz, hz2⟩
    rw [List.range'_succ, List.map_cons]
    unfold loopF
    have l1 := let_is (M := M) (r := (i : Int) % 26) (by omega) (by omega)
    have l2 := let_is (M := M) (r := (i : Int) / 26) (by omega) (by omega)
    have t1 : ((i : Int) % 26).toNat = i % 26 := by omega
    have t2 : ((i : Int) / 26).toNat = i / 26 := by omega
    rw [t1] at l1
    rw [t2] at l2
    have ha : opAdd M (.str ⟨#[97 + i % 26]⟩) (.str ⟨#[97 + i / 26]⟩) = some (.str (two i)) := y_addS (by simp [Str.length])
    simp (disch := omega) [hx.notIn, hc, y_mod, y_div, l1, l2, ha]
    exact e
theorem LstAt.kp {M M' : Store} {w : Nat} {x : Va} {l : List Va} (h : LstAt M x l) (hw : x ≠ .cel w) (k : Kp M M' w) (hn : ∀ n, x = .cel n → n < M.nx) : LstAt M' x l := by
  cases h with
  | lst => exact .lst _
  | @cel n _ h => exact .cel (by rw [k.kp n (hn n rfl) (fun e => hw (by rw [e]))]; exact h)
end Lw

set_option Elab.async false
set_option linter.all false
set_option maxRecDepth 100000
set_option maxHeartbeats 1000000
set_option exponentiation.threshold 3000
namespace Lw
open PySem L2 PV
theorem cutS_to {z : Str} (k : Nat) : tl (cutS z none (some (k : Int))) = (tl z).take k := by
  show (((tl z).drop (HT.sIx z.length 0 none)).take (HT.sIx z.length z.length (some (k : Int)) - HT.sIx z.length 0 none)) = _
  rw [HT.sIx_nat, HT.sIx_none]
  have e : z.length = (tl z).length := tl_len z
  rw [e]
  generalize tl z = l
  clear e
  by_cases h : k ≤ l.length
  · rw [Nat.min_eq_left h]; simp
  · rw [Nat.min_eq_right (by omega), List.drop_zero, List.take_of_length_le (by omega), List.take_of_length_le (by omega)]
theorem strsOf_one : ∀ {ys : List Va}, (∀ y ∈ ys, ∃ c, y = .str ⟨#[c]⟩ ∧ 97 ≤ c ∧ c ≤ 122) → ∃ zs : List Str, strsOf ys = some zs ∧ zs.length = ys.length ∧ ∀ z ∈ zs, ∃ c, tl z = [c] ∧ 97 ≤ c ∧ c ≤ 122
  | [], _ => ⟨[], rfl, rfl, fun _ h => by cases h⟩
  | y :: ys, h => by
    obtain ⟨c, rfl, hc⟩ := h y (by simp)
    obtain ⟨zs, e, l, a⟩ := strsOf_one (ys := ys) fun z hz => h z (by simp [hz])
    refine ⟨⟨#[c]⟩ :: zs, by simp [strsOf, e], by simp [l], fun z hz => ?_⟩
    rcases List.mem_cons.mp hz with e | hz
    · subst e; exact ⟨c, rfl, hc⟩
    · exact a z hz
theorem join_one : ∀ {zs : List Str}, (∀ z ∈ zs, ∃ c, tl z = [c] ∧ 97 ≤ c ∧ c ≤ 122) → (TL.joinL [] (zs.map TL.tl)).length = zs.length ∧ (∀ c ∈ TL.joinL [] (zs.map TL.tl), 97 ≤ c ∧ c ≤ 122) ∧ (zs.map (·.length)).sum = zs.length
  | [], _ => ⟨rfl, fun _ h => (nomatch h), rfl⟩
  | [z], h => by
    obtain ⟨c, e, hc⟩ := h z (by simp)
    have e' : TL.tl z = [c] := e
    refine ⟨by simp [TL.joinL, e'], fun d hd => ?_, by rw [List.map_cons, List.map_nil, List.sum_cons, tl_len, e]; rfl⟩
    simp [TL.joinL, e'] at hd
    subst hd; exact hc
  | z :: y :: r, h => by
    obtain ⟨c, e, hc⟩ := h z (by simp)
    have e' : TL.tl z = [c] := e
    obtain ⟨h1, h2, h3⟩ := join_one (zs := y :: r) fun x hx => h x (by simp [hx])
    have q : TL.joinL [] ((z :: y :: r).map TL.tl) = c :: TL.joinL [] ((y :: r).map TL.tl) := by
      simp [TL.joinL, e']
    refine ⟨by rw [q, List.length_cons, h1]; rfl, fun d hd => ?_, ?_⟩
    · rw [q] at hd
      rcases List.mem_cons.mp hd with e2 | hd
      · subst e2; exact hc
      · exact h2 d hd
    · rw [List.map_cons, List.sum_cons, h3, tl_len, e]
      simp only [List.length_cons, List.length_nil]; omega
/-- a taken word with one letter otherwise, more or less -/
theorem near_ok {z c : Str} {at_ r : Nat} (hz : Nm z) (ha : at_ ≤ z.length) (hr : r ≤ 1) (hc : ∃ k, tl c = [k] ∧ 97 ≤ k ∧ k ≤ 122) :
    Nm (cutS (cutS z none (some (at_ : Int)) ++ c ++ cutS z (some ((at_ + r : Nat) : Int)) none) none (some 8)) := by
  obtain ⟨k, ec, hk⟩ := hc
  have e : tl (cutS (cutS z none (some (at_ : Int)) ++ c ++ cutS z (some ((at_ + r : Nat) : Int)) none) none (some 8)) = ((tl z).take at_ ++ [k] ++ (tl z).drop (at_ + r)).take 8 := by
    rw [show (some 8 : Option Int) = some ((8 : Nat) : Int) from rfl, cutS_to]
    congr 1
    show TL.tl _ = _
    rw [TL.tl_append, TL.tl_append]
    show tl _ ++ tl c ++ tl _ = _
    rw [cutS_to, cut_from, ec]
  unfold Nm
  rw [e]
  rw [tl_len] at ha
  have h1 := hz.1
  have h2 := hz.2.1
  refine ⟨?_, ?_, fun d hd => ?_⟩
  · rw [List.length_take, List.length_append, List.length_append, List.length_take, List.length_drop]
    simp only [List.length_cons, List.length_nil]; omega
  · rw [List.length_take]; omega
  · have hd := List.mem_of_mem_take hd
    rcases List.mem_append.mp hd with hd | hd
    · rcases List.mem_append.mp hd with hd | hd
      · exact hz.2.2 d (List.mem_of_mem_take hd)
      · rw [List.mem_singleton.mp hd]; exact hk
    · exact hz.2.2 d (List.mem_of_mem_drop hd)
theorem word {M : Store} {w b : Nat} {x : Va} {zs : List Str} (h : Wl M w b) (hb : b < 2 ^ 40) (hx : LstAt M x (zs.map Va.str)) (hxw : x ≠ .cel w) (hxn : ∀ n, x = .cel n → n < M.nx) (hz : ∀ z ∈ zs, Nm z) (hl : zs.length ≤ 600) :
    ∃ z M', c__law_word [.cel w, x] M = some (.val (.str z), M') ∧ Nm z ∧ z ∉ zs ∧ Wl M' w (b + 12) ∧ Kp M M' w := by
  obtain ⟨r1, M1, e1, a1, a2, h1, k1⟩ := draw h 6 (by omega) (by omega) (by omega)
  obtain ⟨r2, M2, e2, b1, b2, h2, k2⟩ := draw h1 7 (by omega) (by omega) (by omega)
  have k12 := k1.trans k2
  have hx2 : LstAt M2 x (zs.map Va.str) := LstAt.kp hx hxw k12 hxn
  have hx1 : LstAt M1 x (zs.map Va.str) := LstAt.kp hx hxw k1 hxn
  obtain ⟨w0, q0, q1, _⟩ := at_nat (l := [Va.str "columns", .str "kind", .str "check", .str "new", .str "step", .str "held", .str "taken"]) b1 (by simpa using b2)
  have hw0 : ∃ z0, w0 = .str z0 ∧ Nm z0 := by
    simp at q1
    rcases q1 with q | q | q | q | q | q | q <;> exact ⟨_, q, by decide⟩
  obtain ⟨z0, rfl, hz0⟩ := hw0
  have hnil : ∀ M, LstAt M x (zs.map Va.str) → opNe M x (.lst []) = some (.bl (!decide (zs = []))) := fun M hM => hM.ne_nil fun z hz' => (hz z hz').ok
  have loop : ∀ (M' : Store) (cur : Str) (s3 s5 s6 s7 s8 : Option Va), LstAt M' x (zs.map Va.str) → Nm cur → ∃ z s5', loopF (fun _ => True) (tgName 5) (sSeq (sIf (ev2 opNotInD (evVar 4) (evVar 1)) (sRet (evVar 4)) sNx)
      (sSet 4 (ev2 opAdd (ev2 opIx (evVar 2) (ev2 opMod (evVar 5) (evC (.int 26)))) (ev2 opIx (evVar 2) (ev2 opDiv (evVar 5) (evC (.int 26))))))) ((List.range 676).map fun (i : Nat) => Va.int i)
      [some (.cel w), some x, some (.str "abcdefghijklmnopqrstuvwxyz"), s3, some (.str cur), s5, s6, s7, s8] M' = some (.ret (.str z), [some (.cel w), some x, some (.str "abcdefghijklmnopqrstuvwxyz"), s3, some (.str z), s5', s6, s7, s8], M') ∧ Nm z ∧ z ∉ zs := by
    intro M' cur s3 s5 s6 s7 s8 hM hn
    obtain ⟨d, hd, hf⟩ := fnd zs cur
    have := loop_word M' x zs hM (.cel w) s3 s6 s7 s8 d 0 676 cur s5 (by omega) (by omega) hn hf
    rwa [← List.range_eq_range'] at this
  unfold c__law_word runF m__law_word
  by_cases hn : r1 = 5 ∧ zs ≠ []
  · obtain ⟨hr5, hne⟩ := hn
    have hlen : 0 < zs.length := List.length_pos_iff.mpr hne
    obtain ⟨r3, M3, e3, c1, c2, h3, k3⟩ := draw h2 zs.length (by omega) (by omega) (by omega)
    have hx3 := LstAt.kp hx hxw (k12.trans k3) hxn
    obtain ⟨nv, n0, n1, _⟩ := at_nat (l := zs.map Va.str) c1 (by rw [List.length_map]; exact c2)
    obtain ⟨near, hnear, rfl⟩ := List.mem_map.mp n1
    have nn := hz near hnear
    have nl := nn.len
    obtain ⟨r4, M4, e4, d1, d2, h4, k4⟩ := draw h3 (near.length + 1) (by omega) (by omega) (by omega)
    obtain ⟨r5, M5, e5, f1, f2, h5, k5⟩ := draw h4 26 (by omega) (by omega) (by omega)
    obtain ⟨r6, M6, e6, g1, g2, h6, k6⟩ := draw h5 2 (by omega) (by omega) (by omega)
    have hx6 := LstAt.kp hx hxw ((((k12.trans k3).trans k4).trans k5).trans k6) hxn
    obtain ⟨at_, rfl⟩ : ∃ n : Nat, r4 = n := ⟨r4.toNat, by omega⟩
    obtain ⟨rr, rfl⟩ : ∃ n : Nat, r6 = n := ⟨r6.toNat, by omega⟩
    have hcur := near_ok (z := near) (c := ⟨#[97 + r5.toNat]⟩) (at_ := at_) (r := rr) nn (by omega) (by omega) ⟨97 + r5.toNat, rfl, by omega, by omega⟩
    rw [Int.natCast_add] at hcur
    obtain ⟨z, s5', el, hzn, hzz⟩ := loop M6 _ (some (.int r1)) none (some (.str near)) (some (.int at_)) none hx6 hcur
    refine ⟨z, M6, ?_, hzn, hzz, h6.mono (by omega), ((((k12.trans k3).trans k4).trans k5).trans k6)⟩
    have s1 : opSl M4 (.str near) none (some (at_ : Int)) = some (.str (cutS near none (some (at_ : Int)))) := if_pos (le_line (by omega))
    have s2 : opSl M6 (.str near) (some ((at_ : Int) + (rr : Int))) none = some (.str (cutS near (some ((at_ : Int) + (rr : Int))) none)) := if_pos (le_line (by omega))
    have l1 := let_is (M := M5) f1 f2
    have c1' := cutS_length near none (some (at_ : Int))
    have c2' := cutS_length near (some ((at_ : Int) + (rr : Int))) none
    have lc : (⟨#[97 + r5.toNat]⟩ : Str).length = 1 := rfl
    have p1 : opAdd M5 (.str (cutS near none (some (at_ : Int)))) (.str ⟨#[97 + r5.toNat]⟩) = some (.str (cutS near none (some (at_ : Int)) ++ ⟨#[97 + r5.toNat]⟩)) := y_addS (by omega)
    have p2 : opAdd M6 (.str (cutS near none (some (at_ : Int)) ++ ⟨#[97 + r5.toNat]⟩)) (.str (cutS near (some ((at_ : Int) + (rr : Int))) none)) = some (.str (cutS near none (some (at_ : Int)) ++ ⟨#[97 + r5.toNat]⟩ ++ cutS near (some ((at_ : Int) + (rr : Int))) none)) := y_addS (by rw [len_app]; omega)
    have p3 : opSl M6 (.str (cutS near none (some (at_ : Int)) ++ ⟨#[97 + r5.toNat]⟩ ++ cutS near (some ((at_ : Int) + (rr : Int))) none)) none (some 8) = some (.str (cutS (cutS near none (some (at_ : Int)) ++ ⟨#[97 + r5.toNat]⟩ ++ cutS near (some ((at_ : Int) + (rr : Int))) none) none (some 8))) := if_pos (le_line (by rw [len_app, len_app]; omega))
    subst hr5
    simp (disch := omega) [startI, e1, e2, q0, hnil M2 hx2, hne, hx2.len, e3, hx3.ix, n0, y_lenS, e4, boundOf, s1, e5, l1, p1, e6, s2, p2, p3, z_rng, el]
  · by_cases hr : r1 < 4
    · obtain ⟨r3, M3, e3, c1, c2, h3, k3⟩ := draw h2 8 (by omega) (by omega) (by omega)
      obtain ⟨ys, M4, e4, al, h4, k4⟩ := compL_inv (chk := fun _ => True) (tg := tgName 8) (tt := evYes) (te := ev2 opIx (evVar 2) (evL (kFn 2 c__law_draw) (evCons (evVar 0) (evCons (evC (.int 26)) evNil))))
        (sw := [some (.cel w), some x, some (.str "abcdefghijklmnopqrstuvwxyz"), some (.int r1), some (.str z0), none, none, none, none])
        (fun i M => Wl M w (b + 3 + i) ∧ Kp M3 M w) (fun _ y => ∃ c, y = .str ⟨#[c]⟩ ∧ 97 ≤ c ∧ c ≤ 122) (1 + r3).toNat ((List.range (1 + r3).toNat).map fun (i : Nat) => Va.int i) 0 M3 (by simp) ⟨h3, Kp.refl⟩ (fun _ _ _ => trivial) (fun i y N hi hy ⟨hN, kN⟩ => by
          obtain ⟨r, N', e, d1, d2, h', k'⟩ := draw hN 26 (by omega) (by omega) (by omega)
          have ec := let_is (M := N') d1 d2
          refine ⟨_, rfl, rfl, .str ⟨#[97 + r.toNat]⟩, N', ?_, ⟨_, rfl, by omega, by omega⟩, h'.mono (by omega), kN.trans k'⟩
          simp [e, ec])
      obtain ⟨ts, f1, f2, f3⟩ := strsOf_one (ys := ys) (fun y hy => al.all (Q := fun y => ∃ c, y = .str ⟨#[c]⟩ ∧ 97 ≤ c ∧ c ≤ 122) (fun _ _ h => h) y hy)
      obtain ⟨g1, g2, g3⟩ := join_one f3
      have hlen : ys.length = (1 + r3).toNat := by have := al.len; simp at this; omega
      have e : tl (Txt.join "" ts) = TL.joinL [] (ts.map TL.tl) := by
        show TL.tl _ = _
        rw [TL.join_eq, TL.tl_join]; rfl
      have hcur : Nm (Txt.join "" ts) := by
        unfold Nm
        rw [e, g1]
        exact ⟨by omega, by omega, g2⟩
      have kk := (k12.trans k3).trans k4
      have hx4 := LstAt.kp hx hxw kk hxn
      obtain ⟨z, s5', el, hzn, hzz⟩ := loop M4 _ (some (.int r1)) none none none none hx4 hcur
      refine ⟨z, M4, ?_, hzn, hzz, h4.mono (by omega), kk⟩
      have h5 : ¬ r1 = 5 := by omega
      have hj : gJoin M4 (.str "") [.lst ys] = some (.str (Txt.join "" ts)) := by
        unfold gJoin
        simp only [y_seqL, f1]
        have : (Str.ofString "").length = 0 := rfl
        rw [if_pos (by rw [this]; omega)]
      simp (disch := omega) [startI, e1, e2, q0, hnil M2 hx2, hr, h5, e3, z_rng, e4, hj, el]
    · obtain ⟨z, s5', el, hzn, hzz⟩ := loop M2 z0 (some (.int r1)) none none none none hx2 hz0
      refine ⟨z, M2, ?_, hzn, hzz, h2.mono (by omega), k12⟩
      by_cases h5 : r1 = 5
      · have hz' : zs = [] := by
          refine Decidable.byContradiction fun hne => hn ⟨h5, hne⟩
        subst h5
        simp (disch := omega) [startI, e1, e2, q0, hnil M2 hx2, hz', z_rng, el]
      · simp (disch := omega) [startI, e1, e2, q0, hnil M2 hx2, hr, h5, z_rng, el]
end Lw

set_option Elab.async false
set_option linter.all false
set_option maxRecDepth 100000
set_option maxHeartbeats 4000000
set_option exponentiation.threshold 3000
namespace Lw
open PySem L2 PV
theorem call2 {f : FM} {a b : SE} {s : SL} {M M1 M2 : Store} {x y : Va} {r : Res} (ha : a s M = some (.val x, M1)) (hb : b s M1 = some (.val y, M2)) (hf : f [x, y] M2 = r) : evL (kFn 2 f) (evCons a (evCons b evNil)) s M = r := by
  rw [x_L, x_cons, ha, bindO_val, x_cons, hb, bindO_val, x_nil, bindO_val, bindO_val, bindO_val]
  dsimp only
  rw [x_kFn, if_pos (show [x, y].length = 2 from rfl), hf]
structure SmB (B W dp : Nat) (d : PyData) : Prop where
  sh : d.showable = true
  lf : d.leavesShort B = true
  wt : d.weight ≤ W
  dp : d.depth ≤ dp
theorem SmB.mono {B W W' dp dp' : Nat} {d : PyData} (h : SmB B W dp d) (h1 : W ≤ W') (h2 : dp ≤ dp') : SmB B W' dp' d := ⟨h.sh, h.lf, Nat.le_trans h.wt h1, Nat.le_trans h.dp h2⟩
theorem SmB.int {B k w : Nat} {n : Int} (hk : 1 ≤ k) (hk2 : k + 1 ≤ B) (hw : w ≤ 1920) (h : n.natAbs < 10 ^ k) (h2 : n.natAbs < 2 ^ w) : SmB B w 0 (.int n) := by
  have hl : n.natAbs.log2 < 1920 := by
    by_cases z : n.natAbs = 0
    · rw [z]; decide
    · exact Nat.lt_of_lt_of_le ((Nat.log2_lt z).mpr h2) hw
  refine ⟨by simp only [PyData.showable]; exact decide_eq_true hl, ?_, ?_, by simp only [PyData.depth]; exact Nat.le_refl _⟩
  · simp only [PyData.leavesShort]
    refine decide_eq_true ?_
    have := nm_len (n := n) (k := k) hk h
    rw [← tl_len] at this
    exact Nat.le_trans this hk2
  · simp only [PyData.weight]
    by_cases z : n = 0
    · rw [if_pos (by simp [z])]; exact Nat.zero_le _
    · rw [if_neg (by simp [z])]
      have : n.natAbs.log2 < w := (Nat.log2_lt (by omega)).mpr h2
      omega
theorem SmB.str {B w : Nat} {z : Str} (h : ∀ c ∈ tl z, c < 256) (hl : z.length ≤ w) : SmB B w 0 (.str z) := by
  refine ⟨by simp only [PyData.showable], ?_, ?_, by simp only [PyData.depth]; exact Nat.le_refl _⟩
  · unfold PyData.leavesShort
    rw [List.all_eq_true]
    intro c hc
    have := h c hc
    exact decide_eq_true (by omega)
  · simp only [PyData.weight]; exact hl
theorem smB_all {B W dp : Nat} : ∀ {ds : List PyData}, (∀ d ∈ ds, SmB B W dp d) → PyData.showableAll ds = true ∧ PyData.leavesShortAll B ds = true ∧ PyData.weightAll ds ≤ ds.length * (W + 1) ∧ PyData.depthAll ds ≤ dp
  | [], _ => ⟨by simp only [PyData.showableAll], by simp only [PyData.leavesShortAll], by simp only [PyData.weightAll]; exact Nat.zero_le _, by simp only [PyData.depthAll]; exact Nat.zero_le _⟩
  | d :: ds, h => by
    obtain ⟨a1, a2, a3, a4⟩ := h d (by simp)
    obtain ⟨b1, b2, b3, b4⟩ := smB_all (ds := ds) fun e he => h e (by simp [he])
    refine ⟨by simp only [PyData.showableAll, a1, b1, Bool.and_self], by simp only [PyData.leavesShortAll, a2, b2, Bool.and_self], ?_, ?_⟩
    · simp only [PyData.weightAll, List.length_cons]
      rw [Nat.add_mul]; omega
    · simp only [PyData.depthAll]; omega
theorem SmB.list {B W W' dp n : Nat} {ds : List PyData} (h : ∀ d ∈ ds, SmB B W dp d) (hn : ds.length ≤ n) (hW : n * (W + 1) ≤ W') : SmB B W' (dp + 1) (.list ds) := by
  obtain ⟨a1, a2, a3, a4⟩ := smB_all h
  refine ⟨by simp only [PyData.showable]; exact a1, by simp only [PyData.leavesShort]; exact a2, ?_, by simp only [PyData.depth]; omega⟩
  simp only [PyData.weight]
  exact Nat.le_trans a3 (Nat.le_trans (Nat.mul_le_mul_right _ hn) hW)
theorem SmB.tup3 {B W1 W2 W3 W' dp : Nat} {a b c : PyData} (h1 : SmB B W1 dp a) (h2 : SmB B W2 dp b) (h3 : SmB B W3 dp c) (hW : W1 + W2 + W3 + 3 ≤ W') : SmB B W' (dp + 1) (.tuple [a, b, c]) := by
  obtain ⟨a1, a2, a3, a4⟩ := h1
  obtain ⟨b1, b2, b3, b4⟩ := h2
  obtain ⟨c1, c2, c3, c4⟩ := h3
  refine ⟨by simp only [PyData.showable, PyData.showableAll, a1, b1, c1, Bool.and_self], by simp only [PyData.leavesShort, PyData.leavesShortAll, a2, b2, c2, Bool.and_self], ?_, ?_⟩
  · simp only [PyData.weight, PyData.weightAll]; omega
  · simp only [PyData.depth, PyData.depthAll]; omega
theorem SmB.repr {B W dp : Nat} {M : Store} {x : Va} {d : PyData} (h : SmB B W dp d) (hB : 8 ≤ B) (hW : (B + 2) * W + B ≤ 16777216) (hd : dp ≤ 60) (r : PdR M x d) : kRepr [x] M = some (.val (.str d.shown), M) :=
  repr_of r h.sh (shown_ok hB h.lf h.wt hW) (Nat.le_trans h.dp hd)
theorem repr_e {e : SE} {s : SL} {M M1 : Store} {x : Va} {r : Res} (he : e s M = some (.val x, M1)) (hr : kRepr [x] M1 = r) : evL kRepr (evCons e evNil) s M = r := by
  rw [x_L, x_cons, he, bindO_val, x_nil, bindO_val, bindO_val]
  exact hr
theorem len_at {M M1 : Store} {e : SE} {s : SL} {x : Va} {l : List Va} (he : e s M = some (.val x, M1)) (h : LstAt M1 x l) : evL (kPure gLen) (evCons e evNil) s M = some (.val (.int l.length), M1) := by
  rw [x_L, x_cons, he, bindO_val, x_nil, bindO_val, bindO_val]
  simp only [x_kPure]
  rw [h.len]
theorem drawE {N : Store} {w b : Nat} (wl : Wl N w b) (hb : b < 2 ^ 50) (m : Int) (hm : 0 < m) (hm2 : m < 2 ^ 200) {s : SL} {i : Nat} {e : SE} (hv : ∀ K, evVar i s K = some (.val (.cel w), K)) (he : e s N = some (.val (.int m), N)) : ∃ r N', evL (kFn 2 c__law_draw) (evCons (evVar i) (evCons e evNil)) s N = some (.val (.int r), N') ∧ 0 ≤ r ∧ r < m ∧ Wl N' w (b + 1) ∧ Kp N N' w := by
  obtain ⟨r, N', e1, h0, h1, h2, h3⟩ := draw wl m hm hm2 hb
  exact ⟨r, N', call2 (M1 := N) (M2 := N) (hv N) he e1, h0, h1, h2, h3⟩
theorem tup3 {a b c : SE} {s : SL} {M M1 M2 M3 : Store} {x y z : Va} (ha : a s M = some (.val x, M1)) (hb : b s M1 = some (.val y, M2)) (hc : c s M2 = some (.val z, M3)) : evL kTup (evCons a (evCons b (evCons c evNil))) s M = some (.val (.tup [x, y, z]), M3) := by
  rw [x_L, x_cons, ha, bindO_val, x_cons, hb, bindO_val, x_cons, hc, bindO_val, x_nil, bindO_val, bindO_val, bindO_val, bindO_val]
  dsimp only
  rw [x_tup, if_pos (by show 3 ≤ sizeLine; decide)]
theorem call3 {f : FM} {a b c : SE} {s : SL} {M M1 M2 M3 : Store} {x y z : Va} {r : Res} (ha : a s M = some (.val x, M1)) (hb : b s M1 = some (.val y, M2)) (hc : c s M2 = some (.val z, M3)) (hf : f [x, y, z] M3 = r) : evL (kFn 3 f) (evCons a (evCons b (evCons c evNil))) s M = r := by
  rw [x_L, x_cons, ha, bindO_val, x_cons, hb, bindO_val, x_cons, hc, bindO_val, x_nil, bindO_val, bindO_val, bindO_val, bindO_val]
  dsimp only
  rw [x_kFn, if_pos (show [x, y, z].length = 3 from rfl), hf]
theorem loop_exc {chk : Store → Prop} {tg : Tgt} {body : SS} {x : Va} {xs : List Va} {s s1 s2 : SL} {M M2 : Store} {c : Nat} {v : Va} (hc : chk M) (ht : tg x s M = some s1) (hb : body s1 M = some (.exc c v, s2, M2)) : loopF chk tg body (x :: xs) s M = some (.exc c v, s2, M2) := by
  unfold loopF
  rw [if_pos hc, ht]
  dsimp only
  rw [hb]
theorem seq_exc {a b : SS} {s s1 : SL} {M M1 : Store} {c : Nat} {v : Va} (h : a s M = some (.exc c v, s1, M1)) : sSeq a b s M = some (.exc c v, s1, M1) := by
  unfold sSeq
  rw [h]
theorem end_exc {a : SS} {s s1 : SL} {M M1 : Store} {c : Nat} {v : Va} (h : a s M = some (.exc c v, s1, M1)) : endF (a s M) = some (.exc c v, M1) := by rw [h]; rfl
theorem set_exc {i : Nat} {e : SE} {s : SL} {M M1 : Store} {c : Nat} {v : Va} (h : e s M = some (.exc c v, M1)) : sSet i e s M = some (.exc c v, s, M1) := by
  unfold sSet sE
  rw [h]
theorem ret_exc {e : SE} {s : SL} {M M1 : Store} {c : Nat} {v : Va} (h : e s M = some (.exc c v, M1)) : sRet e s M = some (.exc c v, s, M1) := by
  unfold sRet sE
  rw [h]
theorem SmB.tup2 {B W1 W2 W' dp : Nat} {a b : PyData} (h1 : SmB B W1 dp a) (h2 : SmB B W2 dp b) (hW : W1 + W2 + 2 ≤ W') : SmB B W' (dp + 1) (.tuple [a, b]) := by
  obtain ⟨a1, a2, a3, a4⟩ := h1
  obtain ⟨b1, b2, b3, b4⟩ := h2
  refine ⟨by simp only [PyData.showable, PyData.showableAll, a1, b1, Bool.and_self], by simp only [PyData.leavesShort, PyData.leavesShortAll, a2, b2, Bool.and_self], ?_, ?_⟩
  · simp only [PyData.weight, PyData.weightAll]; omega
  · simp only [PyData.depth, PyData.depthAll]; omega
theorem tru_not {e : SE} {s : SL} {M M1 : Store} (he : e s M = some (.val (.bl true), M1)) : evNot (evTru e) s M = some (.val (.bl false), M1) := by
  rw [x_not, x_tru, he, bindO_val, y_truB]
  rfl
theorem call1 {f : FM} {a : SE} {s : SL} {M M1 : Store} {x : Va} {r : Res} (ha : a s M = some (.val x, M1)) (hf : f [x] M1 = r) : evL (kFn 1 f) (evCons a evNil) s M = r := by
  rw [x_L, x_cons, ha, bindO_val, x_nil, bindO_val, bindO_val]
  dsimp only
  rw [x_kFn, if_pos (show [x].length = 1 from rfl), hf]
theorem eq_same {M : Store} {z : Str} : opEq M (.str z) (.str z) = some (.bl true) := by rw [y_eqS, show decide (z = z) = true from decide_eq_true rfl]
theorem ne_same {M : Store} {z : Str} : opNe M (.str z) (.str z) = some (.bl false) := by rw [y_neS, show decide (z = z) = true from decide_eq_true rfl]; rfl
theorem blsOf_map {α : Type} (p : α → Bool) : ∀ (l : List α), blsOf (l.map fun x => Va.bl (p x)) = some (l.map p)
  | [] => rfl
  | x :: l => by simp [blsOf, blsOf_map p l]
theorem allP {α : Type} {M : Store} (p : α → Bool) (l : List α) : gAll M [.lst (l.map fun x => Va.bl (p x))] = some (.bl (l.all p)) := by
  unfold gAll
  simp only [y_lstL, blsOf_map, Option.map_some]
  congr 2
  rw [List.all_map]; rfl
theorem anyP {α : Type} {M : Store} (p : α → Bool) (l : List α) : gAny M [.lst (l.map fun x => Va.bl (p x))] = some (.bl (l.any p)) := by
  unfold gAny
  simp only [y_lstL, blsOf_map, Option.map_some]
  congr 2
  rw [List.any_map]; rfl
theorem is_nameG {M : Store} {z : Str} (h : z.length ≤ 100000) : c_is_name [.str z] M = some (.val (.bl (decide (Nm z))), M) := by
  have hl : z.length ≤ 16777216 := by omega
  have e1 : evChain opLe opLe (evC (.int 1)) (evL (kPure gLen) (evCons (evVar 0) evNil)) (evC (.int 8)) [some (.str z), none] M = some (.val (.bl (decide (1 ≤ z.length ∧ z.length ≤ 8))), M) := by
    by_cases h1 : 1 ≤ z.length
    · have h1' : (1 : Int) ≤ z.length := by omega
      by_cases h2 : z.length ≤ 8
      · have h2' : (z.length : Int) ≤ 8 := by omega
        simp [y_lenS hl, h1, h2, h1', h2']
      · have h2' : ¬ (z.length : Int) ≤ 8 := by omega
        simp [y_lenS hl, h1, h2, h1', h2']
    · have h1' : ¬ (1 : Int) ≤ z.length := by omega
      simp [y_lenS hl, h1, h1']
  have c := compL_map (M := M) (chk := fun _ => True) (tg := tgName 1) (tt := evYes) (te := (ev2 opInD (evVar 1) (evC (.str "abcdefghijklmnopqrstuvwxyz")))) (sw := [some (.str z), none]) (fun c => Va.str ⟨#[c]⟩) (fun c => Va.bl (decide (97 ≤ c ∧ c ≤ 122))) trivial z.cps.toList (fun c hc => by
    refine ⟨_, rfl, rfl, ?_⟩
    have ho : opInD M (.str ⟨#[c]⟩) (.str "abcdefghijklmnopqrstuvwxyz") = some (.bl (decide (97 ≤ c ∧ c ≤ 122))) := by
      have : opIn M (.str ⟨#[c]⟩) (.str "abcdefghijklmnopqrstuvwxyz") = some (.bl (decide (c ∈ tl letS))) := rfl
      have hm : c ∈ tl letS ↔ (97 ≤ c ∧ c ≤ 122) := by
        have e : tl letS = (List.range 26).map (97 + ·) := by decide
        rw [e, List.mem_map]
        constructor
        · rintro ⟨i, hi, rfl⟩
          have := List.mem_range.mp hi
          omega
        · intro q
          exact ⟨c - 97, List.mem_range.mpr (by omega), by omega⟩
      unfold opInD
      rw [this]
      simp only [hm]
    simp [ho])
  have e2 : evL (kPure gAll) (evCons (evLc (itA (evVar 0)) (tgName 1) evYes (ev2 opInD (evVar 1) (evC (.str "abcdefghijklmnopqrstuvwxyz"))) [1]) evNil) [some (.str z), none] M = some (.val (.bl (z.cps.toList.all fun c => decide (97 ≤ c ∧ c ≤ 122))), M) := by
    rw [x_L, x_cons, z_lc, z_itA, show evVar 0 [some (.str z), none] M = some (.val (.str z), M) from rfl, z_anyS hl]
    dsimp only
    rw [show wipeI [some (.str z), none] [1] = [some (.str z), none] from rfl, c]
    dsimp only
    rw [bindO_val, x_nil, bindO_val, bindO_val]
    dsimp only
    rw [x_kPure, allP]
  unfold c_is_name runF m_is_name
  rw [show startI 2 [Va.str z] = [some (.str z), none] from rfl]
  refine end_ret (s1 := [some (.str z), none]) (ret_val ?_)
  rw [x_and, e1, bindO_val]
  by_cases hl2 : 1 ≤ z.length ∧ z.length ≤ 8
  · rw [decide_eq_true hl2]
    dsimp only
    rw [e2]
    congr 4
    rw [Bool.eq_iff_iff, decide_eq_true_eq, List.all_eq_true]
    unfold Nm
    rw [← tl_len]
    constructor
    · intro q
      exact ⟨hl2.1, hl2.2, fun c hc => by simpa using q c hc⟩
    · intro q c hc
      simpa using q.2.2 c hc
  · rw [decide_eq_false hl2]
    dsimp only
    rw [decide_eq_false (fun q => hl2 q.len)]
theorem law_is_name {M : Store} {z : Str} (h : z.length ≤ 100000) : c__law_is_name [.str z] M = some (.val (.bl (decide (Nm z))), M) := by
  have hl : z.length ≤ 16777216 := by omega
  let S : SL := [some (.str z), some (.str "abcdefghijklmnopqrstuvwxyz"), none]
  have e1 : evChain opLe opLe (evC (.int 1)) (evL (kPure gLen) (evCons (evVar 0) evNil)) (evC (.int 8)) S M = some (.val (.bl (decide (1 ≤ z.length ∧ z.length ≤ 8))), M) := by
    by_cases h1 : 1 ≤ z.length
    · have h1' : (1 : Int) ≤ z.length := by omega
      by_cases h2 : z.length ≤ 8
      · have h2' : (z.length : Int) ≤ 8 := by omega
        simp [S, y_lenS hl, h1, h2, h1', h2']
      · have h2' : ¬ (z.length : Int) ≤ 8 := by omega
        simp [S, y_lenS hl, h1, h2, h1', h2']
    · have h1' : ¬ (1 : Int) ≤ z.length := by omega
      simp [S, y_lenS hl, h1, h1']
  have c := compL_map (M := M) (chk := fun _ => True) (tg := tgName 2) (tt := evYes) (te := (ev2 opInD (evVar 2) (evVar 1))) (sw := S) (fun c => Va.str ⟨#[c]⟩) (fun c => Va.bl (decide (97 ≤ c ∧ c ≤ 122))) trivial z.cps.toList (fun c hc => by
    refine ⟨_, rfl, rfl, ?_⟩
    have ho : opInD M (.str ⟨#[c]⟩) (.str "abcdefghijklmnopqrstuvwxyz") = some (.bl (decide (97 ≤ c ∧ c ≤ 122))) := by
      have : opIn M (.str ⟨#[c]⟩) (.str "abcdefghijklmnopqrstuvwxyz") = some (.bl (decide (c ∈ tl letS))) := rfl
      have hm : c ∈ tl letS ↔ (97 ≤ c ∧ c ≤ 122) := by
        have e : tl letS = (List.range 26).map (97 + ·) := by decide
        rw [e, List.mem_map]
        constructor
        · rintro ⟨i, hi, rfl⟩
          have := List.mem_range.mp hi
          omega
        · intro q
          exact ⟨c - 97, List.mem_range.mpr (by omega), by omega⟩
      unfold opInD
      rw [this]
      simp only [hm]
    simp [S, ho])
  have e2 : evL (kPure gAll) (evCons (evLc (itA (evVar 0)) (tgName 2) evYes (ev2 opInD (evVar 2) (evVar 1)) [2]) evNil) S M = some (.val (.bl (z.cps.toList.all fun c => decide (97 ≤ c ∧ c ≤ 122))), M) := by
    rw [x_L, x_cons, z_lc, z_itA, show evVar 0 S M = some (.val (.str z), M) from rfl, z_anyS hl]
    dsimp only
    rw [show wipeI S [2] = S from rfl, c]
    dsimp only
    rw [bindO_val, x_nil, bindO_val, bindO_val]
    dsimp only
    rw [x_kPure, allP]
  unfold c__law_is_name runF m__law_is_name
  rw [show startI 3 [Va.str z] = [some (.str z), none, none] from rfl]
  refine end_ret (s1 := S) (seq_nx (s1 := S) (M1 := M) rfl (ret_val ?_))
  rw [x_and, e1, bindO_val]
  by_cases hl2 : 1 ≤ z.length ∧ z.length ≤ 8
  · rw [decide_eq_true hl2]
    dsimp only
    rw [e2]
    congr 4
    rw [Bool.eq_iff_iff, decide_eq_true_eq, List.all_eq_true]
    unfold Nm
    rw [← tl_len]
    constructor
    · intro q
      exact ⟨hl2.1, hl2.2, fun c hc => by simpa using q c hc⟩
    · intro q c hc
      simpa using q.2.2 c hc
  · rw [decide_eq_false hl2]
    dsimp only
    rw [decide_eq_false (fun q => hl2 q.len)]
theorem loop_ret {chk : Store → Prop} {tg : Tgt} {body : SS} {x : Va} {xs : List Va} {s s1 s2 : SL} {M M2 : Store} {v : Va} (hc : chk M) (ht : tg x s M = some s1) (hb : body s1 M = some (.ret v, s2, M2)) : loopF chk tg body (x :: xs) s M = some (.ret v, s2, M2) := by
  unfold loopF
  rw [if_pos hc, ht]
  dsimp only
  rw [hb]
theorem orB {ea eb : SE} {s : SL} {M : Store} {a b : Bool} (ha : ea s M = some (.val (.bl a), M)) (hb : eb s M = some (.val (.bl b), M)) : evOr ea eb s M = some (.val (.bl (a || b)), M) := by
  rw [x_or, ha, bindO_val]
  cases a with
  | true => rfl
  | false => exact hb
theorem andB {ea eb : SE} {s : SL} {M : Store} {a b : Bool} (ha : ea s M = some (.val (.bl a), M)) (hb : eb s M = some (.val (.bl b), M)) : evAnd ea eb s M = some (.val (.bl (a && b)), M) := by
  rw [x_and, ha, bindO_val]
  cases a with
  | true => exact hb
  | false => rfl
theorem tup2v {M M1 : Store} {s : SL} {e : SE} {n : Str} {v : Va} (h : e s M = some (.val v, M1)) : evL kTup (evCons (evC (.str n)) (evCons e evNil)) s M = some (.val (.tup [.str n, v]), M1) := by
  rw [x_L, x_cons, x_c, bindO_val, x_cons, h, bindO_val, x_nil, bindO_val, bindO_val, bindO_val]
  show kTup _ _ = _
  unfold kTup
  rw [if_pos (by show 2 ≤ sizeLine; decide)]
noncomputable abbrev sdBody : SS := sIf (evAnd (ev2 opEq (ev2 opIx (evVar 3) (evC (.int 0))) (evVar 4)) (ev2 opEq (ev2 opIx (evVar 3) (evC (.int 1))) (evVar 5))) (sRet (evL kTup (evCons (evC (.str "DoubleStep")) (evCons (evL kTup (evCons (evVar 4) (evCons (evVar 5) (evCons (evVar 6) evNil)))) evNil)))) sNx
theorem drop_exc {e : SE} {s : SL} {M M1 : Store} {c : Nat} {v : Va} (h : e s M = some (.exc c v, M1)) : sDrop e s M = some (.exc c v, s, M1) := by
  unfold sDrop sE
  rw [h]
/-! ### numbers -/
def dg : List Nat → List Nat
  | [] => []
  | c :: r => if c = 45 then r else c :: r
theorem dg_cons (c : Nat) (r : List Nat) : dg (c :: r) = if c = 45 then r else c :: r := rfl
def Nu (z : Str) : Prop := 1 ≤ (dg (tl z)).length ∧ (dg (tl z)).length ≤ 60 ∧ (∀ c ∈ dg (tl z), 48 ≤ c ∧ c ≤ 57) ∧ (tl z = [48] ∨ (dg (tl z)).headD 0 ≠ 48)
instance (z : Str) : Decidable (Nu z) := by unfold Nu; infer_instance
def nuV (z : Str) : Int := (PySem.intText? z).getD 0
theorem dval_lt : ∀ (l : List Nat) (a : Nat), NumText.AllDigits l → l.foldl (fun acc c => acc * 10 + (c - 48)) a < (a + 1) * 10 ^ l.length
  | [], a, _ => by simp
  | c :: r, a, h => by
    have hc := h.head
    rw [List.foldl_cons, List.length_cons]
    have := dval_lt r (a * 10 + (c - 48)) h.tail
    refine Nat.lt_of_lt_of_le this ?_
    rw [Nat.pow_succ, show (a + 1) * (10 ^ r.length * 10) = ((a + 1) * 10) * 10 ^ r.length by rw [Nat.mul_comm (10 ^ r.length), Nat.mul_assoc]]
    exact Nat.mul_le_mul_right _ (by omega)
theorem dval_lt0 {l : List Nat} (h : NumText.AllDigits l) (hl : l.length ≤ 60) : NumText.digitsVal l < 10 ^ 60 := by
  have := dval_lt l 0 h
  rw [Nat.zero_add, Nat.one_mul] at this
  exact Nat.lt_of_lt_of_le this (Nat.pow_le_pow_right (by decide) hl)
theorem Nu.val {z : Str} (h : Nu z) : PySem.intText? z = some (nuV z) ∧ (nuV z).natAbs < 10 ^ 60 ∧ z.length ≤ 61 ∧ 1 ≤ z.length := by
  obtain ⟨h1, h2, h3, h4⟩ := h
  have ad : NumText.AllDigits (dg (tl z)) := fun c hc => h3 c hc
  have hl : z.length = (tl z).length := tl_len z
  cases e : tl z with
  | nil => rw [e] at h1; simp [dg] at h1
  | cons c r =>
    rw [e] at h1 h2 ad hl
    rw [dg_cons] at h1 h2 ad
    by_cases hc : c = 45
    · rw [if_pos hc] at h1 h2 ad
      have q := PySem.intText_neg (x := z) (cs := r) (by show tl z = _; rw [e, hc]) ad (fun z => by rw [z] at h1; simp at h1) (by rw [hl, List.length_cons]; omega)
      have d := dval_lt0 ad h2
      unfold nuV
      rw [q]
      refine ⟨rfl, ?_, by rw [hl, List.length_cons]; omega, by rw [hl, List.length_cons]; omega⟩
      show (-((NumText.digitsVal r : Nat) : Int)).natAbs < 10 ^ 60
      omega
    · rw [if_neg hc] at h1 h2 ad
      have q := PySem.intText_digits (x := z) (by show NumText.AllDigits (tl z); rw [e]; exact ad) (by show tl z ≠ []; rw [e]; simp) (by rw [hl, List.length_cons]; rw [List.length_cons] at h2; omega)
      have d := dval_lt0 ad h2
      have d' : NumText.digitsVal z.cps.toList < 10 ^ 60 := by show NumText.digitsVal (tl z) < _; rw [e]; exact d
      unfold nuV
      rw [q]
      refine ⟨rfl, ?_, by rw [hl]; omega, by rw [hl, List.length_cons]; omega⟩
      show (((NumText.digitsVal z.cps.toList : Nat) : Int)).natAbs < 10 ^ 60
      omega
theorem str_ext {a b : Str} (h : tl a = tl b) : a = b := TL.ext_tl h
theorem str_eq {a b : Str} : decide (a = b) = decide (tl a = tl b) := by
  by_cases h : a = b
  · rw [decide_eq_true h, decide_eq_true (by rw [h])]
  · rw [decide_eq_false h, decide_eq_false (fun q => h (str_ext q))]
/-- the digits of a word, in the law and in the program -/
def dgS (z : Str) : Str := if (tl z).head? = some 45 then cutS z (some 1) none else z
theorem dgS_tl (z : Str) : tl (dgS z) = dg (tl z) := by
  unfold dgS
  cases e : tl z with
  | nil => simp [dg, e]
  | cons c r =>
    by_cases hc : c = 45
    · rw [if_pos (by rw [hc]; rfl), show (some 1 : Option Int) = some ((1 : Nat) : Int) from rfl, cut_from, e]
      rw [dg_cons, if_pos hc]; rfl
    · rw [if_neg (by simpa using hc), e, dg_cons, if_neg hc]
theorem dgS_len (z : Str) : (dgS z).length ≤ z.length := by
  rw [tl_len, tl_len z, dgS_tl]
  cases tl z with
  | nil => simp [dg]
  | cons c r => rw [dg_cons]; split <;> simp
def isD (c : Nat) : Bool := decide (48 ≤ c ∧ c ≤ 57)
theorem digit_in {M : Store} (c : Nat) : opInD M (.str ⟨#[c]⟩) (.str "0123456789") = some (.bl (isD c)) := by
  have : opIn M (.str ⟨#[c]⟩) (.str "0123456789") = some (.bl (decide (c ∈ tl ("0123456789" : Str)))) := rfl
  have hm : c ∈ tl ("0123456789" : Str) ↔ (48 ≤ c ∧ c ≤ 57) := by
    have e : tl ("0123456789" : Str) = (List.range 10).map (48 + ·) := by decide
    rw [e, List.mem_map]
    constructor
    · rintro ⟨i, hi, rfl⟩
      have := List.mem_range.mp hi
      omega
    · intro q
      exact ⟨c - 48, List.mem_range.mpr (by omega), by omega⟩
  unfold opInD
  rw [this]
  simp only [hm]
  rfl
theorem digit_notin {M : Store} (c : Nat) : opNotInD M (.str ⟨#[c]⟩) (.str "0123456789") = some (.bl (!isD c)) := by
  have : opNotIn M (.str ⟨#[c]⟩) (.str "0123456789") = some (.bl (!decide (c ∈ tl ("0123456789" : Str)))) := rfl
  have hm : c ∈ tl ("0123456789" : Str) ↔ (48 ≤ c ∧ c ≤ 57) := by
    have e : tl ("0123456789" : Str) = (List.range 10).map (48 + ·) := by decide
    rw [e, List.mem_map]
    constructor
    · rintro ⟨i, hi, rfl⟩
      have := List.mem_range.mp hi
      omega
    · intro q
      exact ⟨c - 48, List.mem_range.mpr (by omega), by omega⟩
  unfold opNotInD
  rw [this]
  simp only [hm]
  rfl
theorem cut_1 {z : Str} : tl (cutS z none (some 1)) = (tl z).take 1 := by
  rw [show (some 1 : Option Int) = some ((1 : Nat) : Int) from rfl, cutS_to]
theorem head_dash (z : Str) : decide (cutS z none (some 1) = "-") = decide ((tl z).head? = some 45) := by
  rw [str_eq, cut_1, show tl ("-" : Str) = [45] from by decide]
  cases tl z with
  | nil => rfl
  | cons c r => simp
theorem ix0_str {M : Store} {z : Str} (h : tl z ≠ []) (hl : z.length ≤ 100000) : opIx M (.str z) (.int 0) = some (.str ⟨#[(tl z).headD 0]⟩) := by
  show (if z.length ≤ sizeLine then (atI (tl z) 0).map fun c => Va.str ⟨#[c]⟩ else none) = _
  rw [if_pos (le_line (by omega))]
  cases e : tl z with
  | nil => exact absurd e h
  | cons c r => rw [at_0]; rfl
theorem nu_iff {z : Str} : Nu z ↔ (1 ≤ (dgS z).length ∧ (dgS z).length ≤ 60 ∧ (tl (dgS z)).all isD = true) ∧ (z = "0" ∨ ¬ (⟨#[(tl (dgS z)).headD 0]⟩ : Str) = "0") := by
  unfold Nu
  rw [tl_len (dgS z), dgS_tl]
  have e1 : ((dg (tl z)).all isD = true) ↔ ∀ c ∈ dg (tl z), 48 ≤ c ∧ c ≤ 57 := by
    rw [List.all_eq_true]
    exact ⟨fun h c hc => of_decide_eq_true (h c hc), fun h c hc => decide_eq_true (h c hc)⟩
  have e2 : z = "0" ↔ tl z = [48] := ⟨fun h => by rw [h]; decide, fun h => str_ext (by rw [h]; decide)⟩
  have e3 : ((⟨#[(dg (tl z)).headD 0]⟩ : Str) = "0") ↔ (dg (tl z)).headD 0 = 48 := by
    constructor
    · intro h
      have := congrArg tl h
      rw [show tl (⟨#[(dg (tl z)).headD 0]⟩ : Str) = [(dg (tl z)).headD 0] from rfl, show tl ("0" : Str) = [48] from by decide] at this
      injection this
    · intro h
      rw [h]; decide
  rw [e1, e2, e3]
  constructor
  · rintro ⟨h1, h2, h3, h4⟩
    exact ⟨⟨h1, h2, h3⟩, h4⟩
  · rintro ⟨⟨h1, h2, h3⟩, h4⟩
    exact ⟨h1, h2, h3, h4⟩
theorem law_is_number {M : Store} {z : Str} (h : z.length ≤ 100000) : c__law_is_number [.str z] M = some (.val (.bl (decide (Nu z))), M) := by
  have hdl := dgS_len z
  let S0 : SL := [some (.str z), none, none]
  let S : SL := [some (.str z), some (.str (dgS z)), none]
  have b1 : sSet 1 (evIf (ev2 opEq (evSl (evVar 0) (evC .non) (evB (evC (.int 1)))) (evC (.str "-"))) (evSl (evVar 0) (evB (evC (.int 1))) (evC .non)) (evVar 0)) S0 M = some (.nx, S, M) := by
    refine set_val (v := .str (dgS z)) ?_
    have s1 : opSl M (.str z) none (some 1) = some (.str (cutS z none (some 1))) := if_pos (le_line (by omega))
    have s2 : opSl M (.str z) (some 1) none = some (.str (cutS z (some 1) none)) := if_pos (le_line (by omega))
    have c : ev2 opEq (evSl (evVar 0) (evC .non) (evB (evC (.int 1)))) (evC (.str "-")) S0 M = some (.val (.bl (decide ((tl z).head? = some 45))), M) := by
      rw [← head_dash]
      simp [S0, boundOf, s1]
    rw [x_if, c, bindO_val]
    unfold dgS
    by_cases hc : (tl z).head? = some 45
    · rw [decide_eq_true hc, if_pos hc]
      simp [S0, boundOf, s2]
    · rw [decide_eq_false hc, if_neg hc]
      rfl
  have lnv : evL (kPure gLen) (evCons (evVar 1) evNil) S M = some (.val (.int ((dgS z).length : Nat)), M) := by
    rw [x_L, x_cons, show evVar 1 S M = some (.val (.str (dgS z)), M) from rfl, bindO_val, x_nil, bindO_val, bindO_val]
    dsimp only
    rw [x_kPure, y_lenS (by omega)]
  have cm := compL_map (M := M) (chk := fun _ => True) (tg := tgName 2) (tt := evYes) (te := (ev2 opInD (evVar 2) (evC (.str "0123456789")))) (sw := S) (fun c => Va.str ⟨#[c]⟩) (fun c => Va.bl (isD c)) trivial (dgS z).cps.toList (fun c hc => ⟨_, rfl, rfl, by
    rw [x_2, show evVar 2 (S.set 2 (some (.str ⟨#[c]⟩))) M = some (.val (.str ⟨#[c]⟩), M) from rfl, bindO_val, x_c, bindO_val, digit_in]⟩)
  have eall : evNot (evTru (evL (kPure gAll) (evCons (evLc (itA (evVar 1)) (tgName 2) evYes (ev2 opInD (evVar 2) (evC (.str "0123456789"))) [2]) evNil))) S M = some (.val (.bl (!(tl (dgS z)).all isD)), M) := by
    rw [x_not, x_tru, x_L, x_cons, z_lc, z_itA, show evVar 1 S M = some (.val (.str (dgS z)), M) from rfl, z_anyS (by omega)]
    dsimp only
    rw [show wipeI S [2] = S from rfl, cm]
    dsimp only
    rw [bindO_val, x_nil, bindO_val, bindO_val]
    dsimp only
    rw [x_kPure, allP]
    rfl
  have o1 : ev2 opLt (evL (kPure gLen) (evCons (evVar 1) evNil)) (evC (.int 1)) S M = some (.val (.bl (decide (((dgS z).length : Int) < 1))), M) := by rw [x_2, lnv, bindO_val, x_c, bindO_val, y_lt]
  have o2 : ev2 opGt (evL (kPure gLen) (evCons (evVar 1) evNil)) (evC (.int 60)) S M = some (.val (.bl (decide (((dgS z).length : Int) > 60))), M) := by rw [x_2, lnv, bindO_val, x_c, bindO_val]; rfl
  have c := orB o1 (orB o2 eall)
  have cv : (decide (((dgS z).length : Int) < 1) || (decide (((dgS z).length : Int) > 60) || !(tl (dgS z)).all isD)) = !decide (1 ≤ (dgS z).length ∧ (dgS z).length ≤ 60 ∧ (tl (dgS z)).all isD = true) := by
    rw [Bool.eq_iff_iff]
    simp only [Bool.or_eq_true, decide_eq_true_eq, Bool.not_eq_true', decide_eq_false_iff_not]
    cases (tl (dgS z)).all isD <;> simp <;> omega
  rw [cv] at c
  unfold c__law_is_number runF m__law_is_number
  rw [show startI 3 [Va.str z] = S0 from rfl]
  by_cases hA : 1 ≤ (dgS z).length ∧ (dgS z).length ≤ 60 ∧ (tl (dgS z)).all isD = true
  case neg =>
    rw [decide_eq_false hA] at c
    rw [decide_eq_false (fun q => hA (nu_iff.mp q).1)]
    exact end_ret (s1 := S) (seq_nx b1 (seq_ret (by rw [x_sIf, c]; rfl)))
  rw [decide_eq_true hA] at c
  refine end_ret (s1 := S) (seq_nx b1 (seq_nx (s1 := S) (M1 := M) (by rw [x_sIf, c]; rfl) (ret_val ?_)))
  have hne : tl (dgS z) ≠ [] := fun q => by
    have := hA.1
    rw [tl_len, q] at this
    simp at this
  have r1 : ev2 opEq (evVar 0) (evC (.str "0")) S M = some (.val (.bl (decide (z = "0"))), M) := rfl
  have r2 : ev2 opNe (ev2 opIx (evVar 1) (evC (.int 0))) (evC (.str "0")) S M = some (.val (.bl (!decide ((⟨#[(tl (dgS z)).headD 0]⟩ : Str) = "0"))), M) := by
    rw [x_2, x_2, show evVar 1 S M = some (.val (.str (dgS z)), M) from rfl, bindO_val, x_c, bindO_val, ix0_str hne (by omega)]
    dsimp only
    rw [bindO_val, x_c, bindO_val, y_neS]
  rw [orB r1 r2]
  congr 4
  rw [Bool.eq_iff_iff]
  simp only [Bool.or_eq_true, decide_eq_true_eq, Bool.not_eq_true', decide_eq_false_iff_not]
  rw [nu_iff]
  exact ⟨fun h => ⟨hA, h⟩, fun h => h.2⟩
end Lw

set_option Elab.async false
set_option linter.all false
set_option maxRecDepth 100000
set_option maxHeartbeats 4000000
set_option exponentiation.threshold 3000
namespace Lw
open PySem L2 PV
theorem starts_dash (z : Str) : Txt.startswith z "-" = decide ((tl z).head? = some 45) := by
  obtain ⟨⟨l⟩⟩ := z
  show (decide (0 + 1 ≤ l.length) && _) = decide (l.head? = some 45)
  cases l with
  | nil => rfl
  | cons c r =>
    have : Builtin.Str.subAt (⟨⟨c :: r⟩⟩ : Str) "-" 0 = decide (c = 45) := by
      have e1 : Builtin.Str.subAt (⟨⟨c :: r⟩⟩ : Str) "-" 0 = ((c == 45) && true) := by
        have e2 : Builtin.Str.subAt (⟨⟨c :: r⟩⟩ : Str) "-" 0 = ((List.take 1 (c :: r)).toArray == #[45]) := by
          unfold Builtin.Str.subAt
          rw [show (Str.ofString "-").length = 1 from rfl, show (Str.ofString "-").cps = #[45] from rfl]
          simp
        rw [e2]
        simp
      rw [e1, Bool.and_true]
      rfl
    rw [this]
    simp
def numO (z : Str) : Va := if Nu z then .int (nuV z) else .non
theorem int_text {M : Store} {z : Str} (h : Nu z) : gInt M [.str z] = some (.int (nuV z)) := by
  obtain ⟨h1, _, h2, _⟩ := h.val
  unfold gInt
  first
  | (dsimp only; rw [if_pos (by omega), h1]; rfl)
  | (dsimp only; rw [h1]; simp; omega)
theorem read_number {M : Store} {z : Str} (h : z.length ≤ 100000) : c_read_number [.str z] M = some (.val (numO z), M) := by
  have hdl := dgS_len z
  let S0 : SL := [some (.str z), none, none]
  let S : SL := [some (.str z), some (.str (dgS z)), none]
  have b1 : sSet 1 (evIf (evTru (evM2 isStrA (kVal gStarts) (evVar 0) (evCons (evC (.str "-")) evNil))) (evSl (evVar 0) (evB (evC (.int 1))) (evC .non)) (evVar 0)) S0 M = some (.nx, S, M) := by
    refine set_val (v := .str (dgS z)) ?_
    have s2 : opSl M (.str z) (some 1) none = some (.str (cutS z (some 1) none)) := if_pos (le_line (by omega))
    have c : evTru (evM2 isStrA (kVal gStarts) (evVar 0) (evCons (evC (.str "-")) evNil)) S0 M = some (.val (.bl (decide ((tl z).head? = some 45))), M) := by
      rw [← starts_dash]
      rfl
    rw [x_if, c, bindO_val]
    unfold dgS
    by_cases hc : (tl z).head? = some 45
    · rw [decide_eq_true hc, if_pos hc]
      simp [S0, boundOf, s2]
    · rw [decide_eq_false hc, if_neg hc]
      rfl
  have lnv : evL (kPure gLen) (evCons (evVar 1) evNil) S M = some (.val (.int ((dgS z).length : Nat)), M) := by
    rw [x_L, x_cons, show evVar 1 S M = some (.val (.str (dgS z)), M) from rfl, bindO_val, x_nil, bindO_val, bindO_val]
    dsimp only
    rw [x_kPure, y_lenS (by omega)]
  have cm := compL_map (M := M) (chk := fun _ => True) (tg := tgName 2) (tt := evYes) (te := (ev2 opNotInD (evVar 2) (evC (.str "0123456789")))) (sw := S) (fun c => Va.str ⟨#[c]⟩) (fun c => Va.bl (!isD c)) trivial (dgS z).cps.toList (fun c hc => ⟨_, rfl, rfl, by
    rw [x_2, show evVar 2 (S.set 2 (some (.str ⟨#[c]⟩))) M = some (.val (.str ⟨#[c]⟩), M) from rfl, bindO_val, x_c, bindO_val, digit_notin]⟩)
  have eany : evTru (evL (kPure gAny) (evCons (evLc (itA (evVar 1)) (tgName 2) evYes (ev2 opNotInD (evVar 2) (evC (.str "0123456789"))) [2]) evNil)) S M = some (.val (.bl ((tl (dgS z)).any fun c => !isD c)), M) := by
    rw [x_tru, x_L, x_cons, z_lc, z_itA, show evVar 1 S M = some (.val (.str (dgS z)), M) from rfl, z_anyS (by omega)]
    dsimp only
    rw [show wipeI S [2] = S from rfl, cm]
    dsimp only
    rw [bindO_val, x_nil, bindO_val, bindO_val]
    dsimp only
    rw [x_kPure, anyP]
    rfl
  have o1 : evNot (evChain opLe opLe (evC (.int 1)) (evL (kPure gLen) (evCons (evVar 1) evNil)) (evC (.int 60))) S M = some (.val (.bl (!decide (1 ≤ (dgS z).length ∧ (dgS z).length ≤ 60))), M) := by
    rw [x_not, x_chain, x_c, bindO_val, lnv, bindO_val, y_le]
    by_cases h1 : 1 ≤ (dgS z).length
    · rw [decide_eq_true (show (1 : Int) ≤ (dgS z).length by omega)]
      dsimp only
      rw [x_c, bindO_val, y_le]
      dsimp only
      rw [bindO_val]
      by_cases h2 : (dgS z).length ≤ 60
      · rw [decide_eq_true (show ((dgS z).length : Int) ≤ 60 by omega), decide_eq_true ⟨h1, h2⟩]
      · rw [decide_eq_false (show ¬ ((dgS z).length : Int) ≤ 60 by omega), decide_eq_false (fun q => h2 q.2)]
    · rw [decide_eq_false (show ¬ (1 : Int) ≤ (dgS z).length by omega), decide_eq_false (fun q => h1 q.1)]
      rfl
  have c := orB o1 eany
  have ca : ((tl (dgS z)).any fun c => !isD c) = !(tl (dgS z)).all isD := by
    induction tl (dgS z) with
    | nil => rfl
    | cons a l ih => rw [List.any_cons, List.all_cons, ih]; cases isD a <;> rfl
  have cv : (!decide (1 ≤ (dgS z).length ∧ (dgS z).length ≤ 60) || ((tl (dgS z)).any fun c => !isD c)) = !decide (1 ≤ (dgS z).length ∧ (dgS z).length ≤ 60 ∧ (tl (dgS z)).all isD = true) := by
    rw [ca, Bool.eq_iff_iff]
    simp only [Bool.or_eq_true, decide_eq_true_eq, Bool.not_eq_true', decide_eq_false_iff_not]
    cases (tl (dgS z)).all isD <;> simp <;> omega
  rw [cv] at c
  unfold c_read_number runF m_read_number numO
  rw [show startI 3 [Va.str z] = S0 from rfl]
  by_cases hA : 1 ≤ (dgS z).length ∧ (dgS z).length ≤ 60 ∧ (tl (dgS z)).all isD = true
  case neg =>
    rw [decide_eq_false hA] at c
    rw [if_neg (fun q => hA (nu_iff.mp q).1)]
    exact end_ret (s1 := S) (seq_nx b1 (seq_ret (by rw [x_sIf, c]; rfl)))
  rw [decide_eq_true hA] at c
  have hne : tl (dgS z) ≠ [] := fun q => by
    have := hA.1
    rw [tl_len, q] at this
    simp at this
  have r1 : ev2 opNe (evVar 0) (evC (.str "0")) S M = some (.val (.bl (!decide (z = "0"))), M) := rfl
  have r2 : ev2 opEq (ev2 opIx (evVar 1) (evC (.int 0))) (evC (.str "0")) S M = some (.val (.bl (decide ((⟨#[(tl (dgS z)).headD 0]⟩ : Str) = "0"))), M) := by
    rw [x_2, x_2, show evVar 1 S M = some (.val (.str (dgS z)), M) from rfl, bindO_val, x_c, bindO_val, ix0_str hne (by omega)]
    dsimp only
    rw [bindO_val, x_c, bindO_val, y_eqS]
  have c2 := andB r2 r1
  have nu : Nu z ↔ (z = "0" ∨ ¬ (⟨#[(tl (dgS z)).headD 0]⟩ : Str) = "0") := by
    rw [nu_iff]
    exact ⟨fun h => h.2, fun h => ⟨hA, h⟩⟩
  have n1 : ∀ a, sIf (evOr (evNot (evChain opLe opLe (evC (.int 1)) (evL (kPure gLen) (evCons (evVar 1) evNil)) (evC (.int 60)))) (evTru (evL (kPure gAny) (evCons (evLc (itA (evVar 1)) (tgName 2) evYes (ev2 opNotInD (evVar 2) (evC (.str "0123456789"))) [2]) evNil)))) a sNx S M = some (.nx, S, M) := fun a => by rw [x_sIf, c]; rfl
  by_cases hB : Nu z
  · rw [if_pos hB]
    have cb : (decide ((⟨#[(tl (dgS z)).headD 0]⟩ : Str) = "0") && !decide (z = "0")) = false := by
      rcases nu.mp hB with q | q
      · rw [decide_eq_true q]; simp
      · rw [decide_eq_false q]; rfl
    rw [cb] at c2
    refine end_ret (s1 := S) (seq_nx b1 (seq_nx (n1 _) (seq_nx (s1 := S) (M1 := M) (by rw [x_sIf, c2]; rfl) (ret_val ?_))))
    rw [x_L, x_cons, show evVar 0 S M = some (.val (.str z), M) from rfl, bindO_val, x_nil, bindO_val, bindO_val]
    dsimp only
    rw [x_kPure, int_text hB]
  · rw [if_neg hB]
    have q1 : ¬ z = "0" := fun q => hB (nu.mpr (.inl q))
    have q2 : (⟨#[(tl (dgS z)).headD 0]⟩ : Str) = "0" := Decidable.byContradiction fun q => hB (nu.mpr (.inr q))
    rw [decide_eq_true q2, decide_eq_false q1] at c2
    exact end_ret (s1 := S) (seq_nx b1 (seq_nx (n1 _) (seq_ret (by rw [x_sIf, c2]; rfl))))
/-! ### one deed -/
def dV (d : Bool × Str × Int) : Va := if d.1 = true then .tup [.str "new", .str d.2.1, .int d.2.2] else .tup [.str "step", .int d.2.2, .str d.2.1]
def dO : Option (Bool × Str × Int) → Va
  | none => .non
  | some d => dV d
def deedW : List Str → Option (Bool × Str × Int)
  | [a, b, c] => if a = "new" then (if Nm b ∧ Nu c then some (true, b, nuV c) else none) else if a = "step" then (if Nu b ∧ Nm c then some (false, c, nuV b) else none) else none
  | _ => none
def deedS (z : Str) : Option (Bool × Str × Int) := deedW (Txt.split z " ")
end Lw

set_option Elab.async false
set_option linter.all false
set_option maxRecDepth 100000
set_option maxHeartbeats 4000000
set_option exponentiation.threshold 3000
namespace Lw
open PySem L2 PV
/-! ### pieces -/
def TX (n : Nat) (z : Str) : Prop := z.length ≤ n ∧ ∀ c ∈ tl z, c < 128
theorem TX.up {n m : Nat} {z : Str} (h : TX n z) (hm : n ≤ m) : TX m z := ⟨Nat.le_trans h.1 hm, h.2⟩
theorem spl_facts (S : List Nat) : ∀ (l : List Nat) (k : Nat) (acc : List Nat), (∀ p ∈ TL.spl S k acc l, ∀ c ∈ p, c ∈ acc ∨ c ∈ l) ∧ ((TL.spl S k acc l).map List.length).sum + (TL.spl S k acc l).length ≤ acc.length + l.length + 1
  | [], k, acc => by
    rw [TL.spl_nil]
    refine ⟨fun p hp c hc => ?_, by simp⟩
    rw [List.mem_singleton.mp hp] at hc
    exact .inl hc
  | c :: r, k + 1, acc => by
    obtain ⟨h1, h2⟩ := spl_facts S r k acc
    refine ⟨fun p hp d hd => ?_, ?_⟩
    · rcases h1 p hp d hd with q | q
      · exact .inl q
      · exact .inr (List.mem_cons_of_mem _ q)
    · show ((TL.spl S k acc r).map List.length).sum + (TL.spl S k acc r).length ≤ _
      rw [List.length_cons]
      omega
  | c :: r, 0, acc => by
    cases hp : TL.pre S (c :: r) with
    | true =>
      rw [TL.spl_hit hp]
      obtain ⟨h1, h2⟩ := spl_facts S r (S.length - 1) []
      refine ⟨fun p hp d hd => ?_, ?_⟩
      · rcases List.mem_cons.mp hp with q | q
        · rw [q] at hd; exact .inl hd
        · rcases h1 p q d hd with z | z
          · cases z
          · exact .inr (List.mem_cons_of_mem _ z)
      · rw [List.map_cons, List.sum_cons, List.length_cons, List.length_cons]
        rw [List.length_nil] at h2
        omega
    | false =>
      rw [TL.spl_miss hp]
      obtain ⟨h1, h2⟩ := spl_facts S r 0 (acc ++ [c])
      refine ⟨fun p hp d hd => ?_, ?_⟩
      · rcases h1 p hp d hd with z | z
        · rcases List.mem_append.mp z with z | z
          · exact .inl z
          · rw [List.mem_singleton.mp z]; exact .inr (by simp)
        · exact .inr (List.mem_cons_of_mem _ z)
      · rw [List.length_append, List.length_cons, List.length_nil] at h2
        rw [List.length_cons]
        omega
theorem spl_ne (S : List Nat) : ∀ (l : List Nat) (k : Nat) (acc : List Nat), 1 ≤ (TL.spl S k acc l).length
  | [], k, acc => by rw [TL.spl_nil]; simp
  | c :: r, k + 1, acc => spl_ne S r k acc
  | c :: r, 0, acc => by
    cases hp : TL.pre S (c :: r) with
    | true => rw [TL.spl_hit hp, List.length_cons]; omega
    | false => rw [TL.spl_miss hp]; exact spl_ne S r 0 _
structure Mk (b : Str) : Prop where
  ne : tl b ≠ []
  ln : (b.length == 0) = false
  l2 : b.length ≤ 2
  as : ∀ c ∈ tl b, c < 128
theorem Mk.kd {b : Str} (h : Mk b) : b.cps.all (· < 256) = true := by
  rw [Array.all_eq_true_iff_forall_mem]
  intro c hc
  have := h.as c (Array.mem_toList_iff.mpr hc)
  exact decide_eq_true (by omega)
theorem mk_sp : Mk " " := ⟨by decide, by decide, by decide, by decide⟩
theorem mk_semi : Mk "; " := ⟨by decide, by decide, by decide, by decide⟩
theorem mk_comma : Mk "," := ⟨by decide, by decide, by decide, by decide⟩
theorem lens_tl (l : List Str) : (l.map tl).map List.length = l.map (·.length) := by
  rw [List.map_map]
  exact List.map_congr_left fun z _ => (tl_len z).symm
theorem split_facts {z b : Str} (hb : Mk b) : (∀ p ∈ Txt.split z b, ∀ c ∈ tl p, c ∈ tl z) ∧ ((Txt.split z b).map (·.length)).sum + (Txt.split z b).length ≤ z.length + 1 ∧ 1 ≤ (Txt.split z b).length := by
  have e := TL.split_spl z b hb.ne (TL.kind_ok hb.kd)
  have e : (Txt.split z b).map tl = TL.spl (tl b) 0 [] (tl z) := e
  obtain ⟨h1, h2⟩ := spl_facts (tl b) (tl z) 0 []
  have h3 := spl_ne (tl b) (tl z) 0 []
  rw [← e] at h1 h2 h3
  rw [List.length_map] at h2 h3
  rw [lens_tl, List.length_nil, Nat.zero_add, ← tl_len] at h2
  refine ⟨fun p hp c hc => ?_, h2, h3⟩
  rcases h1 (tl p) (List.mem_map_of_mem hp) c hc with q | q
  · cases q
  · exact q
theorem le_sum {x : Nat} : ∀ {l : List Nat}, x ∈ l → x ≤ l.sum
  | a :: l, h => by
    rw [List.sum_cons]
    rcases List.mem_cons.mp h with e | h
    · rw [e]; omega
    · have := le_sum h; omega
theorem split_tx {n : Nat} {z b : Str} (hb : Mk b) (h : TX n z) : ∀ p ∈ Txt.split z b, TX n p := fun p hp => by
  obtain ⟨h1, h2, h3⟩ := split_facts (z := z) hb
  have := le_sum (List.mem_map_of_mem (f := (·.length)) hp)
  have hn := h.1
  exact ⟨by omega, fun c hc => h.2 c (h1 p hp c hc)⟩
theorem gSplit_at {M : Store} {z b : Str} (hb : Mk b) (hl : z.length ≤ 100000) : gSplit M (.str z) [.str b] = some (.lst ((Txt.split z b).map Va.str)) := by
  unfold gSplit
  dsimp only
  rw [if_pos ⟨hb.ln, le_line (by omega)⟩]
/-! ### one deed -/
theorem w3 {M : Store} {s : SL} {i : Nat} {a b c : Str} (hv : evVar i s M = some (.val (.lst ([a, b, c].map Va.str)), M)) : ev2 opIx (evVar i) (evC (.int 0)) s M = some (.val (.str a), M) ∧ ev2 opIx (evVar i) (evC (.int 1)) s M = some (.val (.str b), M) ∧ ev2 opIx (evVar i) (evC (.int 2)) s M = some (.val (.str c), M) := by
  refine ⟨?_, ?_, ?_⟩
  · rw [x_2, hv, bindO_val, x_c, bindO_val, y_ixL]; simp only [List.map_cons, at_0]
  · rw [x_2, hv, bindO_val, x_c, bindO_val, y_ixL]; simp only [List.map_cons, at_1]
  · rw [x_2, hv, bindO_val, x_c, bindO_val, y_ixL]; simp only [List.map_cons, at_2]
theorem deedW_not {ws : List Str} (h : ws.length ≠ 3) : deedW ws = none := by
  unfold deedW
  split
  · exact absurd rfl h
  · rfl
theorem law_deed_in {M : Store} {z : Str} (h : z.length ≤ 100000) : c__law_deed_in [.str z] M = some (.val (dO (deedS z)), M) := by
  obtain ⟨f1, f2, f3⟩ := split_facts (z := z) mk_sp
  let ws := Txt.split z " "
  let S : SL := [some (.str z), some (.lst (ws.map Va.str))]
  have b1 : sSet 1 (evM2 isStrA (kVal gSplit) (evVar 0) (evCons (evC (.str " ")) evNil)) [some (.str z), none] M = some (.nx, S, M) := by
    refine set_val (v := .lst (ws.map Va.str)) ?_
    rw [x_M2, show evVar 0 [some (.str z), none] M = some (.val (.str z), M) from rfl, bindO_val, if_pos (show isStrA M (Va.str z) = true from rfl), x_cons, x_c, bindO_val, x_nil, bindO_val, bindO_val]
    dsimp only
    rw [x_kVal, gSplit_at mk_sp h]
  have ln : evL (kPure gLen) (evCons (evVar 1) evNil) S M = some (.val (.int (ws.length : Nat)), M) := by
    have := (LstAt.lst (M := M) (ws.map Va.str)).len
    rw [List.length_map] at this
    rw [x_L, x_cons, show evVar 1 S M = some (.val (.lst (ws.map Va.str)), M) from rfl, bindO_val, x_nil, bindO_val, bindO_val]
    dsimp only
    rw [x_kPure, this]
  have c0 : ev2 opEq (evL (kPure gLen) (evCons (evVar 1) evNil)) (evC (.int 3)) S M = some (.val (.bl (decide ((ws.length : Int) = 3))), M) := by rw [x_2, ln, bindO_val, x_c, bindO_val, y_eqI]
  unfold c__law_deed_in runF m__law_deed_in deedS
  rw [show startI 2 [Va.str z] = [some (.str z), none] from rfl]
  by_cases h3 : ws.length = 3
  case neg =>
    rw [decide_eq_false (by omega)] at c0
    rw [show deedW (Txt.split z " ") = none from deedW_not h3]
    have no : ∀ x, evAnd (ev2 opEq (evL (kPure gLen) (evCons (evVar 1) evNil)) (evC (.int 3))) x S M = some (.val (.bl false), M) := fun x => by rw [x_and, c0, bindO_val]
    exact end_ret (s1 := S) (seq_nx b1 (seq_nx (s1 := S) (M1 := M) (by rw [x_sIf, no]; rfl) (seq_nx (s1 := S) (M1 := M) (by rw [x_sIf, no]; rfl) rfl)))
  rw [decide_eq_true (by omega)] at c0
  obtain ⟨a, b, c, hw⟩ : ∃ a b c, ws = [a, b, c] := by
    match ws, h3 with
    | [a, b, c], _ => exact ⟨a, b, c, rfl⟩
  have hw' : Txt.split z " " = [a, b, c] := hw
  rw [hw'] at f2
  simp only [List.map_cons, List.map_nil, List.sum_cons, List.sum_nil, List.length_cons, List.length_nil] at f2
  have hv : evVar 1 S M = some (.val (.lst ([a, b, c].map Va.str)), M) := by
    show some (Out.val (Va.lst (ws.map Va.str)), M) = _
    rw [hw]
  obtain ⟨i0, i1, i2⟩ := w3 hv
  have eqa : ∀ n : Str, ev2 opEq (ev2 opIx (evVar 1) (evC (.int 0))) (evC (.str n)) S M = some (.val (.bl (decide (a = n))), M) := fun n => by rw [x_2, i0, bindO_val, x_c, bindO_val, y_eqS]
  have nmb : evTru (evL (kFn 1 c__law_is_name) (evCons (ev2 opIx (evVar 1) (evC (.int 1))) evNil)) S M = some (.val (.bl (decide (Nm b))), M) := by rw [x_tru, call1 i1 (law_is_name (by omega))]; rfl
  have nmc : evTru (evL (kFn 1 c__law_is_name) (evCons (ev2 opIx (evVar 1) (evC (.int 2))) evNil)) S M = some (.val (.bl (decide (Nm c))), M) := by rw [x_tru, call1 i2 (law_is_name (by omega))]; rfl
  have nub : evTru (evL (kFn 1 c__law_is_number) (evCons (ev2 opIx (evVar 1) (evC (.int 1))) evNil)) S M = some (.val (.bl (decide (Nu b))), M) := by rw [x_tru, call1 i1 (law_is_number (by omega))]; rfl
  have nuc : evTru (evL (kFn 1 c__law_is_number) (evCons (ev2 opIx (evVar 1) (evC (.int 2))) evNil)) S M = some (.val (.bl (decide (Nu c))), M) := by rw [x_tru, call1 i2 (law_is_number (by omega))]; rfl
  have k1 := andB c0 (andB (eqa "new") (andB nmb nuc))
  have k2 := andB c0 (andB (eqa "step") (andB nub nmc))
  rw [hw']
  unfold deedW
  dsimp only
  have ntx : ∀ (i : Int) (w : Str), Nu w → ev2 opIx (evVar 1) (evC (.int i)) S M = some (.val (.str w), M) → evL (kPure gInt) (evCons (ev2 opIx (evVar 1) (evC (.int i))) evNil) S M = some (.val (.int (nuV w)), M) := fun i w hw hi => by
    rw [x_L, x_cons, hi, bindO_val, x_nil, bindO_val, bindO_val]
    dsimp only
    rw [x_kPure, int_text hw]
  by_cases ha : a = "new"
  · rw [if_pos ha]
    have hs : decide (a = "step") = false := by rw [ha]; decide
    rw [hs] at k2
    rw [decide_eq_true ha] at k1
    by_cases hh : Nm b ∧ Nu c
    · rw [if_pos hh]
      rw [decide_eq_true hh.1, decide_eq_true hh.2] at k1
      refine end_ret (s1 := S) (seq_nx b1 (seq_ret ?_))
      rw [x_sIf, k1]
      exact ret_val (tup3 (M1 := M) (M2 := M) (M3 := M) (x := .str "new") (y := .str b) (z := .int (nuV c)) rfl i1 (ntx 2 c hh.2 i2))
    · rw [if_neg hh]
      have : (true && (true && (decide (Nm b) && decide (Nu c)))) = false := by
        rw [Bool.true_and, Bool.true_and, ← Bool.decide_and, decide_eq_false hh]
      rw [this] at k1
      exact end_ret (s1 := S) (seq_nx b1 (seq_nx (s1 := S) (M1 := M) (by rw [x_sIf, k1]; rfl) (seq_nx (s1 := S) (M1 := M) (by rw [x_sIf, k2]; rfl) rfl)))
  · rw [if_neg ha]
    rw [decide_eq_false ha] at k1
    have n1 : ∀ x, sIf (evAnd (ev2 opEq (evL (kPure gLen) (evCons (evVar 1) evNil)) (evC (.int 3))) (evAnd (ev2 opEq (ev2 opIx (evVar 1) (evC (.int 0))) (evC (.str "new"))) (evAnd (evTru (evL (kFn 1 c__law_is_name) (evCons (ev2 opIx (evVar 1) (evC (.int 1))) evNil))) (evTru (evL (kFn 1 c__law_is_number) (evCons (ev2 opIx (evVar 1) (evC (.int 2))) evNil)))))) x sNx S M = some (.nx, S, M) := fun x => by rw [x_sIf, k1]; rfl
    by_cases hs : a = "step"
    · rw [if_pos hs]
      rw [decide_eq_true hs] at k2
      by_cases hh : Nu b ∧ Nm c
      · rw [if_pos hh]
        rw [decide_eq_true hh.1, decide_eq_true hh.2] at k2
        refine end_ret (s1 := S) (seq_nx b1 (seq_nx (n1 _) (seq_ret ?_)))
        rw [x_sIf, k2]
        exact ret_val (tup3 (M1 := M) (M2 := M) (M3 := M) (x := .str "step") (y := .int (nuV b)) (z := .str c) rfl (ntx 1 b hh.1 i1) i2)
      · rw [if_neg hh]
        have : (true && (true && (decide (Nu b) && decide (Nm c)))) = false := by
          rw [Bool.true_and, Bool.true_and, ← Bool.decide_and, decide_eq_false hh]
        rw [this] at k2
        exact end_ret (s1 := S) (seq_nx b1 (seq_nx (n1 _) (seq_nx (s1 := S) (M1 := M) (by rw [x_sIf, k2]; rfl) rfl)))
    · rw [if_neg hs]
      rw [decide_eq_false hs] at k2
      exact end_ret (s1 := S) (seq_nx b1 (seq_nx (n1 _) (seq_nx (s1 := S) (M1 := M) (by rw [x_sIf, k2]; rfl) rfl)))
end Lw

set_option Elab.async false
set_option linter.all false
set_option maxRecDepth 100000
set_option maxHeartbeats 4000000
set_option exponentiation.threshold 3000
namespace Lw
open PySem L2 PV
theorem notin_tags {M : Store} (a : Str) : opNotInD M (.str a) (.tup [.str "new", .str "step"]) = some (.bl (!decide (a = "new" ∨ a = "step"))) := by
  have e : opNotIn M (.str a) (.tup [.str "new", .str "step"]) = some (.bl (!inA (.str a) [.str "new", .str "step"])) := by
    show (if flatA (.str a) = true ∧ [Va.str "new", .str "step"].all flatA = true then some (Va.bl (!inA (.str a) [.str "new", .str "step"])) else none) = _
    rw [if_pos ⟨rfl, by simp [flatA]⟩]
  have e2 : inA (.str a) [.str "new", .str "step"] = decide (a = "new" ∨ a = "step") := by
    show ((("new" : Str) == a) || ((("step" : Str) == a) || false)) = _
    rw [Bool.or_false, Bool.eq_iff_iff, Bool.or_eq_true, beq_iff_eq, beq_iff_eq, decide_eq_true_eq]
    constructor
    · rintro (h | h)
      · exact .inl h.symm
      · exact .inr h.symm
    · rintro (h | h)
      · exact .inl h.symm
      · exact .inr h.symm
  unfold opNotInD
  rw [e, e2]
theorem read_deed {M : Store} {z : Str} (h : z.length ≤ 100000) : c_read_deed [.str z] M = some (.val (dO (deedS z)), M) := by
  obtain ⟨f1, f2, f3⟩ := split_facts (z := z) mk_sp
  let ws := Txt.split z " "
  let S := fun (s2 s3 : Option Va) => ([some (.str z), some (.lst (ws.map Va.str)), s2, s3] : SL)
  have b1 : sSet 1 (evM2 isStrA (kVal gSplit) (evVar 0) (evCons (evC (.str " ")) evNil)) [some (.str z), none, none, none] M = some (.nx, S none none, M) := by
    refine set_val (v := .lst (ws.map Va.str)) ?_
    rw [x_M2, show evVar 0 [some (.str z), none, none, none] M = some (.val (.str z), M) from rfl, bindO_val, if_pos (show isStrA M (Va.str z) = true from rfl), x_cons, x_c, bindO_val, x_nil, bindO_val, bindO_val]
    dsimp only
    rw [x_kVal, gSplit_at mk_sp h]
  have ln : evL (kPure gLen) (evCons (evVar 1) evNil) (S none none) M = some (.val (.int (ws.length : Nat)), M) := by
    have := (LstAt.lst (M := M) (ws.map Va.str)).len
    rw [List.length_map] at this
    rw [x_L, x_cons, show evVar 1 (S none none) M = some (.val (.lst (ws.map Va.str)), M) from rfl, bindO_val, x_nil, bindO_val, bindO_val]
    dsimp only
    rw [x_kPure, this]
  have c0 : ev2 opNe (evL (kPure gLen) (evCons (evVar 1) evNil)) (evC (.int 3)) (S none none) M = some (.val (.bl (!decide ((ws.length : Int) = 3))), M) := by rw [x_2, ln, bindO_val, x_c, bindO_val, y_neI]
  unfold c_read_deed runF m_read_deed deedS
  rw [show startI 4 [Va.str z] = [some (.str z), none, none, none] from rfl]
  by_cases h3 : ws.length = 3
  case neg =>
    rw [decide_eq_false (by omega)] at c0
    rw [show deedW (Txt.split z " ") = none from deedW_not h3]
    exact end_ret (s1 := S none none) (seq_nx b1 (seq_ret (by rw [x_sIf, c0]; rfl)))
  rw [decide_eq_true (by omega)] at c0
  obtain ⟨a, b, c, hw⟩ : ∃ a b c, ws = [a, b, c] := by
    match ws, h3 with
    | [a, b, c], _ => exact ⟨a, b, c, rfl⟩
  have hw' : Txt.split z " " = [a, b, c] := hw
  rw [hw'] at f2
  simp only [List.map_cons, List.map_nil, List.sum_cons, List.sum_nil, List.length_cons, List.length_nil] at f2
  have hv : ∀ s2 s3, evVar 1 (S s2 s3) M = some (.val (.lst ([a, b, c].map Va.str)), M) := fun s2 s3 => by
    show some (Out.val (Va.lst (ws.map Va.str)), M) = _
    rw [hw]
  have eqa : ∀ s2 s3, ev2 opEq (ev2 opIx (evVar 1) (evC (.int 0))) (evC (.str "new")) (S s2 s3) M = some (.val (.bl (decide (a = "new"))), M) := fun s2 s3 => by rw [x_2, (w3 (hv s2 s3)).1, bindO_val, x_c, bindO_val, y_eqS]
  let nu : Str := if a = "new" then c else b
  let nm : Str := if a = "new" then b else c
  have lnu : nu.length ≤ 100000 := by show (if a = "new" then c else b).length ≤ _; split <;> omega
  have lnm : nm.length ≤ 100000 := by show (if a = "new" then b else c).length ≤ _; split <;> omega
  have b2 : sSet 2 (evL (kFn 1 c_read_number) (evCons (evIf (ev2 opEq (ev2 opIx (evVar 1) (evC (.int 0))) (evC (.str "new"))) (ev2 opIx (evVar 1) (evC (.int 2))) (ev2 opIx (evVar 1) (evC (.int 1)))) evNil)) (S none none) M = some (.nx, S (some (numO nu)) none, M) := by
    refine set_val (call1 (x := .str nu) (M1 := M) ?_ (read_number lnu))
    rw [x_if, eqa, bindO_val]
    obtain ⟨i0, i1, i2⟩ := w3 (hv none none)
    by_cases ha : a = "new"
    · rw [decide_eq_true ha, show nu = c from if_pos ha]; exact i2
    · rw [decide_eq_false ha, show nu = b from if_neg ha]; exact i1
  let T := S (some (numO nu)) (some (.str nm))
  have b3 : sSet 3 (evIf (ev2 opEq (ev2 opIx (evVar 1) (evC (.int 0))) (evC (.str "new"))) (ev2 opIx (evVar 1) (evC (.int 1))) (ev2 opIx (evVar 1) (evC (.int 2)))) (S (some (numO nu)) none) M = some (.nx, T, M) := by
    refine set_val (v := .str nm) ?_
    rw [x_if, eqa, bindO_val]
    obtain ⟨i0, i1, i2⟩ := w3 (hv (some (numO nu)) none)
    by_cases ha : a = "new"
    · rw [decide_eq_true ha, show nm = b from if_pos ha]; exact i1
    · rw [decide_eq_false ha, show nm = c from if_neg ha]; exact i2
  have o1 : ev2 opNotInD (ev2 opIx (evVar 1) (evC (.int 0))) (evL kTup (evCons (evC (.str "new")) (evCons (evC (.str "step")) evNil))) T M = some (.val (.bl (!decide (a = "new" ∨ a = "step"))), M) := by
    rw [x_2, (w3 (hv _ _)).1, bindO_val, show evL kTup (evCons (evC (.str "new")) (evCons (evC (.str "step")) evNil)) T M = some (.val (.tup [.str "new", .str "step"]), M) from rfl, bindO_val, notin_tags]
  have o2 : ev2 opIsN (evVar 2) (evC .non) T M = some (.val (.bl (!decide (Nu nu))), M) := by
    rw [x_2, show evVar 2 T M = some (.val (numO nu), M) from rfl, bindO_val, x_c, bindO_val, y_isN]
    unfold numO
    by_cases hn : Nu nu
    · rw [if_pos hn, decide_eq_true hn]; rfl
    · rw [if_neg hn, decide_eq_false hn]; rfl
  have o3 : evNot (evTru (evL (kFn 1 c_is_name) (evCons (evVar 3) evNil))) T M = some (.val (.bl (!decide (Nm nm))), M) := by
    rw [x_not, x_tru, call1 (x := .str nm) (M1 := M) rfl (is_nameG lnm)]; rfl
  have cc := orB o1 (orB o2 o3)
  rw [hw']
  have n0 : ∀ x, sIf (ev2 opNe (evL (kPure gLen) (evCons (evVar 1) evNil)) (evC (.int 3))) x sNx (S none none) M = some (.nx, S none none, M) := fun x => by rw [x_sIf, c0]; rfl
  have fin : ∀ v, (if (a = "new" ∨ a = "step") ∧ Nu nu ∧ Nm nm then (if a = "new" then Va.tup [.str "new", .str nm, .int (nuV nu)] else .tup [.str "step", .int (nuV nu), .str nm]) else .non) = v → endF ((sSeq (sSet 1 (evM2 isStrA (kVal gSplit) (evVar 0) (evCons (evC (.str " ")) evNil)))
    (sSeq (sIf (ev2 opNe (evL (kPure gLen) (evCons (evVar 1) evNil)) (evC (.int 3))) (sRet (evC .non)) sNx)
    (sSeq (sSet 2 (evL (kFn 1 c_read_number) (evCons (evIf (ev2 opEq (ev2 opIx (evVar 1) (evC (.int 0))) (evC (.str "new"))) (ev2 opIx (evVar 1) (evC (.int 2))) (ev2 opIx (evVar 1) (evC (.int 1)))) evNil)))
    (sSeq (sSet 3 (evIf (ev2 opEq (ev2 opIx (evVar 1) (evC (.int 0))) (evC (.str "new"))) (ev2 opIx (evVar 1) (evC (.int 1))) (ev2 opIx (evVar 1) (evC (.int 2)))))
    (sSeq (sIf (evOr (ev2 opNotInD (ev2 opIx (evVar 1) (evC (.int 0))) (evL kTup (evCons (evC (.str "new")) (evCons (evC (.str "step")) evNil)))) (evOr (ev2 opIsN (evVar 2) (evC .non)) (evNot (evTru (evL (kFn 1 c_is_name) (evCons (evVar 3) evNil)))))) (sRet (evC .non)) sNx)
    (sRet (evIf (ev2 opEq (ev2 opIx (evVar 1) (evC (.int 0))) (evC (.str "new"))) (evL kTup (evCons (evC (.str "new")) (evCons (evVar 3) (evCons (evVar 2) evNil)))) (evL kTup (evCons (evC (.str "step")) (evCons (evVar 2) (evCons (evVar 3) evNil))))))))))) [some (.str z), none, none, none] M) = some (.val v, M) := fun v hv' => by
    refine end_ret (s1 := T) (seq_nx b1 (seq_nx (n0 _) (seq_nx b2 (seq_nx b3 ?_))))
    by_cases hh : (a = "new" ∨ a = "step") ∧ Nu nu ∧ Nm nm
    · rw [if_pos hh] at hv'
      rw [decide_eq_true hh.1, decide_eq_true hh.2.1, decide_eq_true hh.2.2] at cc
      refine seq_nx (s1 := T) (M1 := M) (by rw [x_sIf, cc]; rfl) (ret_val ?_)
      have hnu : numO nu = .int (nuV nu) := if_pos hh.2.1
      rw [x_if, eqa, bindO_val, ← hv']
      by_cases ha : a = "new"
      · rw [decide_eq_true ha, if_pos ha]
        dsimp only
        exact tup3 (M1 := M) (M2 := M) (M3 := M) rfl rfl (by show some (Out.val (numO nu), M) = _; rw [hnu])
      · rw [decide_eq_false ha, if_neg ha]
        dsimp only
        exact tup3 (M1 := M) (M2 := M) (M3 := M) rfl (by show some (Out.val (numO nu), M) = _; rw [hnu]) rfl
    · rw [if_neg hh] at hv'
      have : (!decide (a = "new" ∨ a = "step") || (!decide (Nu nu) || !decide (Nm nm))) = true := by
        by_cases p1 : a = "new" ∨ a = "step"
        · by_cases p2 : Nu nu
          · by_cases p3 : Nm nm
            · exact absurd ⟨p1, p2, p3⟩ hh
            · simp [p3]
          · simp [p2]
        · simp [p1]
      rw [this] at cc
      rw [← hv']
      exact seq_ret (by rw [x_sIf, cc]; rfl)
  refine fin _ ?_
  unfold deedW
  dsimp only
  by_cases ha : a = "new"
  · have e1 : nu = c := if_pos ha
    have e2 : nm = b := if_pos ha
    rw [e1, e2, if_pos ha, if_pos ha]
    by_cases hh : Nm b ∧ Nu c
    · rw [if_pos hh, if_pos ⟨.inl ha, hh.2, hh.1⟩]; rfl
    · rw [if_neg hh, if_neg (fun q => hh ⟨q.2.2, q.2.1⟩)]; rfl
  · have e1 : nu = b := if_neg ha
    have e2 : nm = c := if_neg ha
    rw [e1, e2, if_neg ha, if_neg ha]
    by_cases hs : a = "step"
    · rw [if_pos hs]
      by_cases hh : Nu b ∧ Nm c
      · rw [if_pos hh, if_pos ⟨.inr hs, hh⟩]; rfl
      · rw [if_neg hh, if_neg (fun q => hh q.2)]; rfl
    · rw [if_neg hs, if_neg (fun q => q.1.elim ha hs)]; rfl
theorem deedS_ok {z : Str} {d : Bool × Str × Int} (h : deedS z = some d) : Nm d.2.1 ∧ d.2.2.natAbs < 10 ^ 60 ∧ 7 ≤ z.length := by
  obtain ⟨f1, f2, f3⟩ := split_facts (z := z) mk_sp
  unfold deedS at h
  generalize hw : Txt.split z " " = ws at h f2
  unfold deedW at h
  split at h
  · rename_i a b c
    simp only [List.map_cons, List.map_nil, List.sum_cons, List.sum_nil, List.length_cons, List.length_nil] at f2
    split at h
    · rename_i ha
      split at h
      · rename_i hh
        cases h
        have l1 := hh.1.len
        have l2 := hh.2.val
        have la : a.length = 3 := by rw [ha]; decide
        exact ⟨hh.1, l2.2.1, by omega⟩
      · cases h
    · split at h
      · rename_i hs
        split at h
        · rename_i hh
          cases h
          have l1 := hh.2.len
          have l2 := hh.1.val
          have la : a.length = 4 := by rw [hs]; decide
          exact ⟨hh.2, l2.2.1, by omega⟩
        · cases h
      · cases h
  · cases h
end Lw

set_option Elab.async false
set_option linter.all false
set_option maxRecDepth 100000
set_option maxHeartbeats 4000000
set_option exponentiation.threshold 3000
namespace Lw
open PySem L2 PV
abbrev Dd := Bool × Str × Int
def dPd (d : Dd) : PyData := if d.1 = true then .tuple [.str "new", .str d.2.1, .int d.2.2] else .tuple [.str "step", .int d.2.2, .str d.2.1]
def oPd : Option Dd → PyData
  | none => .none
  | some d => dPd d
theorem dV_reads {M : Store} (d : Dd) : PdR M (dV d) (dPd d) := by
  unfold dV dPd
  split
  · exact .tup (.cons (.str _) (.cons (.str _) (.cons (.int _) .nil)))
  · exact .tup (.cons (.str _) (.cons (.int _) (.cons (.str _) .nil)))
theorem os_reads {M : Store} : ∀ os : List (Option Dd), PdRs M (os.map dO) (os.map oPd)
  | [] => .nil
  | none :: os => .cons .non (os_reads os)
  | some d :: os => .cons (dV_reads d) (os_reads os)
theorem ds_reads {M : Store} : ∀ ds : List Dd, PdRs M (ds.map dV) (ds.map dPd)
  | [] => .nil
  | d :: ds => .cons (dV_reads d) (ds_reads ds)
theorem oPd_lay {o : Option Dd} (h : ∀ d, o = some d → Nm d.2.1) : (oPd o).canLay0 = true ∧ (oPd o).depth ≤ 1 := by
  cases o with
  | none => exact ⟨by simp [oPd, PyData.canLay0], by simp [oPd, PyData.depth]⟩
  | some d =>
    have ok := (h d rfl).ok
    have k1 : PyData.strOk ("new" : Str) = true := (show Nm "new" from by decide).ok
    have k2 : PyData.strOk ("step" : Str) = true := (show Nm "step" from by decide).ok
    show (dPd d).canLay0 = true ∧ (dPd d).depth ≤ 1
    unfold dPd
    split
    · exact ⟨by simp [PyData.canLay0, PyData.canLayAll0, ok, k1], by simp [PyData.depth, PyData.depthAll]⟩
    · exact ⟨by simp [PyData.canLay0, PyData.canLayAll0, ok, k2], by simp [PyData.depth, PyData.depthAll]⟩
theorem os_lay : ∀ {os : List (Option Dd)}, (∀ d, some d ∈ os → Nm d.2.1) → PyData.canLayAll0 (os.map oPd) = true ∧ PyData.depthAll (os.map oPd) ≤ 1
  | [], _ => ⟨by simp [PyData.canLayAll0], by simp [PyData.depthAll]⟩
  | o :: os, h => by
    obtain ⟨h1, h2⟩ := oPd_lay (o := o) fun d e => h d (by simp [e])
    obtain ⟨h3, h4⟩ := os_lay (os := os) fun d hd => h d (by simp [hd])
    refine ⟨?_, ?_⟩
    · rw [List.map_cons]
      simp only [PyData.canLayAll0, h1, h3, Bool.and_self]
    · rw [List.map_cons]
      simp only [PyData.depthAll]
      omega
theorem none_in {M : Store} {os : List (Option Dd)} (ok : ∀ d, some d ∈ os → Nm d.2.1) : opInD M .non (.lst (os.map dO)) = some (.bl (os.any (·.isNone))) := by
  have e1 : opIn M .non (.lst (os.map dO)) = if flatA .non = true ∧ (os.map dO).all flatA = true then some (.bl (inA .non (os.map dO))) else none := rfl
  have e2 : inA .non (os.map dO) = os.any (·.isNone) := by
    unfold inA
    rw [List.any_map]
    congr 1
    funext o
    cases o with
    | none => rfl
    | some d =>
      show eqF (dV d) .non = false
      unfold dV
      split <;> rfl
  unfold opInD
  rw [e1]
  by_cases hf : flatA .non = true ∧ (os.map dO).all flatA = true
  · rw [if_pos hf, e2]
  · rw [if_neg hf]
    dsimp only
    obtain ⟨h1, h2⟩ := os_lay ok
    have e3 : inP M .non (.lst (os.map dO)) = some (os.any (·.isNone)) := by
      unfold inP
      rw [pdOf_eq .non, pdOf_eq (.lst rfl (os_reads os))]
      simp only [Option.bind_some, pdList]
      have s1 : SeqAt.shaped .none = true := by simp [SeqAt.shaped, PyData.canLay0, PyData.depth]
      have s2 : SeqAt.shaped (.list (os.map oPd)) = true := by
        unfold SeqAt.shaped
        simp only [PyData.canLay0, PyData.depth, h1]
        simp; omega
      rw [if_pos ⟨s1, s2⟩]
      congr 1
      rw [List.any_map]
      congr 1
      funext o
      cases o with
      | none => simp [oPd, PyData.eqv]
      | some d =>
        show PyData.eqv (dPd d) .none = false
        unfold dPd
        split <;> simp [PyData.eqv]
    rw [e3]; rfl
/-! ### a list of deeds -/
def runO (z : Str) : List (Option Dd) := (Txt.split z "; ").map deedS
def runR (z : Str) : Option (List Dd) := if z = "" then some [] else if (runO z).any (·.isNone) = true then none else some ((runO z).filterMap id)
def runV : Option (List Dd) → Va
  | none => .non
  | some ds => .lst (ds.map dV)
theorem runO_ok {z : Str} : ∀ d, some d ∈ runO z → Nm d.2.1 ∧ d.2.2.natAbs < 10 ^ 60 := fun d hd => by
  obtain ⟨p, _, e⟩ := List.mem_map.mp hd
  have := deedS_ok e
  exact ⟨this.1, this.2.1⟩
theorem no_none : ∀ {os : List (Option Dd)}, os.any (·.isNone) = false → os.map dO = (os.filterMap id).map dV
  | [], _ => rfl
  | none :: os, h => by simp at h
  | some d :: os, h => by
    have : os.any (·.isNone) = false := by simpa using h
    show dV d :: os.map dO = dV d :: (os.filterMap id).map dV
    rw [no_none this]
theorem split_itA {M : Store} {s : SL} {z : Str} (hv : evVar 0 s M = some (.val (.str z), M)) (h : z.length ≤ 100000) : itA (evM2 isStrA (kVal gSplit) (evVar 0) (evCons (evC (.str "; ")) evNil)) s M = some (.it ((Txt.split z "; ").map Va.str) (fun _ => True), M) := by
  rw [z_itA, x_M2, hv, bindO_val, if_pos (show isStrA M (Va.str z) = true from rfl), x_cons, x_c, bindO_val, x_nil, bindO_val, bindO_val]
  dsimp only
  rw [x_kVal, gSplit_at mk_semi h]
  dsimp only
  rw [z_anyL]
theorem piece_len {z p : Str} {b : Str} (hb : Mk b) (hp : p ∈ Txt.split z b) : p.length ≤ z.length := by
  obtain ⟨h1, h2, h3⟩ := split_facts (z := z) hb
  have := le_sum (List.mem_map_of_mem (f := (·.length)) hp)
  omega
theorem law_run_in {M : Store} {z : Str} (h : z.length ≤ 100000) : c__law_run_in [.str z] M = some (.val (runV (runR z)), M) := by
  let S0 : SL := [some (.str z), none, none]
  let S : SL := [some (.str z), some (.lst ((runO z).map dO)), none]
  have b1 : sSet 1 (evLc (itA (evM2 isStrA (kVal gSplit) (evVar 0) (evCons (evC (.str "; ")) evNil))) (tgName 2) evYes (evL (kFn 1 c__law_deed_in) (evCons (evVar 2) evNil)) [2]) S0 M = some (.nx, S, M) := by
    refine set_val (v := .lst ((runO z).map dO)) ?_
    have cm := compL_map (M := M) (chk := fun _ => True) (tg := tgName 2) (tt := evYes) (te := evL (kFn 1 c__law_deed_in) (evCons (evVar 2) evNil)) (sw := S0) Va.str (fun p => dO (deedS p)) trivial (Txt.split z "; ") (fun p hp => ⟨S0.set 2 (some (.str p)), rfl, rfl, call1 (x := .str p) (M1 := M) rfl (law_deed_in (Nat.le_trans (piece_len mk_semi hp) h))⟩)
    rw [z_lc, split_itA rfl h]
    dsimp only
    rw [show wipeI S0 [2] = S0 from rfl, cm]
    unfold runO
    rw [List.map_map]
    rfl
  have c : ev2 opEq (evVar 0) (evC (.str "")) S M = some (.val (.bl (decide (z = ""))), M) := rfl
  unfold c__law_run_in runF m__law_run_in runR
  rw [show startI 3 [Va.str z] = S0 from rfl]
  by_cases hz : z = ""
  · rw [if_pos hz]
    rw [decide_eq_true hz] at c
    exact end_ret (s1 := S) (seq_nx b1 (seq_ret (by rw [x_sIf, c]; rfl)))
  · rw [if_neg hz]
    rw [decide_eq_false hz] at c
    refine end_ret (s1 := S) (seq_nx b1 (seq_nx (s1 := S) (M1 := M) (by rw [x_sIf, c]; rfl) (ret_val ?_)))
    rw [x_if, x_2, x_c, bindO_val, show evVar 1 S M = some (.val (.lst ((runO z).map dO)), M) from rfl, bindO_val, none_in (fun d hd => (runO_ok d hd).1)]
    dsimp only
    rw [bindO_val]
    cases q : (runO z).any (·.isNone) with
    | true => rw [if_pos rfl]; rfl
    | false =>
      rw [if_neg (by decide)]
      show some (Out.val (Va.lst ((runO z).map dO)), M) = _
      rw [no_none q]
      rfl
theorem read_run {M : Store} {z : Str} (h : z.length ≤ 100000) : c_read_runX [.str z] M = (match runR z with
    | none => some (.exc 1 (.str z), M)
    | some ds => some (.val (.lst (ds.map dV)), M)) := by
  let S0 : SL := [some (.str z), none, none]
  let S : SL := [some (.str z), some (.lst ((runO z).map dO)), none]
  have b1 : stNo (sSet 1 (evLc (itA (evM2 isStrA (kVal gSplit) (evVar 0) (evCons (evC (.str "; ")) evNil))) (tgName 2) evYes (evL (kFn 1 c_read_deed) (evCons (evVar 2) evNil)) [2])) S0 M = some (.nx, S, M) := by
    refine x_stNo (set_val (v := .lst ((runO z).map dO)) ?_)
    have cm := compL_map (M := M) (chk := fun _ => True) (tg := tgName 2) (tt := evYes) (te := evL (kFn 1 c_read_deed) (evCons (evVar 2) evNil)) (sw := S0) Va.str (fun p => dO (deedS p)) trivial (Txt.split z "; ") (fun p hp => ⟨S0.set 2 (some (.str p)), rfl, rfl, call1 (x := .str p) (M1 := M) rfl (read_deed (Nat.le_trans (piece_len mk_semi hp) h))⟩)
    rw [z_lc, split_itA rfl h]
    dsimp only
    rw [show wipeI S0 [2] = S0 from rfl, cm]
    unfold runO
    rw [List.map_map]
    rfl
  have c : ev2 opEq (evVar 0) (evC (.str "")) S0 M = some (.val (.bl (decide (z = ""))), M) := rfl
  have ni : evNo (ev2 opInD (evC .non) (evVar 1)) S M = some (.val (.bl ((runO z).any (·.isNone))), M) := by
    refine x_no ?_
    rw [x_2, x_c, bindO_val, show evVar 1 S M = some (.val (.lst ((runO z).map dO)), M) from rfl, bindO_val, none_in (fun d hd => (runO_ok d hd).1)]
  unfold c_read_runX runF m_read_runX runR
  rw [show startI 3 [Va.str z] = S0 from rfl]
  by_cases hz : z = ""
  · rw [if_pos hz]
    rw [decide_eq_true hz] at c
    dsimp only
    refine end_ret (s1 := S0) (seq_ret ?_)
    have : sIf (ev2 opEq (evVar 0) (evC (.str ""))) (sRet (evL kLst evNil)) sNx S0 M = some (.ret (.lst []), S0, M) := by rw [x_sIf, c]; rfl
    unfold stNo
    rw [this]
    try rfl
  · rw [if_neg hz]
    rw [decide_eq_false hz] at c
    have n0 : stNo (sIf (ev2 opEq (evVar 0) (evC (.str ""))) (sRet (evL kLst evNil)) sNx) S0 M = some (.nx, S0, M) := x_stNo (by rw [x_sIf, c]; rfl)
    cases q : (runO z).any (·.isNone) with
    | true =>
      rw [if_pos rfl]
      rw [q] at ni
      exact end_exc (s1 := S) (seq_nx n0 (seq_nx b1 (seq_exc (by rw [x_sIf, ni]; rfl))))
    | false =>
      rw [if_neg (by decide)]
      rw [q] at ni
      dsimp only
      refine end_ret (s1 := S) (seq_nx n0 (seq_nx b1 (seq_nx (s1 := S) (M1 := M) (by rw [x_sIf, ni]; rfl) ?_)))
      have : sRet (evVar 1) S M = some (.ret (.lst (((runO z).filterMap id).map dV)), S, M) := ret_val (by
        show some (Out.val (Va.lst ((runO z).map dO)), M) = _
        rw [no_none q])
      unfold stNo
      rw [this]
      try rfl
/-! ### asked -/
def dueV (z : Str) : Va := match runR z with
  | none => .tup [.str "Unreadable", .str z]
  | some ds => .tup [.str "deeds", .lst (ds.map dV)]
theorem law_said {M : Store} {z : Str} (h : z.length ≤ 100000) : c__law_said [.str z] M = some (.val (dueV z), M) := by
  have r := read_run (M := M) h
  let S : SL := [some (.str z), some .non, none]
  unfold c__law_said runF m__law_said dueV
  rw [show startI 3 [Va.str z] = [some (.str z), none, none] from rfl]
  cases q : runR z with
  | some ds =>
    rw [q] at r
    dsimp only at r
    refine end_ret (s1 := [some (.str z), some (.tup [.str "deeds", .lst (ds.map dV)]), none]) (seq_nx (s1 := S) (M1 := M) rfl (seq_nx (s1 := [some (.str z), some (.tup [.str "deeds", .lst (ds.map dV)]), none]) (M1 := M) ?_ rfl))
    have : sSet 1 (evL kTup (evCons (evC (.str "deeds")) (evCons (evL (kFn 1 c_read_runX) (evCons (evVar 0) evNil)) evNil))) S M = some (.nx, [some (.str z), some (.tup [.str "deeds", .lst (ds.map dV)]), none], M) := set_val (tup2v (call1 (x := .str z) (M1 := M) rfl r))
    unfold sTry
    rw [this]
  | none =>
    rw [q] at r
    dsimp only at r
    have c := call1 (f := c_read_runX) (a := evVar 0) (s := S) (M := M) (M1 := M) (x := .str z) rfl r
    have e : evL kTup (evCons (evC (.str "deeds")) (evCons (evL (kFn 1 c_read_runX) (evCons (evVar 0) evNil)) evNil)) S M = some (.exc 1 (.str z), M) := by
      rw [x_L, x_cons, x_c, bindO_val, x_cons, c]
      rfl
    have : sSet 1 (evL kTup (evCons (evC (.str "deeds")) (evCons (evL (kFn 1 c_read_runX) (evCons (evVar 0) evNil)) evNil))) S M = some (.exc 1 (.str z), S, M) := set_exc e
    refine end_ret (s1 := [none, some (.tup [.str "Unreadable", .str z]), none]) (seq_nx (s1 := S) (M1 := M) rfl (seq_nx (s1 := [none, some (.tup [.str "Unreadable", .str z]), none]) (M1 := M) ?_ rfl))
    unfold sTry
    rw [this]
    first | rfl | skip
end Lw

set_option Elab.async false
set_option linter.all false
set_option maxRecDepth 100000
set_option maxHeartbeats 4000000
set_option exponentiation.threshold 3000
namespace Lw
open PySem L2 PV
theorem dd_smB {d : Dd} (h1 : Nm d.2.1) (h2 : d.2.2.natAbs < 10 ^ 60) : SmB 61 215 1 (dPd d) := by
  have hz : SmB 61 8 0 (.str d.2.1) := SmB.str (fun c hc => by have := h1.2.2 c hc; omega) h1.len.2
  have hn : SmB 61 200 0 (.int d.2.2) := SmB.int (k := 60) (by decide) (by decide) (by decide) h2 (Nat.lt_trans h2 (by decide))
  have t1 : SmB 61 4 0 (.str "new") := SmB.str (by decide) (by decide)
  have t2 : SmB 61 4 0 (.str "step") := SmB.str (by decide) (by decide)
  unfold dPd
  split
  · exact SmB.tup3 t1 hz hn (by decide)
  · exact SmB.tup3 t2 hn hz (by decide)
theorem sum_ge {m : Nat} : ∀ {l : List Nat}, (∀ x ∈ l, m ≤ x) → m * l.length ≤ l.sum
  | [], _ => Nat.zero_le _
  | x :: l, h => by
    have := sum_ge (l := l) fun y hy => h y (by simp [hy])
    have hx := h x (by simp)
    rw [List.sum_cons, List.length_cons, Nat.mul_add]
    omega
theorem runR_len {z : Str} {n : Nat} (hz : z.length ≤ n) {ds : List Dd} (h : runR z = some ds) : 8 * ds.length ≤ n + 1 ∧ ∀ d ∈ ds, Nm d.2.1 ∧ d.2.2.natAbs < 10 ^ 60 := by
  unfold runR at h
  split at h
  · cases h
    exact ⟨by simp, fun _ q => nomatch q⟩
  · split at h
    · cases h
    · rename_i hn
      cases h
      rw [Bool.not_eq_true] at hn
      obtain ⟨f1, f2, f3⟩ := split_facts (z := z) mk_semi
      have all : ∀ p ∈ Txt.split z "; ", 7 ≤ p.length := fun p hp => by
        cases q : deedS p with
        | none =>
          rw [List.any_eq_false] at hn
          have := hn (deedS p) (List.mem_map_of_mem hp)
          rw [q] at this
          simp at this
        | some d => exact (deedS_ok q).2.2
      have s := sum_ge (m := 7) (l := (Txt.split z "; ").map (·.length)) fun x hx => by
        obtain ⟨p, hp, rfl⟩ := List.mem_map.mp hx
        exact all p hp
      rw [List.length_map] at s
      have e := congrArg List.length (no_none hn)
      rw [List.length_map, List.length_map] at e
      have e2 : (runO z).length = (Txt.split z "; ").length := List.length_map _
      refine ⟨by omega, fun d hd => ?_⟩
      obtain ⟨o, ho, e3⟩ := List.mem_filterMap.mp hd
      rw [show o = some d from e3] at ho
      exact runO_ok d ho
theorem due_repr {z : Str} (h : TX 4000 z) : ∃ d : PyData, ∀ N, kRepr [dueV z] N = some (.val (.str d.shown), N) := by
  unfold dueV
  cases q : runR z with
  | none =>
    exact ⟨.tuple [.str "Unreadable", .str z], fun N => (SmB.tup2 (B := 61) (W1 := 10) (W2 := 4000) (W' := 4100) (dp := 0) (SmB.str (by decide) (by decide)) (SmB.str (fun c hc => by have := h.2 c hc; omega) h.1) (by decide)).repr (by decide) (by decide) (by decide) (.tup (.cons (.str _) (.cons (.str _) .nil)))⟩
  | some ds =>
    obtain ⟨h1, h2⟩ := runR_len h.1 q
    refine ⟨.tuple [.str "deeds", .list (ds.map dPd)], fun N => (SmB.tup2 (B := 61) (W1 := 10) (W2 := 129600) (W' := 129700) (dp := 2) ((SmB.str (by decide) (by decide)).mono (Nat.le_refl _) (by decide)) (SmB.list (W := 215) (n := 600) (dp := 1) (fun d hd => ?_) (by rw [List.length_map]; omega) (by decide)) (by decide)).repr (by decide) (by decide) (by decide) (.tup (.cons (.str _) (.cons (.lst rfl (ds_reads _)) .nil)))⟩
    obtain ⟨d', hd', rfl⟩ := List.mem_map.mp hd
    exact dd_smB (h2 d' hd').1 (h2 d' hd').2
theorem asked_right {M : Store} {z : Str} (h : TX 4000 z) : c__law_asked_right [.str z] M = some (.val (.bl true), M) := by
  have hl : z.length ≤ 100000 := Nat.le_trans h.1 (by decide)
  obtain ⟨d, hd⟩ := due_repr h
  let S1 : SL := [some (.str z), some (runV (runR z)), none]
  let S2 : SL := [some (.str z), some (runV (runR z)), some (dueV z)]
  have b1 : sSet 1 (evL (kFn 1 c__law_run_in) (evCons (evVar 0) evNil)) [some (.str z), none, none] M = some (.nx, S1, M) := set_val (call1 (x := .str z) (M1 := M) rfl (law_run_in hl))
  have b2 : sSet 2 (evIf (ev2 opIsN (evVar 1) (evC .non)) (evL kTup (evCons (evC (.str "Unreadable")) (evCons (evVar 0) evNil))) (evL kTup (evCons (evC (.str "deeds")) (evCons (evVar 1) evNil)))) S1 M = some (.nx, S2, M) := by
    refine set_val (v := dueV z) ?_
    have c : ev2 opIsN (evVar 1) (evC .non) S1 M = some (.val (.bl (isNonA (runV (runR z)))), M) := by
      rw [x_2, show evVar 1 S1 M = some (.val (runV (runR z)), M) from rfl, bindO_val, x_c, bindO_val, y_isN]
    rw [x_if, c, bindO_val]
    unfold dueV
    cases q : runR z with
    | none => exact tup2v (v := .str z) rfl
    | some ds =>
      refine tup2v (v := .lst (ds.map dV)) ?_
      show some (Out.val (runV (runR z)), M) = _
      rw [q]; rfl
  unfold c__law_asked_right runF m__law_asked_right
  rw [show startI 3 [Va.str z] = [some (.str z), none, none] from rfl]
  refine end_ret (s1 := S2) (seq_nx b1 (seq_nx b2 (ret_val ?_)))
  rw [x_2, repr_e (x := dueV z) (M1 := M) (call1 (x := .str z) (M1 := M) rfl (law_said hl)) (hd M), bindO_val, repr_e (x := dueV z) (M1 := M) rfl (hd M), bindO_val, eq_same]
end Lw

set_option Elab.async false
set_option linter.all false
set_option maxRecDepth 100000
set_option maxHeartbeats 4000000
set_option exponentiation.threshold 3000
namespace Lw
open PySem L2 PV
theorem p14 {s : SL} {M : Store} : ev2 opPow (evC (.int 10)) (evC (.int 14)) s M = some (.val (.int (10 ^ 14)), M) := by
  rw [x_2, x_c, bindO_val, x_c, bindO_val, y_pow (by decide) (by decide) (by decide) (by decide)]
  rfl
theorem int_loop {w : Nat} : ∀ (xs : List Va) (far : Int) (e : Nat) (o : Option Va) (M : Store) (b : Nat), 0 ≤ far → far < 10 ^ e → Wl M w b → b + xs.length < 2 ^ 40 →
    ∃ (far' : Int) (o' : Option Va) (M' : Store), loopF (fun _ => True) (tgName 2) (sSet 1 (ev2 opAdd (ev2 opMul (evVar 1) (ev2 opPow (evC (.int 10)) (evC (.int 14)))) (evL (kFn 2 c__law_draw) (evCons (evVar 0) (evCons (ev2 opPow (evC (.int 10)) (evC (.int 14))) evNil))))) xs [some (.cel w), some (.int far), o] M = some (.nx, [some (.cel w), some (.int far'), o'], M') ∧ 0 ≤ far' ∧ far' < 10 ^ (e + 14 * xs.length) ∧ Wl M' w (b + xs.length) ∧ Kp M M' w
  | [], far, e, o, M, b, h0, h1, wl, _ => ⟨far, o, M, loop_nil trivial, h0, by simpa using h1, by simpa using wl, Kp.refl⟩
  | x :: xs, far, e, o, M, b, h0, h1, wl, hb => by
    rw [List.length_cons] at hb
    let S : SL := [some (.cel w), some (.int far), some x]
    obtain ⟨r, M1, e1, r0, r1, w1, k1⟩ := drawE wl (by omega) (10 ^ 14) (by decide) (by decide) (s := S) (i := 0) (fun _ => rfl) p14
    have hn : far * 10 ^ 14 + r < 10 ^ (e + 14) := by
      rw [Int.pow_add]
      have : far + 1 ≤ 10 ^ e := h1
      have h2 := Int.mul_le_mul_of_nonneg_right this (show (0 : Int) ≤ 10 ^ 14 by decide)
      rw [Int.add_mul] at h2
      omega
    have b1 : sSet 1 (ev2 opAdd (ev2 opMul (evVar 1) (ev2 opPow (evC (.int 10)) (evC (.int 14)))) (evL (kFn 2 c__law_draw) (evCons (evVar 0) (evCons (ev2 opPow (evC (.int 10)) (evC (.int 14))) evNil)))) S M = some (.nx, [some (.cel w), some (.int (far * 10 ^ 14 + r)), some x], M1) := by
      refine set_val (v := .int (far * 10 ^ 14 + r)) ?_
      rw [x_2, x_2, show evVar 1 S M = some (.val (.int far), M) from rfl, bindO_val, p14, bindO_val, y_mulR (by decide) (by decide)]
      dsimp only
      rw [bindO_val, e1, bindO_val, y_add]
    obtain ⟨far', o', M', e2, g0, g1, w2, k2⟩ := int_loop xs (far * 10 ^ 14 + r) (e + 14) (some x) M1 (b + 1) (by have := Int.mul_nonneg h0 (show (0 : Int) ≤ 10 ^ 14 by decide); omega) hn w1 (by omega)
    refine ⟨far', o', M', loop_nx (s1 := S) (s2 := [some (.cel w), some (.int (far * 10 ^ 14 + r)), some x]) (M2 := M1) trivial rfl b1 e2, g0, ?_, w2.mono (by rw [List.length_cons]; omega), k1.trans k2⟩
    rw [List.length_cons, show e + 14 * (xs.length + 1) = e + 14 + 14 * xs.length by omega]
    exact g1
theorem integer {M : Store} {w b : Nat} (wl : Wl M w b) (hb : b < 2 ^ 38) : ∃ (n : Int) (M' : Store), c__law_integer [.cel w] M = some (.val (.int n), M') ∧ n.natAbs < 10 ^ 57 ∧ Wl M' w (b + 10) ∧ Kp M M' w := by
  let S0 : SL := [some (.cel w), none, none]
  obtain ⟨f, M1, e1, a0, a1, w1, k1⟩ := drawE wl (by omega) 10 (by omega) (by omega) (s := S0) (i := 0) (e := evC (.int 10)) (fun _ => rfl) rfl
  let S : SL := [some (.cel w), some (.int f), none]
  obtain ⟨p, M2, e2, p0, p1, w2, k2⟩ := drawE w1 (by omega) 3 (by omega) (by omega) (s := S) (i := 0) (e := evC (.int 3)) (fun _ => rfl) rfl
  obtain ⟨q, M3, e3, q0, q1, w3, k3⟩ := drawE w2 (by omega) 3 (by omega) (by omega) (s := S) (i := 0) (e := evC (.int 3)) (fun _ => rfl) rfl
  have hpq : 0 ≤ p * q ∧ p * q ≤ 4 := by
    have : p = 0 ∨ p = 1 ∨ p = 2 := by omega
    rcases this with e | e | e <;> rw [e] <;> omega
  have it : itR1 (evCons (ev2 opMul (evL (kFn 2 c__law_draw) (evCons (evVar 0) (evCons (evC (.int 3)) evNil))) (evL (kFn 2 c__law_draw) (evCons (evVar 0) (evCons (evC (.int 3)) evNil)))) evNil) S M1 = some (.it ((List.range (p * q).toNat).map fun (i : Nat) => Va.int i) (fun _ => True), M3) := by
    rw [z_itR1, x_cons, x_2, e2, bindO_val, e3, bindO_val, y_mulR (by omega) (by omega)]
    dsimp only
    rw [bindO_val, x_nil, bindO_val]
    dsimp only
    rw [z_rng (by omega) (by omega)]
  have hlen : ((List.range (p * q).toNat).map fun (i : Nat) => Va.int i).length ≤ 4 := by rw [List.length_map, List.length_range]; omega
  obtain ⟨f', o', M4, e4, g0, g1, w4, k4⟩ := int_loop (w := w) ((List.range (p * q).toNat).map fun (i : Nat) => Va.int i) f 1 none M3 _ a0 (by omega) w3 (by omega)
  let T : SL := [some (.cel w), some (.int f'), o']
  have g2 : f'.natAbs < 10 ^ 57 := by
    have : (10 : Int) ^ (1 + 14 * ((List.range (p * q).toNat).map fun (i : Nat) => Va.int i).length) ≤ 10 ^ 57 := by
      have h := Nat.pow_le_pow_right (n := 10) (by decide) (show 1 + 14 * ((List.range (p * q).toNat).map fun (i : Nat) => Va.int i).length ≤ 57 by omega)
      have h2 : ((10 ^ (1 + 14 * ((List.range (p * q).toNat).map fun (i : Nat) => Va.int i).length) : Nat) : Int) ≤ ((10 ^ 57 : Nat) : Int) := Int.ofNat_le.mpr h
      rw [Int.natCast_pow, Int.natCast_pow] at h2
      exact h2
    have h57 : (10 : Int) ^ 57 = ((10 ^ 57 : Nat) : Int) := by rw [Int.natCast_pow]; rfl
    omega
  obtain ⟨r, M5, e5, r0, r1, w5, k5⟩ := drawE w4 (by omega) 2 (by omega) (by omega) (s := T) (i := 0) (e := evC (.int 2)) (fun _ => rfl) rfl
  let ns : List Int := [f', 0 - f']
  obtain ⟨y, ey, hy, _⟩ := at_nat (l := ns.map Va.int) r0 (by show r < 2; exact r1)
  obtain ⟨n, hn, rfl⟩ := List.mem_map.mp hy
  have hn' : n = f' ∨ n = 0 - f' := by simpa [ns] using hn
  refine ⟨n, M5, ?_, by omega, w5.mono (by omega), (((k1.trans k2).trans k3).trans k4).trans k5⟩
  unfold c__law_integer runF m__law_integer
  rw [show startI 3 [Va.cel w] = S0 from rfl]
  refine end_ret (s1 := T) (seq_nx (s1 := S) (M1 := M1) (set_val e1) (seq_nx (for_it it e4) (ret_val ?_)))
  rw [x_2, show evL kLst (evCons (evVar 1) (evCons (ev2 opSub (evC (.int 0)) (evVar 1)) evNil)) T M4 = some (.val (.lst (ns.map Va.int)), M4) from rfl, bindO_val, e5, bindO_val, y_ixL, ey]
theorem wild {M : Store} {w b : Nat} (wl : Wl M w b) (hb : b < 2 ^ 37) : ∃ (d : Dd) (M' : Store), c__law_wild [.cel w] M = some (.val (dV d), M') ∧ Nm d.2.1 ∧ d.2.2.natAbs < 10 ^ 57 ∧ Wl M' w (b + 40) ∧ Kp M M' w := by
  let S : SL := [some (.cel w)]
  obtain ⟨q, M1, e1, a0, a1, w1, k1⟩ := drawE wl (by omega) 2 (by omega) (by omega) (s := S) (i := 0) (e := evC (.int 2)) (fun _ => rfl) rfl
  have c : ev2 opEq (evL (kFn 2 c__law_draw) (evCons (evVar 0) (evCons (evC (.int 2)) evNil))) (evC (.int 0)) S M = some (.val (.bl (decide (q = 0))), M1) := by rw [x_2, e1, bindO_val, x_c, bindO_val, y_eqI]
  have wd : ∀ (N : Store) (c : Nat), Wl N w c → c < 2 ^ 39 → ∃ (z : Str) (N' : Store), evL (kFn 2 c__law_word) (evCons (evVar 0) (evCons (evL kLst evNil) evNil)) S N = some (.val (.str z), N') ∧ Nm z ∧ Wl N' w (c + 12) ∧ Kp N N' w := fun N c wN hc => by
    obtain ⟨z, N', e, z1, _, w', k'⟩ := word (x := .lst (([] : List Str).map Va.str)) (zs := []) wN (by omega) (LstAt.lst _) (by intro q; cases q) (fun n q => by cases q) (fun _ q => nomatch q) (Nat.zero_le _)
    exact ⟨z, N', call2 (x := .cel w) (y := .lst []) (M1 := N) (M2 := N) rfl rfl e, z1, w', k'⟩
  have ing : ∀ (N : Store) (c : Nat), Wl N w c → c < 2 ^ 38 → ∃ (n : Int) (N' : Store), evL (kFn 1 c__law_integer) (evCons (evVar 0) evNil) S N = some (.val (.int n), N') ∧ n.natAbs < 10 ^ 57 ∧ Wl N' w (c + 10) ∧ Kp N N' w := fun N c wN hc => by
    obtain ⟨n, N', e, n1, w', k'⟩ := integer wN hc
    exact ⟨n, N', call1 (x := .cel w) (M1 := N) rfl e, n1, w', k'⟩
  unfold c__law_wild runF m__law_wild
  rw [show startI 1 [Va.cel w] = S from rfl]
  by_cases hq : q = 0
  · obtain ⟨z, M2, e2, z1, w2, k2⟩ := wd M1 _ w1 (by omega)
    obtain ⟨n, M3, e3, n1, w3, k3⟩ := ing M2 _ w2 (by omega)
    refine ⟨(true, z, n), M3, ?_, z1, n1, w3.mono (by omega), (k1.trans k2).trans k3⟩
    refine end_ret (s1 := S) (seq_ret ?_)
    rw [x_sIf, c, decide_eq_true hq]
    exact ret_val (tup3 (M1 := M1) (M2 := M2) (M3 := M3) (x := .str "new") (y := .str z) (z := .int n) rfl e2 e3)
  · obtain ⟨n, M2, e2, n1, w2, k2⟩ := ing M1 _ w1 (by omega)
    obtain ⟨z, M3, e3, z1, w3, k3⟩ := wd M2 _ w2 (by omega)
    refine ⟨(false, z, n), M3, ?_, z1, n1, w3.mono (by omega), (k1.trans k2).trans k3⟩
    refine end_ret (s1 := S) (seq_nx (s1 := S) (M1 := M1) (by rw [x_sIf, c, decide_eq_false hq]; rfl) (ret_val ?_))
    exact tup3 (M1 := M1) (M2 := M2) (M3 := M3) (x := .str "step") (y := .int n) (z := .str z) rfl e2 e3
/-! ### the text of deeds -/
def nS (n : Int) : Str := toString n
theorem nS_tx {n : Int} (h : n.natAbs < 10 ^ 57) : TX 58 (nS n) := by
  refine ⟨?_, fun c hc => ?_⟩
  · have := nm_len (n := n) (k := 57) (by decide) h
    rw [← tl_len] at this
    exact this
  · by_cases h2 : c < 128
    · exact h2
    · exact absurd hc (PyProof.Rows.int_text_free' c ⟨by omega, by omega⟩ n)
def dA (d : Dd) : Str := if d.1 = true then d.2.1 else nS d.2.2
def dB (d : Dd) : Str := if d.1 = true then nS d.2.2 else d.2.1
def dT (d : Dd) : Str := if d.1 = true then "new" else "step"
structure DOk (d : Dd) : Prop where
  nm : Nm d.2.1
  nb : d.2.2.natAbs < 10 ^ 57
theorem Nm.tx {z : Str} (h : Nm z) : TX 8 z := ⟨h.len.2, fun c hc => by have := h.2.2 c hc; omega⟩
theorem DOk.tx {d : Dd} (h : DOk d) : TX 58 (dA d) ∧ TX 58 (dB d) ∧ TX 4 (dT d) := by
  unfold dA dB dT
  split
  · exact ⟨h.nm.tx.up (by decide), nS_tx h.nb, by unfold TX; decide⟩
  · exact ⟨nS_tx h.nb, h.nm.tx.up (by decide), by unfold TX; decide⟩
def addD (t : Str) (d : Dd) : Str := t ++ "; " ++ dT d ++ " " ++ dA d ++ " " ++ dB d
theorem cat_tx {n m : Nat} {a b : Str} (ha : TX n a) (hb : TX m b) : TX (n + m) (a ++ b) := by
  refine ⟨by rw [len_app]; have := ha.1; have := hb.1; omega, fun c hc => ?_⟩
  have : tl (a ++ b) = tl a ++ tl b := TL.tl_append a b
  rw [this] at hc
  rcases List.mem_append.mp hc with q | q
  · exact ha.2 c q
  · exact hb.2 c q
theorem sp_tx : TX 1 " " := by unfold TX; decide
theorem semi_tx : TX 2 "; " := by unfold TX; decide
theorem add_tx {n : Nat} {t : Str} {d : Dd} (ht : TX n t) (h : DOk d) : TX (n + 124) (addD t d) := by
  obtain ⟨h1, h2, h3⟩ := h.tx
  unfold addD
  exact (cat_tx (cat_tx (cat_tx (cat_tx (cat_tx (cat_tx ht semi_tx) h3) sp_tx) h1) sp_tx) h2).up (by omega)
theorem run_loop {M : Store} {D : Va} : ∀ (ds : List Dd) (t : Str) (n : Nat) (s2 s3 s4 : Option Va), (∀ d ∈ ds, DOk d) → TX n t → n + 124 * ds.length ≤ 100000 →
    ∃ s2' s3' s4', loopF (fun _ => True) (tgTup [(tgName 2), (tgName 3), (tgName 4)]) (sSet 1 (ev2 opAdd (ev2 opAdd (ev2 opAdd (ev2 opAdd (ev2 opAdd (ev2 opAdd (evVar 1) (evC (.str "; "))) (evVar 2)) (evC (.str " "))) (evL (kPure gStr) (evCons (evVar 3) evNil))) (evC (.str " "))) (evL (kPure gStr) (evCons (evVar 4) evNil)))) (ds.map dV) [some D, some (.str t), s2, s3, s4] M = some (.nx, [some D, some (.str (ds.foldl addD t)), s2', s3', s4'], M)
  | [], t, n, s2, s3, s4, _, _, _ => ⟨s2, s3, s4, loop_nil trivial⟩
  | d :: ds, t, n, s2, s3, s4, hd, ht, hn => by
    rw [List.length_cons] at hn
    have ok := hd d (by simp)
    obtain ⟨h1, h2, h3⟩ := ok.tx
    have lg : d.2.2.natAbs.log2 < 1920 := by
      by_cases z : d.2.2.natAbs = 0
      · rw [z]; decide
      · exact Nat.lt_of_lt_of_le ((Nat.log2_lt z).mpr (Nat.lt_trans ok.nb (show 10 ^ 57 < 2 ^ 200 by decide))) (by decide)
    obtain ⟨x, y, hs, ex, ey⟩ : ∃ x y, dV d = .tup [.str (dT d), x, y] ∧ gStr M [x] = some (.str (dA d)) ∧ gStr M [y] = some (.str (dB d)) := by
      unfold dV dT dA dB
      split
      · exact ⟨_, _, rfl, rfl, y_strI lg⟩
      · exact ⟨_, _, rfl, y_strI lg, rfl⟩
    let S : SL := [some D, some (.str t), some (.str (dT d)), some x, some y]
    have b1 : sSet 1 (ev2 opAdd (ev2 opAdd (ev2 opAdd (ev2 opAdd (ev2 opAdd (ev2 opAdd (evVar 1) (evC (.str "; "))) (evVar 2)) (evC (.str " "))) (evL (kPure gStr) (evCons (evVar 3) evNil))) (evC (.str " "))) (evL (kPure gStr) (evCons (evVar 4) evNil))) S M = some (.nx, [some D, some (.str (addD t d)), some (.str (dT d)), some x, some y], M) := by
      refine set_val (v := .str (addD t d)) ?_
      have c1 := cat_tx ht semi_tx
      have c2 := cat_tx c1 h3
      have c3 := cat_tx c2 sp_tx
      have c4 := cat_tx c3 h1
      have c5 := cat_tx c4 sp_tx
      have l0 := ht.1
      have l1 := c1.1
      have l2 := c2.1
      have l3 := c3.1
      have l4 := c4.1
      have l5 := c5.1
      have m1 := h1.1
      have m2 := h2.1
      have m3 := h3.1
      have m4 := sp_tx.1
      have m5 := semi_tx.1
      rw [x_2, x_2, x_2, x_2, x_2, x_2, show evVar 1 S M = some (.val (.str t), M) from rfl, bindO_val, x_c, bindO_val, y_addS (by omega)]
      dsimp only
      rw [bindO_val, show evVar 2 S M = some (.val (.str (dT d)), M) from rfl, bindO_val, y_addS (by omega)]
      dsimp only
      rw [bindO_val, x_c, bindO_val, y_addS (by omega)]
      dsimp only
      rw [bindO_val, x_L, x_cons, show evVar 3 S M = some (.val x, M) from rfl, bindO_val, x_nil, bindO_val, bindO_val]
      dsimp only
      rw [x_kPure, ex]
      dsimp only
      rw [bindO_val, y_addS (by omega)]
      dsimp only
      rw [bindO_val, x_c, bindO_val, y_addS (by omega)]
      dsimp only
      rw [bindO_val, x_L, x_cons, show evVar 4 S M = some (.val y, M) from rfl, bindO_val, x_nil, bindO_val, bindO_val]
      dsimp only
      rw [x_kPure, ey]
      dsimp only
      rw [bindO_val, y_addS (by omega)]
      rfl
    obtain ⟨a, b, c, e⟩ := run_loop (M := M) (D := D) ds (addD t d) (n + 124) (some (.str (dT d))) (some x) (some y) (fun q hq => hd q (by simp [hq])) (add_tx ht ok) (by omega)
    exact ⟨a, b, c, loop_nx (s1 := S) (s2 := [some D, some (.str (addD t d)), some (.str (dT d)), some x, some y]) (M2 := M) trivial (by rw [hs]; rfl) b1 e⟩
theorem fold_tx : ∀ (ds : List Dd) (t : Str) (n : Nat), (∀ d ∈ ds, DOk d) → TX n t → TX (n + 124 * ds.length) (ds.foldl addD t)
  | [], t, n, _, h => by simpa using h
  | d :: ds, t, n, hd, h => by
    rw [List.length_cons, List.foldl_cons, show n + 124 * (ds.length + 1) = n + 124 + 124 * ds.length by omega]
    exact fold_tx ds _ _ (fun q hq => hd q (by simp [hq])) (add_tx h (hd d (by simp)))
def rtx (ds : List Dd) : Str := cutS (ds.foldl addD "") (some 2) none
theorem drop_tx {n k : Nat} {z : Str} (h : TX n z) : TX n (cutS z (some (k : Int)) none) := by
  have e := cut_from (z := z) k
  refine ⟨?_, fun c hc => h.2 c ?_⟩
  · rw [tl_len, e, List.length_drop]
    have := h.1
    rw [tl_len] at this
    omega
  · rw [e] at hc
    exact List.mem_of_mem_drop hc
theorem take_tx {n k : Nat} {z : Str} (h : TX n z) : TX n (cutS z none (some (k : Int))) := by
  have e := cutS_to (z := z) k
  refine ⟨?_, fun c hc => h.2 c ?_⟩
  · rw [tl_len, e, List.length_take]
    have := h.1
    rw [tl_len] at this
    omega
  · rw [e] at hc
    exact List.mem_of_mem_take hc
theorem rtx_tx {ds : List Dd} (h : ∀ d ∈ ds, DOk d) (hl : ds.length ≤ 8) : TX 1000 (rtx ds) := by
  have := fold_tx ds "" 0 h (by unfold TX; decide)
  exact (drop_tx (k := 2) this).up (by omega)
theorem run_text {M : Store} {ds : List Dd} (h : ∀ d ∈ ds, DOk d) (hl : ds.length ≤ 8) : c__law_run_text [.lst (ds.map dV)] M = some (.val (.str (rtx ds)), M) := by
  have ft := fold_tx ds "" 0 h (by unfold TX; decide)
  have fl := ft.1
  obtain ⟨a, b, c, e⟩ := run_loop (M := M) (D := .lst (ds.map dV)) ds "" 0 none none none h (by unfold TX; decide) (by omega)
  unfold c__law_run_text runF m__law_run_text
  rw [show startI 5 [Va.lst (ds.map dV)] = [some (.lst (ds.map dV)), none, none, none, none] from rfl]
  let T : SL := [some (.lst (ds.map dV)), some (.str (ds.foldl addD "")), a, b, c]
  refine end_ret (s1 := T) (seq_nx (s1 := [some (.lst (ds.map dV)), some (.str ""), none, none, none]) (M1 := M) rfl (seq_nx (for_it (chk := fun _ => True) (M1 := M) (l := ds.map dV) (by rw [z_itA, show evVar 0 [some (Va.lst (ds.map dV)), some (.str ""), none, none, none] M = some (.val (.lst (ds.map dV)), M) from rfl, z_anyL]) e) (ret_val ?_)))
  have s2 : opSl M (.str (ds.foldl addD "")) (some 2) none = some (.str (cutS (ds.foldl addD "") (some 2) none)) := if_pos (le_line (by omega))
  have : evSl (evVar 1) (evB (evC (.int 2))) (evC .non) T M = some (.val (.str (cutS (ds.foldl addD "") (some 2) none)), M) := by
    simp [T, boundOf, s2]
  exact this
end Lw

set_option Elab.async false
set_option linter.all false
set_option maxRecDepth 100000
set_option maxHeartbeats 4000000
set_option exponentiation.threshold 3000
namespace Lw
open PySem L2 PV
theorem pickC {M : Store} {w b c : Nat} {e0 e : SE} {s : SL} {l : List Va} (h : Wl M w b) (hb : b < 2 ^ 40) (h0 : ∀ N, e0 s N = some (.val (.cel w), N)) (he : ∀ N, e s N = some (.val (.cel c), N)) (hc : M.c c = some (.lst l)) (hcw : c ≠ w) (hlt : c < M.nx) (hl : l ≠ []) (hlen : l.length < 2 ^ 60) : ∃ (i : Nat) (y : Va) (M' : Store), ev2 opIx e (evL (kFn 2 c__law_draw) (evCons e0 (evCons (evL (kPure gLen) (evCons e evNil)) evNil))) s M = some (.val y, M') ∧ l[i]? = some y ∧ Wl M' w (b + 1) ∧ Kp M M' w := by
  have hpos : 0 < l.length := List.length_pos_iff.mpr hl
  obtain ⟨r, M1, e1, a1, a2, w1, k1⟩ := draw h (l.length : Int) (by omega) (by omega) (by omega)
  obtain ⟨y, p1, _, p2⟩ := at_nat (l := l) a1 a2
  refine ⟨r.toNat, y, M1, ?_, p2, w1, k1⟩
  have hc1 : M1.c c = some (.lst l) := (k1.kp c hlt hcw).trans hc
  rw [x_2, he, bindO_val, call2 (h0 M) (len_at (he M) (.cel hc)) e1, bindO_val, (LstAt.cel hc1).ix, p1]
theorem insC {M : Store} {w b b' c : Nat} {e0 e ex : SE} {s : SL} {l : List Va} (Q : Va → Store → Prop) (h : Wl M w b) (hb : b < 2 ^ 40) (h0 : ∀ N, e0 s N = some (.val (.cel w), N)) (he : ∀ N, e s N = some (.val (.cel c), N)) (hc : M.c c = some (.lst l)) (hcw : c ≠ w) (hlt : c < M.nx) (hlen : l.length < 100000)
    (hx : ∀ N, Wl N w (b + 1) → Kp M N w → ∃ y N', ex s N = some (.val y, N') ∧ Wl N' w b' ∧ Kp N N' w ∧ Q y N') :
    ∃ (i : Nat) (y : Va) (M' : Store), sDrop (evM2 isLstA (kMut cInsert) e (evCons (evL (kFn 2 c__law_draw) (evCons e0 (evCons (ev2 opAdd (evL (kPure gLen) (evCons e evNil)) (evC (.int 1))) evNil))) (evCons ex evNil))) s M = some (.nx, s, M'.put c (.lst (l.take i ++ [y] ++ l.drop i))) ∧ Wl M' w b' ∧ Kp M M' w ∧ Q y M' := by
  have hlen1 : ev2 opAdd (evL (kPure gLen) (evCons e evNil)) (evC (.int 1)) s M = some (.val (.int ((l.length : Nat) + 1)), M) := by
    rw [x_2, len_at (he M) (.cel hc), bindO_val, x_c, bindO_val, y_add]
  obtain ⟨r, M1, e1, a1, a2, w1, k1⟩ := draw h ((l.length : Nat) + 1 : Int) (by omega) (by omega) (by omega)
  obtain ⟨y, M2, e2, w2, k2, q⟩ := hx M1 w1 k1
  refine ⟨r.toNat, y, M2, drop_val (v := .non) ?_, w2, k1.trans k2, q⟩
  have hL : isLstA M (.cel c) = true := by unfold isLstA; rw [y_lstC, hc]; rfl
  have hc2 : M2.c c = some (.lst l) := ((k1.trans k2).kp c hlt hcw).trans hc
  rw [x_M2, he, bindO_val, if_pos hL, x_cons, call2 (h0 M) hlen1 e1, bindO_val, x_cons, e2, bindO_val, x_nil, bindO_val, bindO_val, bindO_val]
  dsimp only
  rw [x_kMut, hc2]
  dsimp only
  unfold cInsert
  dsimp only
  rw [if_pos ⟨by show l.length < 16777216; omega, a1, by omega⟩]
def insL {α : Type} (l : List α) (i : Nat) (x : α) : List α := l.take i ++ [x] ++ l.drop i
theorem insL_map {α β : Type} (f : α → β) (l : List α) (i : Nat) (x : α) : (insL l i x).map f = insL (l.map f) i (f x) := by
  unfold insL
  rw [List.map_append, List.map_append, List.map_take, List.map_drop]; rfl
theorem insL_len {α : Type} (l : List α) (i : Nat) (x : α) : (insL l i x).length = l.length + 1 := by
  unfold insL
  rw [List.length_append, List.length_append, List.length_take, List.length_drop, List.length_cons, List.length_nil]
  omega
theorem insL_mem {α : Type} {l : List α} {i : Nat} {x y : α} : y ∈ insL l i x ↔ y = x ∨ y ∈ l := by
  unfold insL
  rw [List.mem_append, List.mem_append, List.mem_singleton]
  constructor
  · rintro ((h | h) | h)
    · exact .inr (List.mem_of_mem_take h)
    · exact .inl h
    · exact .inr (List.mem_of_mem_drop h)
  · rintro (h | h)
    · exact .inl (.inr h)
    · rw [← List.take_append_drop i l] at h
      rcases List.mem_append.mp h with h | h
      · exact .inl (.inl h)
      · exact .inr h
theorem insP {M M' : Store} {c : Nat} {e ei ex : SE} {s : SL} {l : List Va} {j : Nat} {y : Va} (he : e s M = some (.val (.cel c), M)) (hi : ei s M = some (.val (.int (j : Nat)), M)) (hx : ex s M = some (.val y, M')) (hc : M.c c = some (.lst l)) (hc2 : M'.c c = some (.lst l)) (hl : l.length < 1000) (hj : j < 1000) : sDrop (evM2 isLstA (kMut cInsert) e (evCons ei (evCons ex evNil))) s M = some (.nx, s, M'.put c (.lst (insL l j y))) := by
  refine drop_val (v := .non) ?_
  have hL : isLstA M (.cel c) = true := by unfold isLstA; rw [y_lstC, hc]; rfl
  rw [x_M2, he, bindO_val, if_pos hL, x_cons, hi, bindO_val, x_cons, hx, bindO_val, x_nil, bindO_val, bindO_val, bindO_val]
  dsimp only
  rw [x_kMut, hc2]
  dsimp only
  unfold cInsert
  dsimp only
  rw [if_pos ⟨by show l.length < 16777216; omega, by omega, by omega⟩]
  dsimp only
  unfold insL
  rw [Int.toNat_natCast]
/-! ### texts that are spoiled -/
def mu (l : List Str) : Nat := (l.map (·.length)).sum + l.length
theorem mu_app (a b : List Str) : mu (a ++ b) = mu a + mu b := by
  unfold mu
  rw [List.map_append, List.sum_append, List.length_append]
  omega
theorem er_mu : ∀ {l : List Str} {k : Nat} {y : Str}, l[k]? = some y → mu (l.eraseIdx k) + (y.length + 1) = mu l
  | [], k, y, h => by simp at h
  | a :: l, 0, y, h => by
    have : a = y := by simpa using h
    subst this
    show mu l + _ = mu (a :: l)
    unfold mu
    rw [List.map_cons, List.sum_cons, List.length_cons]
    omega
  | a :: l, k + 1, y, h => by
    have ih := er_mu (l := l) (k := k) (y := y) (by simpa using h)
    show mu (a :: l.eraseIdx k) + _ = mu (a :: l)
    unfold mu at ih ⊢
    rw [List.map_cons, List.map_cons, List.sum_cons, List.sum_cons, List.length_cons, List.length_cons]
    omega
theorem er_map {α β : Type} (f : α → β) : ∀ (l : List α) (k : Nat), (l.map f).eraseIdx k = (l.eraseIdx k).map f
  | [], _ => rfl
  | _ :: _, 0 => rfl
  | a :: l, k + 1 => congrArg (f a :: ·) (er_map f l k)
theorem ins_mu {l : List Str} {j : Nat} {y : Str} : mu (insL l j y) = mu l + (y.length + 1) := by
  have h1 : mu l = mu (l.take j) + mu (l.drop j) := by rw [← mu_app, List.take_append_drop]
  unfold insL
  rw [mu_app, mu_app, h1]
  have h2 : mu [y] = y.length + 1 := by unfold mu; simp
  omega
theorem joinL_facts {S : List Nat} (hS : S.length ≤ 2) : ∀ ps : List (List Nat), (TL.joinL S ps).length ≤ (ps.map List.length).sum + 2 * ps.length ∧ ∀ c ∈ TL.joinL S ps, c ∈ S ∨ ∃ p ∈ ps, c ∈ p
  | [] => ⟨by simp [TL.joinL], fun c h => by simp [TL.joinL] at h⟩
  | [p] => ⟨by simp [TL.joinL], fun c h => .inr ⟨p, by simp, by simpa [TL.joinL] using h⟩⟩
  | p :: q :: r => by
    obtain ⟨h1, h2⟩ := joinL_facts hS (q :: r)
    have e : TL.joinL S (p :: q :: r) = p ++ (S ++ TL.joinL S (q :: r)) := by simp [TL.joinL]
    rw [e]
    refine ⟨?_, fun c hc => ?_⟩
    · rw [List.length_append, List.length_append, List.map_cons, List.sum_cons, List.length_cons]
      omega
    · rcases List.mem_append.mp hc with z | z
      · exact .inr ⟨p, by simp, z⟩
      · rcases List.mem_append.mp z with z | z
        · exact .inl z
        · rcases h2 c z with z | ⟨x, hx, z⟩
          · exact .inl z
          · exact .inr ⟨x, by simp only [List.mem_cons] at hx ⊢; exact .inr hx, z⟩
theorem join_tx {b : Str} (hb : Mk b) {ps : List Str} {n : Nat} (hp : ∀ p ∈ ps, ∀ c ∈ tl p, c < 128) (hn : mu ps ≤ n) : TX (2 * n) (Txt.join b ps) := by
  have e : tl (Txt.join b ps) = TL.joinL (tl b) (ps.map tl) := by
    show TL.tl _ = _
    rw [TL.join_eq, TL.tl_join]
    try rfl
  obtain ⟨h1, h2⟩ := joinL_facts (S := tl b) (by rw [← tl_len]; exact hb.l2) (ps.map tl)
  refine ⟨?_, fun c hc => ?_⟩
  · rw [tl_len, e]
    rw [lens_tl, List.length_map] at h1
    unfold mu at hn
    omega
  · rw [e] at hc
    rcases h2 c hc with q | ⟨x, hx, q⟩
    · exact hb.as c q
    · obtain ⟨p, hp', rfl⟩ := List.mem_map.mp hx
      exact hp p hp' c q
theorem drop_txI {n : Nat} {k : Int} {z : Str} (h : TX n z) (hk : 0 ≤ k) : TX n (cutS z (some k) none) := by
  obtain ⟨m, rfl⟩ : ∃ m : Nat, k = m := ⟨k.toNat, by omega⟩
  exact drop_tx h
theorem mid_tx {n : Nat} {k : Nat} {z : Str} (h : TX n z) : TX 2 (cutS z (some (k : Int)) (some ((k : Int) + 2))) := by
  have e : tl (cutS z (some (k : Int)) (some ((k + 2 : Nat) : Int))) = ((tl z).drop (HT.sIx z.length 0 (some (k : Int)))).take (HT.sIx z.length z.length (some ((k + 2 : Nat) : Int)) - HT.sIx z.length 0 (some (k : Int))) := rfl
  rw [HT.sIx_nat, HT.sIx_nat] at e
  rw [show (k : Int) + 2 = ((k + 2 : Nat) : Int) by omega]
  refine ⟨?_, fun c hc => h.2 c ?_⟩
  · rw [tl_len, e, List.length_take]
    omega
  · rw [e] at hc
    exact List.mem_of_mem_drop (List.mem_of_mem_take hc)
theorem rev_tx {z : Str} (h : TX 2 z) : TX 2 (revS z) := ⟨revS_len h.1, fun c hc => h.2 c (revS_mem hc)⟩
def sgT : Str := " ;,[]()-+.0123456789columnskidhewpt~A_'"
theorem sign_at {M : Store} {r : Int} (h0 : 0 ≤ r) (h1 : r < sgT.length) : ∃ g : Str, opIx M (.str sgT) (.int r) = some (.str g) ∧ TX 1 g := by
  have hl : sgT.length = (tl sgT).length := tl_len _
  obtain ⟨c, e, hm, _⟩ := at_nat (l := tl sgT) h0 (by omega)
  have all : ∀ c ∈ tl sgT, c < 128 := by decide
  refine ⟨⟨#[c]⟩, ?_, by show 1 ≤ 1; omega, fun d hd => ?_⟩
  · show (if sgT.length ≤ sizeLine then (atI (tl sgT) r).map fun c => Va.str ⟨#[c]⟩ else none) = _
    rw [if_pos (by decide), e]; rfl
  · have hd : d ∈ [c] := hd
    rw [List.mem_singleton.mp hd]
    exact all c hm
theorem seqIx {n : Nat} {i : Int} (h0 : 0 ≤ i) (h1 : i < n) : seqIndex? i n = some i.toNat := by
  have : ixN n i = some i.toNat := by unfold ixN; rw [if_pos h0, if_pos h1]
  exact (ixN_seq this).1
theorem strsOf_mapT : ∀ l : List Str, strsOf (l.map Va.str) = some l
  | [] => rfl
  | a :: l => by simp [strsOf, strsOf_mapT l]
/-- one piece is put elsewhere, or left out -/
theorem turn4 {M : Store} {w b n at_ : Nat} {z sg : Str} {k way : Va} {s7 s8 s9 s10 : Option Va} (wl : Wl M w b) (hb : b < 2 ^ 38) (hz : TX n z) (hn : n ≤ 5000) : ∃ (z' : Str) (s8' s9' s10' : Option Va) (M' : Store),
    (sSeq (sSet 8 (ev2 opIx (evL kLst (evCons (evC (.str " ")) (evCons (evC (.str "; ")) (evCons (evC (.str ",")) evNil)))) (evL (kFn 2 c__law_draw) (evCons (evVar 0) (evCons (evC (.int 3)) evNil)))))
    (sSeq (sSet 9 (evM2 isStrA kSplitC (evVar 1) (evCons (evVar 8) evNil)))
    (sSeq (sSet 10 (evM2 isLstA (kMut cPopAt) (evVar 9) (evCons (evL (kFn 2 c__law_draw) (evCons (evVar 0) (evCons (evL (kPure gLen) (evCons (evVar 9) evNil)) evNil))) evNil)))
    (sSeq (sIf (ev2 opGt (evL (kFn 2 c__law_draw) (evCons (evVar 0) (evCons (evC (.int 3)) evNil))) (evC (.int 0))) (sDrop (evM2 isLstA (kMut cInsert) (evVar 9) (evCons (evL (kFn 2 c__law_draw) (evCons (evVar 0) (evCons (ev2 opAdd (evL (kPure gLen) (evCons (evVar 9) evNil)) (evC (.int 1))) evNil))) (evCons (evVar 10) evNil)))) sNx)
    (sSet 1 (evM2 isStrA (kVal gJoin) (evVar 8) (evCons (evVar 9) evNil))))))) [some (.cel w), some (.str z), some (.str sgT), some k, some way, some (.int at_), some (.str sg), s7, s8, s9, s10] M = some (.nx, [some (.cel w), some (.str z'), some (.str sgT), some k, some way, some (.int at_), some (.str sg), s7, s8', s9', s10'], M') ∧ TX (2 * n + 2) z' ∧ Wl M' w (b + 10) := by
  let S := fun (z : Str) (s8 s9 s10 : Option Va) => ([some (.cel w), some (.str z), some (.str sgT), some k, some way, some (.int at_), some (.str sg), s7, s8, s9, s10] : SL)
  obtain ⟨r, M1, e1, r0, r1, w1, k1⟩ := drawE wl (by omega) 3 (by omega) (by omega) (s := S z s8 s9 s10) (i := 0) (e := evC (.int 3)) (fun _ => rfl) rfl
  let marks : List Str := [" ", "; ", ","]
  obtain ⟨y, ey, hy, _⟩ := at_nat (l := marks.map Va.str) r0 (by show r < 3; exact r1)
  obtain ⟨mk, hmk, rfl⟩ := List.mem_map.mp hy
  have hb' : Mk mk := by
    have : mk = " " ∨ mk = "; " ∨ mk = "," := by simpa [marks] using hmk
    rcases this with q | q | q <;> rw [q]
    · exact mk_sp
    · exact mk_semi
    · exact mk_comma
  have b1 : sSet 8 (ev2 opIx (evL kLst (evCons (evC (.str " ")) (evCons (evC (.str "; ")) (evCons (evC (.str ",")) evNil)))) (evL (kFn 2 c__law_draw) (evCons (evVar 0) (evCons (evC (.int 3)) evNil)))) (S z s8 s9 s10) M = some (.nx, S z (some (.str mk)) s9 s10, M1) := by
    refine set_val (v := .str mk) ?_
    rw [x_2, show evL kLst (evCons (evC (.str " ")) (evCons (evC (.str "; ")) (evCons (evC (.str ",")) evNil))) (S z s8 s9 s10) M = some (.val (.lst (marks.map Va.str)), M) from rfl, bindO_val, e1, bindO_val, y_ixL, ey]
  obtain ⟨f1, f2, f3⟩ := split_facts (z := z) hb'
  have hzl := hz.1
  let ps := Txt.split z mk
  have f2 : (ps.map (·.length)).sum + ps.length ≤ z.length + 1 := f2
  have f3 : 1 ≤ ps.length := f3
  let p := M1.nx
  let M2 := M1.new (.lst (ps.map Va.str))
  have pw : p ≠ w := by have := w1.lt; show M1.nx ≠ w; omega
  have w2 : Wl M2 w (b + 1) := by
    obtain ⟨⟨x, y, z, h1, h2⟩, h6⟩ := w1
    exact ⟨⟨x, y, z, (new_ne (Nat.ne_of_lt h6)).trans h1, h2⟩, Nat.lt_succ_of_lt h6⟩
  have b2 : sSet 9 (evM2 isStrA kSplitC (evVar 1) (evCons (evVar 8) evNil)) (S z (some (.str mk)) s9 s10) M1 = some (.nx, S z (some (.str mk)) (some (.cel p)) s10, M2) := by
    refine set_val (v := .cel p) ?_
    rw [x_M2, show evVar 1 (S z (some (.str mk)) s9 s10) M1 = some (.val (.str z), M1) from rfl, bindO_val, if_pos (show isStrA M1 (Va.str z) = true from rfl), x_cons, show evVar 8 (S z (some (.str mk)) s9 s10) M1 = some (.val (.str mk), M1) from rfl, bindO_val, x_nil, bindO_val, bindO_val]
    dsimp only
    unfold kSplitC
    dsimp only
    rw [if_pos ⟨hb'.ln, le_line (by omega), le_line (by show ps.length ≤ _; omega)⟩]
  let T := S z (some (.str mk)) (some (.cel p)) s10
  have c2 : M2.c p = some (.lst (ps.map Va.str)) := new_same
  have l9 := len_at (e := evVar 9) (s := T) (M := M2) (M1 := M2) (x := .cel p) rfl (LstAt.cel c2)
  rw [List.length_map] at l9
  obtain ⟨i, M3, e3, i0, i1, w3, k3⟩ := drawE w2 (by omega) (ps.length : Nat) (by omega) (by omega) (s := T) (i := 0) (fun _ => rfl) l9
  have c3 : M3.c p = some (.lst (ps.map Va.str)) := (k3.kp p (Nat.lt_succ_self _) pw).trans c2
  have hi : i.toNat < ps.length := by omega
  let pc := ps[i.toNat]
  have hpc : ps[i.toNat]? = some pc := List.getElem?_eq_getElem hi
  let M4 := M3.put p (.lst ((ps.eraseIdx i.toNat).map Va.str))
  have p3 : p < M3.nx := Nat.lt_of_lt_of_le (Nat.lt_succ_self _) k3.nx
  have b3 : sSet 10 (evM2 isLstA (kMut cPopAt) (evVar 9) (evCons (evL (kFn 2 c__law_draw) (evCons (evVar 0) (evCons (evL (kPure gLen) (evCons (evVar 9) evNil)) evNil))) evNil)) T M2 = some (.nx, S z (some (.str mk)) (some (.cel p)) (some (.str pc)), M4) := by
    refine set_val (v := .str pc) ?_
    have hL : isLstA M2 (.cel p) = true := by unfold isLstA; rw [y_lstC, c2]; rfl
    rw [x_M2, show evVar 9 T M2 = some (.val (.cel p), M2) from rfl, bindO_val, if_pos hL, x_cons, e3, bindO_val, x_nil, bindO_val, bindO_val]
    dsimp only
    rw [x_kMut, c3]
    dsimp only
    unfold cPopAt
    dsimp only
    rw [if_pos ⟨by omega, by omega⟩, List.length_map, seqIx i0 i1]
    dsimp only
    rw [List.getElem?_map, hpc]
    show some (Out.val (Va.str pc), M3.put p (.lst ((ps.map Va.str).eraseIdx i.toNat))) = _
    rw [er_map]
  let U := S z (some (.str mk)) (some (.cel p)) (some (.str pc))
  have w4 : Wl M4 w (b + 2) := by
    obtain ⟨⟨x, y, z, h1, h2, h3, h4, h5⟩, h6⟩ := w3
    exact ⟨⟨x, y, z, (put_ne (Ne.symm pw)).trans h1, h2, h3, h4, by omega⟩, h6⟩
  have c4 : M4.c p = some (.lst ((ps.eraseIdx i.toNat).map Va.str)) := put_same
  obtain ⟨q, M5, e5, q0, q1, w5, k5⟩ := drawE w4 (by omega) 3 (by omega) (by omega) (s := U) (i := 0) (e := evC (.int 3)) (fun _ => rfl) rfl
  have c5 : M5.c p = some (.lst ((ps.eraseIdx i.toNat).map Va.str)) := (k5.kp p p3 pw).trans c4
  have p5 : p < M5.nx := Nat.lt_of_lt_of_le p3 k5.nx
  have cond : ev2 opGt (evL (kFn 2 c__law_draw) (evCons (evVar 0) (evCons (evC (.int 3)) evNil))) (evC (.int 0)) U M4 = some (.val (.bl (decide (q > 0))), M5) := by
    rw [x_2, e5, bindO_val, x_c, bindO_val]; rfl
  have hmu := er_mu hpc
  have hps : mu ps ≤ n + 1 := by show ((ps.map (·.length)).sum + ps.length) ≤ _; omega
  obtain ⟨qs, M6, b4, c6, w6, hq1, hq2⟩ : ∃ (qs : List Str) (M6 : Store), sIf (ev2 opGt (evL (kFn 2 c__law_draw) (evCons (evVar 0) (evCons (evC (.int 3)) evNil))) (evC (.int 0))) (sDrop (evM2 isLstA (kMut cInsert) (evVar 9) (evCons (evL (kFn 2 c__law_draw) (evCons (evVar 0) (evCons (ev2 opAdd (evL (kPure gLen) (evCons (evVar 9) evNil)) (evC (.int 1))) evNil))) (evCons (evVar 10) evNil)))) sNx U M4 = some (.nx, U, M6) ∧ M6.c p = some (.lst (qs.map Va.str)) ∧ Wl M6 w (b + 10) ∧ mu qs ≤ n + 1 ∧ ∀ q ∈ qs, q ∈ ps := by
    by_cases hq : q > 0
    · obtain ⟨j, y, M6, e6, w6, k6, rfl⟩ := insC (fun y _ => y = .str pc) (e0 := evVar 0) (e := evVar 9) (ex := evVar 10) (s := U) (b' := b + 9) w5 (by omega) (fun _ => rfl) (fun _ => rfl) c5 pw p5 (by rw [List.length_map]; have : (ps.eraseIdx i.toNat).length ≤ mu (ps.eraseIdx i.toNat) := Nat.le_add_left _ _; omega) (fun N wN kN => ⟨_, N, rfl, wN.mono (by omega), Kp.refl, rfl⟩)
      refine ⟨insL (ps.eraseIdx i.toNat) j pc, M6.put p (.lst (insL ((ps.eraseIdx i.toNat).map Va.str) j (.str pc))), ?_, ?_, ?_, ?_, fun q hq => ?_⟩
      · rw [x_sIf, cond, decide_eq_true hq]; exact e6
      · rw [insL_map]; exact put_same
      · obtain ⟨⟨x, y, z, h1, h2, h3, h4, h5⟩, h6⟩ := w6
        exact ⟨⟨x, y, z, (put_ne (Ne.symm pw)).trans h1, h2, h3, h4, by omega⟩, h6⟩
      · rw [ins_mu]; omega
      · rcases insL_mem.mp hq with z | z
        · rw [z]; exact List.getElem_mem hi
        · exact List.mem_of_mem_eraseIdx z
    · refine ⟨ps.eraseIdx i.toNat, M5, ?_, c5, w5.mono (by omega), by omega, fun q hq => List.mem_of_mem_eraseIdx hq⟩
      rw [x_sIf, cond, decide_eq_false hq]; rfl
  have tx := join_tx hb' (ps := qs) (n := n + 1) (fun q hq c hc => hz.2 c (f1 q (hq2 q hq) c hc)) hq1
  refine ⟨Txt.join mk qs, _, _, _, M6, seq_nx b1 (seq_nx b2 (seq_nx b3 (seq_nx b4 (set_val (v := .str (Txt.join mk qs)) ?_)))), tx.up (by omega), w6⟩
  rw [x_M2, show evVar 8 U M6 = some (.val (.str mk), M6) from rfl, bindO_val, if_pos (show isStrA M6 (Va.str mk) = true from rfl), x_cons, show evVar 9 U M6 = some (.val (.cel p), M6) from rfl, bindO_val, x_nil, bindO_val, bindO_val]
  dsimp only
  rw [x_kVal]
  unfold gJoin
  dsimp only
  rw [y_seqC, c6]
  dsimp only
  rw [strsOf_mapT]
  dsimp only
  have hml := hb'.l2
  have hmul : qs.length * mk.length ≤ qs.length * 2 := Nat.mul_le_mul_left _ hml
  unfold mu at hq1
  rw [if_pos (by omega)]
end Lw

set_option Elab.async false
set_option linter.all false
set_option maxRecDepth 100000
set_option maxHeartbeats 4000000
set_option exponentiation.threshold 3000
namespace Lw
open PySem L2 PV
theorem turn {M : Store} {w b n : Nat} {z : Str} {k : Va} {s4 s5 s6 s7 s8 s9 s10 : Option Va} (wl : Wl M w b) (hb : b < 2 ^ 37) (hz : TX n z) (hn : n ≤ 5000) : ∃ (z' : Str) (s4' s5' s6' s7' s8' s9' s10' : Option Va) (M' : Store),
    (sSeq (sSet 4 (evL (kFn 2 c__law_draw) (evCons (evVar 0) (evCons (evC (.int 5)) evNil))))
    (sSeq (sSet 5 (evL (kFn 2 c__law_draw) (evCons (evVar 0) (evCons (ev2 opAdd (evL (kPure gLen) (evCons (evVar 1) evNil)) (evC (.int 1))) evNil))))
    (sSeq (sSet 6 (ev2 opIx (evVar 2) (evL (kFn 2 c__law_draw) (evCons (evVar 0) (evCons (evL (kPure gLen) (evCons (evVar 2) evNil)) evNil)))))
    (sIf (ev2 opEq (evVar 4) (evC (.int 0))) (sSet 1 (ev2 opAdd (ev2 opAdd (evSl (evVar 1) (evC .non) (evB (evVar 5))) (evVar 6)) (evSl (evVar 1) (evB (evVar 5)) (evC .non)))) (sIf (ev2 opEq (evVar 4) (evC (.int 1))) (sSet 1 (ev2 opAdd (evSl (evVar 1) (evC .non) (evB (evVar 5))) (evSl (evVar 1) (evB (ev2 opAdd (evVar 5) (evC (.int 1)))) (evC .non)))) (sIf (ev2 opEq (evVar 4) (evC (.int 2))) (sSet 1 (ev2 opAdd (ev2 opAdd (evSl (evVar 1) (evC .non) (evB (evVar 5))) (evVar 6)) (evSl (evVar 1) (evB (ev2 opAdd (evVar 5) (evC (.int 1)))) (evC .non)))) (sIf (ev2 opEq (evVar 4) (evC (.int 3))) (sSeq (sSet 7 (evSl (evVar 1) (evB (evVar 5)) (evB (ev2 opAdd (evVar 5) (evC (.int 2))))))
    (sSet 1 (ev2 opAdd (ev2 opAdd (evSl (evVar 1) (evC .non) (evB (evVar 5))) (ev1 opRevS (evVar 7))) (evSl (evVar 1) (evB (ev2 opAdd (evVar 5) (evC (.int 2)))) (evC .non))))) (sSeq (sSet 8 (ev2 opIx (evL kLst (evCons (evC (.str " ")) (evCons (evC (.str "; ")) (evCons (evC (.str ",")) evNil)))) (evL (kFn 2 c__law_draw) (evCons (evVar 0) (evCons (evC (.int 3)) evNil)))))
    (sSeq (sSet 9 (evM2 isStrA kSplitC (evVar 1) (evCons (evVar 8) evNil)))
    (sSeq (sSet 10 (evM2 isLstA (kMut cPopAt) (evVar 9) (evCons (evL (kFn 2 c__law_draw) (evCons (evVar 0) (evCons (evL (kPure gLen) (evCons (evVar 9) evNil)) evNil))) evNil)))
    (sSeq (sIf (ev2 opGt (evL (kFn 2 c__law_draw) (evCons (evVar 0) (evCons (evC (.int 3)) evNil))) (evC (.int 0))) (sDrop (evM2 isLstA (kMut cInsert) (evVar 9) (evCons (evL (kFn 2 c__law_draw) (evCons (evVar 0) (evCons (ev2 opAdd (evL (kPure gLen) (evCons (evVar 9) evNil)) (evC (.int 1))) evNil))) (evCons (evVar 10) evNil)))) sNx)
    (sSet 1 (evM2 isStrA (kVal gJoin) (evVar 8) (evCons (evVar 9) evNil)))))))))))))) [some (.cel w), some (.str z), some (.str sgT), some k, s4, s5, s6, s7, s8, s9, s10] M = some (.nx, [some (.cel w), some (.str z'), some (.str sgT), some k, s4', s5', s6', s7', s8', s9', s10'], M') ∧ TX (2 * n + 2) z' ∧ Wl M' w (b + 20) := by
  have hzl := hz.1
  let Z := fun (s4 s5 s6 : Option Va) => ([some (.cel w), some (.str z), some (.str sgT), some k, s4, s5, s6, s7, s8, s9, s10] : SL)
  obtain ⟨way, M1, e1, a0, a1, w1, k1⟩ := drawE wl (by omega) 5 (by omega) (by omega) (s := Z s4 s5 s6) (i := 0) (e := evC (.int 5)) (fun _ => rfl) rfl
  have lnS : ∀ (i : Nat) (t : Str) (S : SL) (N : Store), evVar i S N = some (.val (.str t), N) → t.length ≤ 100000 → evL (kPure gLen) (evCons (evVar i) evNil) S N = some (.val (.int (t.length : Nat)), N) := fun i t S N hv ht => by
    rw [x_L, x_cons, hv, bindO_val, x_nil, bindO_val, bindO_val]
    dsimp only
    rw [x_kPure, y_lenS (by omega)]
  have l1 : ev2 opAdd (evL (kPure gLen) (evCons (evVar 1) evNil)) (evC (.int 1)) (Z (some (.int way)) s5 s6) M1 = some (.val (.int ((z.length : Nat) + 1)), M1) := by
    rw [x_2, lnS 1 z _ _ rfl (by omega), bindO_val, x_c, bindO_val, y_add]
  obtain ⟨a, M2, e2, b0, b1, w2, k2⟩ := drawE w1 (by omega) ((z.length : Nat) + 1) (by omega) (by omega) (s := Z (some (.int way)) s5 s6) (i := 0) (fun _ => rfl) l1
  obtain ⟨a, rfl⟩ : ∃ m : Nat, a = m := ⟨a.toNat, by omega⟩
  have l2 := lnS 2 sgT (Z (some (.int way)) (some (.int (a : Nat))) s6) M2 rfl (by decide)
  obtain ⟨r, M3, e3, r0, r1, w3, k3⟩ := drawE w2 (by omega) (sgT.length : Nat) (by decide) (by decide) (s := Z (some (.int way)) (some (.int (a : Nat))) s6) (i := 0) (fun _ => rfl) l2
  obtain ⟨g, hg, gT⟩ := sign_at (M := M3) r0 r1
  let S := Z (some (.int way)) (some (.int (a : Nat))) (some (.str g))
  have p3 : sSet 6 (ev2 opIx (evVar 2) (evL (kFn 2 c__law_draw) (evCons (evVar 0) (evCons (evL (kPure gLen) (evCons (evVar 2) evNil)) evNil)))) (Z (some (.int way)) (some (.int (a : Nat))) s6) M2 = some (.nx, S, M3) := by
    refine set_val (v := .str g) ?_
    rw [x_2, show evVar 2 (Z (some (.int way)) (some (.int (a : Nat))) s6) M2 = some (.val (.str sgT), M2) from rfl, bindO_val, e3, bindO_val, hg]
  have q4 : ∀ m : Int, ev2 opEq (evVar 4) (evC (.int m)) S M3 = some (.val (.bl (decide (way = m))), M3) := fun m => by
    rw [x_2, show evVar 4 S M3 = some (.val (.int way), M3) from rfl, bindO_val, x_c, bindO_val, y_eqI]
  have fin : ∀ r, (∃ (z' : Str) (s7' s8' s9' s10' : Option Va) (M' : Store), r S M3 = some (.nx, [some (.cel w), some (.str z'), some (.str sgT), some k, some (.int way), some (.int (a : Nat)), some (.str g), s7', s8', s9', s10'], M') ∧ TX (2 * n + 2) z' ∧ Wl M' w (b + 20)) → ∃ (z' : Str) (s4' s5' s6' s7' s8' s9' s10' : Option Va) (M' : Store),
      (sSeq (sSet 4 (evL (kFn 2 c__law_draw) (evCons (evVar 0) (evCons (evC (.int 5)) evNil)))) (sSeq (sSet 5 (evL (kFn 2 c__law_draw) (evCons (evVar 0) (evCons (ev2 opAdd (evL (kPure gLen) (evCons (evVar 1) evNil)) (evC (.int 1))) evNil)))) (sSeq (sSet 6 (ev2 opIx (evVar 2) (evL (kFn 2 c__law_draw) (evCons (evVar 0) (evCons (evL (kPure gLen) (evCons (evVar 2) evNil)) evNil))))) r))) (Z s4 s5 s6) M = some (.nx, [some (.cel w), some (.str z'), some (.str sgT), some k, s4', s5', s6', s7', s8', s9', s10'], M') ∧ TX (2 * n + 2) z' ∧ Wl M' w (b + 20) := fun r ⟨z', s7', s8', s9', s10', M', er, tx, wl'⟩ =>
    ⟨z', _, _, _, s7', s8', s9', s10', M', seq_nx (s1 := Z (some (.int way)) s5 s6) (M1 := M1) (set_val e1) (seq_nx (s1 := Z (some (.int way)) (some (.int (a : Nat))) s6) (M1 := M2) (set_val e2) (seq_nx p3 er)), tx, wl'⟩
  have T1 := take_tx (k := a) hz
  have D0 := drop_tx (k := a) hz
  have D1 := drop_txI (k := (a : Int) + 1) hz (by omega)
  have D2 := drop_txI (k := (a : Int) + 2) hz (by omega)
  have P2 := mid_tx (k := a) hz
  have i1 := T1.1
  have i2 := D0.1
  have i3 := D1.1
  have i4 := D2.1
  have i5 := P2.1
  have i6 := gT.1
  have st : ∀ (S : SL), evVar 1 S M3 = some (.val (.str z), M3) → evVar 5 S M3 = some (.val (.int (a : Nat)), M3) → evSl (evVar 1) (evC .non) (evB (evVar 5)) S M3 = some (.val (.str (cutS z none (some (a : Int)))), M3) ∧ evSl (evVar 1) (evB (evVar 5)) (evC .non) S M3 = some (.val (.str (cutS z (some (a : Int)) none)), M3) ∧ evSl (evVar 1) (evB (ev2 opAdd (evVar 5) (evC (.int 1)))) (evC .non) S M3 = some (.val (.str (cutS z (some ((a : Int) + 1)) none)), M3) ∧ evSl (evVar 1) (evB (ev2 opAdd (evVar 5) (evC (.int 2)))) (evC .non) S M3 = some (.val (.str (cutS z (some ((a : Int) + 2)) none)), M3) ∧ evSl (evVar 1) (evB (evVar 5)) (evB (ev2 opAdd (evVar 5) (evC (.int 2)))) S M3 = some (.val (.str (cutS z (some (a : Int)) (some ((a : Int) + 2)))), M3) := fun S hv h5 => by
    have o1 : opSl M3 (.str z) none (some (a : Int)) = some (.str (cutS z none (some (a : Int)))) := if_pos (le_line (by omega))
    have o2 : opSl M3 (.str z) (some (a : Int)) none = some (.str (cutS z (some (a : Int)) none)) := if_pos (le_line (by omega))
    have o3 : opSl M3 (.str z) (some ((a : Int) + 1)) none = some (.str (cutS z (some ((a : Int) + 1)) none)) := if_pos (le_line (by omega))
    have o4 : opSl M3 (.str z) (some ((a : Int) + 2)) none = some (.str (cutS z (some ((a : Int) + 2)) none)) := if_pos (le_line (by omega))
    have o5 : opSl M3 (.str z) (some (a : Int)) (some ((a : Int) + 2)) = some (.str (cutS z (some (a : Int)) (some ((a : Int) + 2)))) := if_pos (le_line (by omega))
    simp [hv, h5, boundOf, o1, o2, o3, o4, o5]
  obtain ⟨t1, t2, t3, t4, t5⟩ := st S rfl rfl
  refine fin _ ?_
  have add2 : ∀ (S : SL) (ea eb ec : SE) (x y u : Str), ea S M3 = some (.val (.str x), M3) → eb S M3 = some (.val (.str y), M3) → ec S M3 = some (.val (.str u), M3) → x.length + y.length + u.length ≤ 100000 → ev2 opAdd (ev2 opAdd ea eb) ec S M3 = some (.val (.str (x ++ y ++ u)), M3) := fun S ea eb ec x y u ha hb hc hl => by
    rw [x_2, x_2, ha, bindO_val, hb, bindO_val, y_addS (by omega)]
    dsimp only
    rw [bindO_val, hc, bindO_val, y_addS (by rw [len_app]; omega)]
  by_cases h0 : way = 0
  · refine ⟨_, s7, s8, s9, s10, M3, ?_, (cat_tx (cat_tx T1 gT) D0).up (by omega), w3.mono (by omega)⟩
    rw [x_sIf, q4, decide_eq_true h0]
    exact set_val (add2 S _ _ _ _ _ _ t1 rfl t2 (by omega))
  have f0 : ∀ a r, sIf (ev2 opEq (evVar 4) (evC (.int 0))) a r S M3 = r S M3 := fun a r => by rw [x_sIf, q4, decide_eq_false h0]
  rw [f0]
  by_cases h1 : way = 1
  · refine ⟨_, s7, s8, s9, s10, M3, ?_, (cat_tx T1 D1).up (by omega), w3.mono (by omega)⟩
    rw [x_sIf, q4, decide_eq_true h1]
    refine set_val (v := .str (cutS z none (some (a : Int)) ++ cutS z (some ((a : Int) + 1)) none)) ?_
    rw [x_2, t1, bindO_val, t3, bindO_val, y_addS (by omega)]
  have f1 : ∀ a r, sIf (ev2 opEq (evVar 4) (evC (.int 1))) a r S M3 = r S M3 := fun a r => by rw [x_sIf, q4, decide_eq_false h1]
  rw [f1]
  by_cases h2 : way = 2
  · refine ⟨_, s7, s8, s9, s10, M3, ?_, (cat_tx (cat_tx T1 gT) D1).up (by omega), w3.mono (by omega)⟩
    rw [x_sIf, q4, decide_eq_true h2]
    exact set_val (add2 S _ _ _ _ _ _ t1 rfl t3 (by omega))
  have f2 : ∀ a r, sIf (ev2 opEq (evVar 4) (evC (.int 2))) a r S M3 = r S M3 := fun a r => by rw [x_sIf, q4, decide_eq_false h2]
  rw [f2]
  by_cases h3 : way = 3
  · let S7 : SL := [some (.cel w), some (.str z), some (.str sgT), some k, some (.int way), some (.int (a : Nat)), some (.str g), some (.str (cutS z (some (a : Int)) (some ((a : Int) + 2)))), s8, s9, s10]
    obtain ⟨u1, u2, u3, u4, u5⟩ := st S7 rfl rfl
    have R := rev_tx P2
    have i7 := R.1
    let pr := cutS z (some (a : Int)) (some ((a : Int) + 2))
    have i7' : (revS pr).length ≤ 2 := i7
    have hl3 : (cutS z none (some (a : Int))).length + (revS pr).length + (cutS z (some ((a : Int) + 2)) none).length ≤ 100000 := by omega
    have rv : ev1 opRevS (evVar 7) S7 M3 = some (.val (.str (revS pr)), M3) := by
      have : opRevS M3 (.str pr) = some (.str (revS pr)) := by
        unfold opRevS
        dsimp only
        rw [if_pos i5]
      rw [x_1, show evVar 7 S7 M3 = some (.val (.str pr), M3) from rfl, bindO_val, this]
    refine ⟨cutS z none (some (a : Int)) ++ revS pr ++ cutS z (some ((a : Int) + 2)) none, some (.str pr), s8, s9, s10, M3, ?_, (cat_tx (cat_tx T1 R) D2).up (by omega), w3.mono (by omega)⟩
    rw [x_sIf, q4, decide_eq_true h3]
    exact seq_nx (s1 := S7) (M1 := M3) (set_val t5) (set_val (v := .str (cutS z none (some (a : Int)) ++ revS pr ++ cutS z (some ((a : Int) + 2)) none)) (add2 S7 _ _ _ _ _ _ u1 rv u4 hl3))
  have f3 : ∀ a r, sIf (ev2 opEq (evVar 4) (evC (.int 3))) a r S M3 = r S M3 := fun a r => by rw [x_sIf, q4, decide_eq_false h3]
  rw [f3]
  obtain ⟨z', s8', s9', s10', M', e', tx, wl'⟩ := turn4 (M := M3) (n := n) (at_ := a) (z := z) (sg := g) (k := k) (way := .int way) (s7 := s7) (s8 := s8) (s9 := s9) (s10 := s10) w3 (by omega) hz hn
  exact ⟨z', s7, s8', s9', s10', M', e', tx, wl'.mono (by omega)⟩
def gN : Nat → Nat → Nat
  | 0, n => n
  | l + 1, n => gN l (2 * n + 2)
end Lw

set_option Elab.async false
set_option linter.all false
set_option maxRecDepth 100000
set_option maxHeartbeats 4000000
set_option exponentiation.threshold 3000
namespace Lw
open PySem L2 PV
theorem gN_le : ∀ (l n : Nat), n ≤ gN l n
  | 0, n => Nat.le_refl _
  | l + 1, n => by
    have := gN_le l (2 * n + 2)
    show n ≤ gN l (2 * n + 2)
    omega
theorem turns {w : Nat} : ∀ (xs : List Va) (n : Nat) (z : Str) (s3 s4 s5 s6 s7 s8 s9 s10 : Option Va) (M : Store) (b : Nat), gN xs.length n ≤ 5000 → TX n z → Wl M w b → b + 20 * xs.length < 2 ^ 36 →
    ∃ (z' : Str) (t3 t4 t5 t6 t7 t8 t9 t10 : Option Va) (M' : Store), loopF (fun _ => True) (tgName 3) (sSeq (sSet 4 (evL (kFn 2 c__law_draw) (evCons (evVar 0) (evCons (evC (.int 5)) evNil))))
    (sSeq (sSet 5 (evL (kFn 2 c__law_draw) (evCons (evVar 0) (evCons (ev2 opAdd (evL (kPure gLen) (evCons (evVar 1) evNil)) (evC (.int 1))) evNil))))
    (sSeq (sSet 6 (ev2 opIx (evVar 2) (evL (kFn 2 c__law_draw) (evCons (evVar 0) (evCons (evL (kPure gLen) (evCons (evVar 2) evNil)) evNil)))))
    (sIf (ev2 opEq (evVar 4) (evC (.int 0))) (sSet 1 (ev2 opAdd (ev2 opAdd (evSl (evVar 1) (evC .non) (evB (evVar 5))) (evVar 6)) (evSl (evVar 1) (evB (evVar 5)) (evC .non)))) (sIf (ev2 opEq (evVar 4) (evC (.int 1))) (sSet 1 (ev2 opAdd (evSl (evVar 1) (evC .non) (evB (evVar 5))) (evSl (evVar 1) (evB (ev2 opAdd (evVar 5) (evC (.int 1)))) (evC .non)))) (sIf (ev2 opEq (evVar 4) (evC (.int 2))) (sSet 1 (ev2 opAdd (ev2 opAdd (evSl (evVar 1) (evC .non) (evB (evVar 5))) (evVar 6)) (evSl (evVar 1) (evB (ev2 opAdd (evVar 5) (evC (.int 1)))) (evC .non)))) (sIf (ev2 opEq (evVar 4) (evC (.int 3))) (sSeq (sSet 7 (evSl (evVar 1) (evB (evVar 5)) (evB (ev2 opAdd (evVar 5) (evC (.int 2))))))
    (sSet 1 (ev2 opAdd (ev2 opAdd (evSl (evVar 1) (evC .non) (evB (evVar 5))) (ev1 opRevS (evVar 7))) (evSl (evVar 1) (evB (ev2 opAdd (evVar 5) (evC (.int 2)))) (evC .non))))) (sSeq (sSet 8 (ev2 opIx (evL kLst (evCons (evC (.str " ")) (evCons (evC (.str "; ")) (evCons (evC (.str ",")) evNil)))) (evL (kFn 2 c__law_draw) (evCons (evVar 0) (evCons (evC (.int 3)) evNil)))))
    (sSeq (sSet 9 (evM2 isStrA kSplitC (evVar 1) (evCons (evVar 8) evNil)))
    (sSeq (sSet 10 (evM2 isLstA (kMut cPopAt) (evVar 9) (evCons (evL (kFn 2 c__law_draw) (evCons (evVar 0) (evCons (evL (kPure gLen) (evCons (evVar 9) evNil)) evNil))) evNil)))
    (sSeq (sIf (ev2 opGt (evL (kFn 2 c__law_draw) (evCons (evVar 0) (evCons (evC (.int 3)) evNil))) (evC (.int 0))) (sDrop (evM2 isLstA (kMut cInsert) (evVar 9) (evCons (evL (kFn 2 c__law_draw) (evCons (evVar 0) (evCons (ev2 opAdd (evL (kPure gLen) (evCons (evVar 9) evNil)) (evC (.int 1))) evNil))) (evCons (evVar 10) evNil)))) sNx)
    (sSet 1 (evM2 isStrA (kVal gJoin) (evVar 8) (evCons (evVar 9) evNil)))))))))))))) xs [some (.cel w), some (.str z), some (.str sgT), s3, s4, s5, s6, s7, s8, s9, s10] M = some (.nx, [some (.cel w), some (.str z'), some (.str sgT), t3, t4, t5, t6, t7, t8, t9, t10], M') ∧ TX (gN xs.length n) z' ∧ Wl M' w (b + 20 * xs.length)
  | [], n, z, s3, s4, s5, s6, s7, s8, s9, s10, M, b, _, hz, wl, _ => ⟨z, s3, s4, s5, s6, s7, s8, s9, s10, M, loop_nil trivial, hz, by simpa using wl⟩
  | x :: xs, n, z, s3, s4, s5, s6, s7, s8, s9, s10, M, b, hn, hz, wl, hb => by
    rw [List.length_cons] at hb
    have hn : gN xs.length (2 * n + 2) ≤ 5000 := hn
    have := gN_le xs.length (2 * n + 2)
    obtain ⟨z1, t4, t5, t6, t7, t8, t9, t10, M1, e1, tx1, w1⟩ := turn (k := x) (s4 := s4) (s5 := s5) (s6 := s6) (s7 := s7) (s8 := s8) (s9 := s9) (s10 := s10) wl (by omega) hz (by omega)
    obtain ⟨z', u3, u4, u5, u6, u7, u8, u9, u10, M', e2, tx2, w2⟩ := turns xs (2 * n + 2) z1 (some x) t4 t5 t6 t7 t8 t9 t10 M1 (b + 20) hn tx1 w1 (by omega)
    exact ⟨z', u3, u4, u5, u6, u7, u8, u9, u10, M', loop_nx (s1 := [some (.cel w), some (.str z), some (.str sgT), some x, s4, s5, s6, s7, s8, s9, s10]) trivial rfl e1 e2, tx2, w2.mono (by rw [List.length_cons]; omega)⟩
theorem spoiled {M : Store} {w b : Nat} {z : Str} (wl : Wl M w b) (hb : b < 2 ^ 35) (hz : TX 992 z) : ∃ (z' : Str) (M' : Store), c__law_spoiled [.cel w, .str z] M = some (.val (.str z'), M') ∧ TX 4000 z' ∧ Wl M' w (b + 50) := by
  let S : SL := [some (.cel w), some (.str z), some (.str sgT), none, none, none, none, none, none, none, none]
  obtain ⟨r, M1, e1, r0, r1, w1, k1⟩ := drawE wl (by omega) 4 (by omega) (by omega) (s := S) (i := 0) (e := evC (.int 4)) (fun _ => rfl) rfl
  have it : itR1 (evCons (ev2 opAdd (evC (.int 1)) (ev2 opDiv (evL (kFn 2 c__law_draw) (evCons (evVar 0) (evCons (evC (.int 4)) evNil))) (evC (.int 3)))) evNil) S M = some (.it ((List.range (1 + r / 3).toNat).map fun (i : Nat) => Va.int i) (fun _ => True), M1) := by
    rw [z_itR1, x_cons, x_2, x_c, bindO_val, x_2, e1, bindO_val, x_c, bindO_val, y_div (by omega) (by omega)]
    dsimp only
    rw [bindO_val, y_add]
    dsimp only
    rw [bindO_val, x_nil, bindO_val]
    dsimp only
    rw [z_rng (by omega) (by omega)]
  have hlen : ((List.range (1 + r / 3).toNat).map fun (i : Nat) => Va.int i).length = (1 + r / 3).toNat := by rw [List.length_map, List.length_range]
  have hg : gN (1 + r / 3).toNat 992 ≤ 4000 := by
    have : (1 + r / 3).toNat = 1 ∨ (1 + r / 3).toNat = 2 := by omega
    rcases this with q | q <;> rw [q] <;> decide
  obtain ⟨z', u3, u4, u5, u6, u7, u8, u9, u10, M', e2, tx, w2⟩ := turns (w := w) ((List.range (1 + r / 3).toNat).map fun (i : Nat) => Va.int i) 992 z none none none none none none none none M1 _ (by rw [hlen]; omega) hz w1 (by rw [hlen]; omega)
  rw [hlen] at tx w2
  refine ⟨z', M', ?_, tx.up hg, w2.mono (by omega)⟩
  unfold c__law_spoiled runF m__law_spoiled
  rw [show startI 11 [Va.cel w, .str z] = [some (.cel w), some (.str z), none, none, none, none, none, none, none, none, none] from rfl]
  exact end_ret (s1 := [some (.cel w), some (.str z'), some (.str sgT), u3, u4, u5, u6, u7, u8, u9, u10]) (seq_nx (s1 := S) (M1 := M) rfl (seq_nx (for_it it e2) rfl))
end Lw

set_option Elab.async false
set_option linter.all false
set_option maxRecDepth 100000
set_option maxHeartbeats 4000000
set_option exponentiation.threshold 3000
namespace Lw
open PySem L2 PV
theorem rtx_tx2 {ds : List Dd} (h : ∀ d ∈ ds, DOk d) (hl : ds.length ≤ 8) : TX 992 (rtx ds) := by
  have := fold_tx ds "" 0 h (by unfold TX; decide)
  exact (drop_tx (k := 2) this).up (by omega)
theorem sub_mem {x : Str} {lo hi : Nat} {c : Nat} (h : c ∈ tl (Builtin.Str.strSub x lo hi)) : c ∈ tl x := by
  have h : c ∈ (x.cps.extract lo hi).toList := h
  rw [Array.toList_extract] at h
  simp only [List.extract_eq_take_drop] at h
  exact List.mem_of_mem_drop (List.mem_of_mem_take h)
theorem lstrip_tx {n : Nat} {a b : Str} (h : TX n a) : TX n (Txt.lstripChars a b) := by
  refine ⟨Nat.le_trans (PyProof.Rows.len_lstripChars a b) h.1, fun c hc => h.2 c ?_⟩
  unfold Txt.lstripChars Txt.stripBy at hc
  first
  | exact sub_mem hc
  | (split at hc
     · exact hc
     · exact sub_mem hc)
theorem fold_mem {a : Array Nat} {c : Nat} : ∀ (k : Nat) (acc : Array Nat), c ∈ ((List.replicate k a).foldl (· ++ ·) acc).toList → c ∈ acc.toList ∨ c ∈ a.toList
  | 0, acc, h => .inl h
  | k + 1, acc, h => by
    rw [List.replicate_succ, List.foldl_cons] at h
    rcases fold_mem k (acc ++ a) h with q | q
    · rw [Array.toList_append] at q
      exact List.mem_append.mp q
    · exact .inr q
theorem rep_mem {a : Str} {k : Int} {c : Nat} (h : c ∈ tl (repS a k)) : c ∈ tl a := by
  unfold repS at h
  split at h
  · exact h
  · rcases fold_mem k.toNat #[] h with q | q
    · cases q
    · exact q
theorem rep_len {a : Str} {k : Int} (h1 : a.length ≤ 1000) (h2 : k ≤ 1000) : (repS a k).length ≤ 16777216 := by
  have hm : a.length * k.toNat ≤ 1000 * 1000 := Nat.mul_le_mul h1 (by omega)
  unfold repS
  split
  · omega
  · exact fits_reps (PyProof.Rows.short24 (by omega))
theorem upper_tx {n : Nat} {z : Str} (h : TX n z) : TX n (Txt.upper z) := by
  have e := PyProof.Rows.upper_ascii (x := z) h.2
  rw [e]
  have et : tl (⟨z.cps.map PyProof.Rows.up1⟩ : Str) = (tl z).map PyProof.Rows.up1 := by
    show (z.cps.map PyProof.Rows.up1).toList = _
    rw [Array.toList_map]
    try rfl
  refine ⟨?_, fun c hc => ?_⟩
  · rw [tl_len, et, List.length_map, ← tl_len]; exact h.1
  · rw [et] at hc
    obtain ⟨d, hd, rfl⟩ := List.mem_map.mp hc
    have := h.2 d hd
    unfold PyProof.Rows.up1
    split <;> omega
theorem set_mu : ∀ {l : List Str} {k : Nat} {y : Str}, mu (l.set k y) ≤ mu l + y.length
  | [], k, y => by show mu [] ≤ _; omega
  | a :: l, 0, y => by
    show mu (y :: l) ≤ _
    unfold mu
    rw [List.map_cons, List.map_cons, List.sum_cons, List.sum_cons, List.length_cons, List.length_cons]
    omega
  | a :: l, k + 1, y => by
    have ih := set_mu (l := l) (k := k) (y := y)
    show mu (a :: l.set k y) ≤ mu (a :: l) + _
    unfold mu at ih ⊢
    rw [List.map_cons, List.map_cons, List.sum_cons, List.sum_cons, List.length_cons, List.length_cons]
    omega
theorem set_map {α β : Type} (f : α → β) : ∀ (l : List α) (k : Nat) (y : α), (l.map f).set k (f y) = (l.set k y).map f
  | [], _, _ => rfl
  | _ :: _, 0, _ => rfl
  | a :: l, k + 1, y => congrArg (f a :: ·) (set_map f l k y)
theorem join_txG {b : Str} (hb : Mk b) {ps : List Str} (hp : ∀ p ∈ ps, ∀ c ∈ tl p, c < 128) : TX ((ps.map (·.length)).sum + 2 * ps.length) (Txt.join b ps) := by
  have e : tl (Txt.join b ps) = TL.joinL (tl b) (ps.map tl) := by
    show TL.tl _ = _
    rw [TL.join_eq, TL.tl_join]
    try rfl
  obtain ⟨h1, h2⟩ := joinL_facts (S := tl b) (by rw [← tl_len]; exact hb.l2) (ps.map tl)
  refine ⟨?_, fun c hc => ?_⟩
  · rw [tl_len, e]
    rw [lens_tl, List.length_map] at h1
    exact h1
  · rw [e] at hc
    rcases h2 c hc with q | ⟨x, hx, q⟩
    · exact hb.as c q
    · obtain ⟨p, hp', rfl⟩ := List.mem_map.mp hx
      exact hp p hp' c q
theorem joinL_len1 {S : List Nat} (hS : S.length ≤ 1) : ∀ ps : List (List Nat), (TL.joinL S ps).length ≤ (ps.map List.length).sum + ps.length
  | [] => by simp [TL.joinL]
  | [p] => by simp [TL.joinL]
  | p :: q :: r => by
    have h1 := joinL_len1 hS (q :: r)
    have e : TL.joinL S (p :: q :: r) = p ++ (S ++ TL.joinL S (q :: r)) := by simp [TL.joinL]
    rw [e, List.length_append, List.length_append, List.map_cons, List.sum_cons, List.length_cons]
    omega
theorem join_tx1 {ps : List Str} {n : Nat} (hp : ∀ p ∈ ps, ∀ c ∈ tl p, c < 128) (hn : mu ps ≤ n) : TX n (Txt.join " " ps) := by
  have e : tl (Txt.join " " ps) = TL.joinL (tl " ") (ps.map tl) := by
    show TL.tl _ = _
    rw [TL.join_eq, TL.tl_join]
    try rfl
  have h1 := joinL_len1 (S := tl " ") (by decide) (ps.map tl)
  refine ⟨?_, (join_tx mk_sp hp hn).2⟩
  rw [tl_len, e]
  rw [lens_tl, List.length_map] at h1
  unfold mu at hn
  omega
/-! words of one deed -/
theorem spl_count : ∀ (l : List Nat) (acc : List Nat), (TL.spl [32] 0 acc l).length = l.count 32 + 1
  | [], acc => by rw [TL.spl_nil]; rfl
  | c :: r, acc => by
    by_cases h : c = 32
    · have hp : TL.pre [32] (c :: r) = true := by unfold TL.pre; simp [h]
      rw [TL.spl_hit hp, List.length_cons, List.count_cons, if_pos (by simp [h])]
      show (TL.spl [32] 0 [] r).length + 1 = _
      rw [spl_count r []]
    · have hp : TL.pre [32] (c :: r) = false := by unfold TL.pre; simp [h]
      rw [TL.spl_miss hp, spl_count r _, List.count_cons, if_neg (by simp [h])]
theorem one_words {d : Dd} (h : DOk d) : 3 ≤ (Txt.split (rtx [d]) " ").length ∧ mu (Txt.split (rtx [d]) " ") ≤ 125 ∧ ∀ p ∈ Txt.split (rtx [d]) " ", ∀ c ∈ tl p, c < 128 := by
  have t : TX 124 (rtx [d]) := by
    have := fold_tx [d] "" 0 (fun q hq => by rw [List.mem_singleton.mp hq]; exact h) (by unfold TX; decide)
    exact (drop_tx (k := 2) this).up (by simp)
  obtain ⟨f1, f2, f3⟩ := split_facts (z := rtx [d]) mk_sp
  have tl1 := t.1
  refine ⟨?_, by unfold mu; omega, fun p hp c hc => t.2 c (f1 p hp c hc)⟩
  have e : (Txt.split (rtx [d]) " ").map tl = TL.spl (tl " ") 0 [] (tl (rtx [d])) := TL.split_spl (rtx [d]) " " mk_sp.ne (TL.kind_ok mk_sp.kd)
  have e2 := congrArg List.length e
  rw [List.length_map, show tl (" " : Str) = [32] from by decide, spl_count] at e2
  have et : tl (rtx [d]) = tl (dT d) ++ ([32] ++ (tl (dA d) ++ ([32] ++ tl (dB d)))) := by
    have : tl (addD "" d) = tl ("" : Str) ++ tl ("; " : Str) ++ tl (dT d) ++ tl (" " : Str) ++ tl (dA d) ++ tl (" " : Str) ++ tl (dB d) := by
      unfold addD
      have ap : ∀ a b : Str, tl (a ++ b) = tl a ++ tl b := fun a b => TL.tl_append a b
      rw [ap, ap, ap, ap, ap, ap]
    unfold rtx
    rw [show (some 2 : Option Int) = some ((2 : Nat) : Int) from rfl, cut_from]
    show (tl (addD "" d)).drop 2 = _
    rw [this, show tl ("" : Str) = [] from by decide, show tl ("; " : Str) = [59, 32] from by decide, show tl (" " : Str) = [32] from by decide]
    simp
  rw [e2, et]
  simp only [List.count_append]
  have : List.count 32 [32] = 1 := by decide
  omega
end Lw

set_option Elab.async false
set_option linter.all false
set_option maxRecDepth 100000
set_option maxHeartbeats 4000000
set_option exponentiation.threshold 3000
namespace Lw
open PySem L2 PV
/-- a row of words in a cell -/
def Row (N : Store) (m : Nat) (c : Nat) : Prop := ∃ l : List Str, N.c c = some (.lst (l.map Va.str)) ∧ 3 ≤ l.length ∧ mu l ≤ m ∧ ∀ p ∈ l, ∀ c ∈ tl p, c < 128
theorem rows_lc {w : Nat} {S : SL} (hS : ∀ x N, evVar 9 (S.set 9 (some x)) N = some (.val x, N)) : ∀ (ds : List Dd) (M : Store) (b : Nat), (∀ d ∈ ds, DOk d) → Wl M w b → ∃ (cs : List Nat) (M' : Store),
    compL (fun _ => True) (tgName 9) evYes (evM2 isStrA kSplitC (evL (kFn 1 c__law_run_text) (evCons (evL kLst (evCons (evVar 9) evNil)) evNil)) (evCons (evC (.str " ")) evNil)) S (ds.map dV) M = some (cs.map Va.cel, M') ∧ cs.length = ds.length ∧ (∀ c ∈ cs, Row M' 125 c ∧ M.nx ≤ c ∧ c < M'.nx) ∧ Wl M' w b ∧ M.nx ≤ M'.nx ∧ ∀ n, n < M.nx → M'.c n = M.c n
  | [], M, b, _, wl => ⟨[], M, by show compL _ _ _ _ _ [] M = _; unfold compL; rw [if_pos trivial]; rfl, rfl, (fun _ z => nomatch z), wl, Nat.le_refl _, fun _ _ => rfl⟩
  | d :: ds, M, b, hd, wl => by
    have ok := hd d (by simp)
    obtain ⟨o1, o2, o3⟩ := one_words ok
    let ps := Txt.split (rtx [d]) " "
    have o2' : mu ps ≤ 125 := o2
    have pl : ps.length ≤ 125 := by unfold mu at o2'; omega
    have tx : TX 992 (rtx [d]) := rtx_tx2 (fun q hq => by rw [List.mem_singleton.mp hq]; exact ok) (by simp)
    let M1 := M.new (.lst (ps.map Va.str))
    have w1 : Wl M1 w b := by
      obtain ⟨⟨x, y, z, h1, h2⟩, h6⟩ := wl
      exact ⟨⟨x, y, z, (new_ne (Nat.ne_of_lt h6)).trans h1, h2⟩, Nat.lt_succ_of_lt h6⟩
    have hw := wl.lt
    have e1 : evM2 isStrA kSplitC (evL (kFn 1 c__law_run_text) (evCons (evL kLst (evCons (evVar 9) evNil)) evNil)) (evCons (evC (.str " ")) evNil) (S.set 9 (some (dV d))) M = some (.val (.cel M.nx), M1) := by
      have a1 : evL kLst (evCons (evVar 9) evNil) (S.set 9 (some (dV d))) M = some (.val (.lst ([d].map dV)), M) := by
        rw [x_L, x_cons, hS, bindO_val, x_nil, bindO_val, bindO_val]
        rfl
      have a2 := call1 a1 (run_text (M := M) (ds := [d]) (fun q hq => by rw [List.mem_singleton.mp hq]; exact ok) (by simp))
      rw [x_M2, a2, bindO_val, if_pos (show isStrA M (Va.str (rtx [d])) = true from rfl), x_cons, x_c, bindO_val, x_nil, bindO_val, bindO_val]
      dsimp only
      unfold kSplitC
      dsimp only
      have := tx.1
      rw [if_pos ⟨mk_sp.ln, le_line (by omega), le_line (by show ps.length ≤ _; omega)⟩]
    obtain ⟨cs, M', e2, hl, hc, w2, hn, hk⟩ := rows_lc (w := w) hS ds M1 b (fun q hq => hd q (by simp [hq])) w1
    have hn1 : M.nx + 1 ≤ M'.nx := hn
    refine ⟨M.nx :: cs, M', ?_, by rw [List.length_cons, List.length_cons, hl], fun c hc' => ?_, w2, by omega, fun n h => (hk n (Nat.lt_succ_of_lt h)).trans (new_ne (Nat.ne_of_lt h))⟩
    · show compL _ _ _ _ _ (dV d :: ds.map dV) M = _
      unfold compL
      rw [if_pos trivial, x_tgName]
      dsimp only
      rw [x_yes]
      dsimp only
      rw [e1]
      dsimp only
      rw [e2]
      rfl
    · rcases List.mem_cons.mp hc' with z | z
      · rw [z]
        exact ⟨⟨ps, (hk M.nx (Nat.lt_succ_self _)).trans new_same, o1, o2', o3⟩, Nat.le_refl _, by omega⟩
      · obtain ⟨g1, g2, g3⟩ := hc c z
        have g2 : M.nx + 1 ≤ c := g2
        exact ⟨g1, by omega, g3⟩
theorem join_lc {S : SL} {N : Store} (hS : ∀ x, evVar 10 (S.set 10 (some x)) N = some (.val x, N)) : ∀ (cs : List Nat), (∀ c ∈ cs, Row N 330 c) → ∃ ts : List Str,
    compL (fun _ => True) (tgName 10) evYes (evM2 isStrA (kVal gJoin) (evC (.str " ")) (evCons (evVar 10) evNil)) S (cs.map Va.cel) N = some (ts.map Va.str, N) ∧ ts.length = cs.length ∧ ∀ t ∈ ts, TX 330 t
  | [], _ => ⟨[], by show compL _ _ _ _ _ [] N = _; unfold compL; rw [if_pos trivial]; rfl, rfl, fun _ z => nomatch z⟩
  | c :: cs, h => by
    obtain ⟨l, h1, h2, h3, h4⟩ := h c (by simp)
    obtain ⟨ts, e, hl, ht⟩ := join_lc hS cs fun q hq => h q (by simp [hq])
    have tx := join_tx1 (ps := l) h4 h3
    refine ⟨Txt.join " " l :: ts, ?_, by rw [List.length_cons, List.length_cons, hl], fun t hq => ?_⟩
    · show compL _ _ _ _ _ (Va.cel c :: cs.map Va.cel) N = _
      unfold compL
      rw [if_pos trivial, x_tgName]
      dsimp only
      rw [x_yes]
      dsimp only
      have e1 : evM2 isStrA (kVal gJoin) (evC (.str " ")) (evCons (evVar 10) evNil) (S.set 10 (some (.cel c))) N = some (.val (.str (Txt.join " " l)), N) := by
        rw [x_M2, x_c, bindO_val, if_pos (show isStrA N (Va.str " ") = true from rfl), x_cons, hS, bindO_val, x_nil, bindO_val, bindO_val]
        dsimp only
        rw [x_kVal]
        unfold gJoin
        dsimp only
        rw [y_seqC, h1]
        dsimp only
        rw [strsOf_mapT]
        dsimp only
        unfold mu at h3
        rw [if_pos (by show _ + l.length * 1 ≤ _; omega)]
      rw [e1]
      dsimp only
      rw [e]
      rfl
    · rcases List.mem_cons.mp hq with z | z
      · rw [z]; exact tx
      · exact ht t z
theorem lst5 {a b c d e : SE} {s : SL} {M : Store} {x1 x2 x3 x4 x5 : Va} (h1 : a s M = some (.val x1, M)) (h2 : b s M = some (.val x2, M)) (h3 : c s M = some (.val x3, M)) (h4 : d s M = some (.val x4, M)) (h5 : e s M = some (.val x5, M)) : evL kLst (evCons a (evCons b (evCons c (evCons d (evCons e evNil))))) s M = some (.val (.lst [x1, x2, x3, x4, x5]), M) := by
  rw [x_L, x_cons, h1, bindO_val, x_cons, h2, bindO_val, x_cons, h3, bindO_val, x_cons, h4, bindO_val, x_cons, h5, bindO_val, x_nil, bindO_val, bindO_val, bindO_val, bindO_val, bindO_val, bindO_val]
  dsimp only
  rw [x_lst, if_pos (by show 5 ≤ sizeLine; decide)]
theorem lst4 {a b c d : SE} {s : SL} {M : Store} {x1 x2 x3 x4 : Va} (h1 : a s M = some (.val x1, M)) (h2 : b s M = some (.val x2, M)) (h3 : c s M = some (.val x3, M)) (h4 : d s M = some (.val x4, M)) : evL kLst (evCons a (evCons b (evCons c (evCons d evNil)))) s M = some (.val (.lst [x1, x2, x3, x4]), M) := by
  rw [x_L, x_cons, h1, bindO_val, x_cons, h2, bindO_val, x_cons, h3, bindO_val, x_cons, h4, bindO_val, x_nil, bindO_val, bindO_val, bindO_val, bindO_val, bindO_val]
  dsimp only
  rw [x_lst, if_pos (by show 4 ≤ sizeLine; decide)]
theorem addE {a b : SE} {s : SL} {M : Store} {x y : Str} (h1 : a s M = some (.val (.str x), M)) (h2 : b s M = some (.val (.str y), M)) (hl : x.length + y.length ≤ 100000) : ev2 opAdd a b s M = some (.val (.str (x ++ y)), M) := by
  rw [x_2, h1, bindO_val, h2, bindO_val, y_addS (by omega)]
theorem mul2E {a b : SE} {s : SL} {M : Store} {x : Str} {k : Int} (h1 : a s M = some (.val (.str x), M)) (h2 : b s M = some (.val (.int k), M)) (hk : 2 ≤ k ∧ k ≤ 1000 ∧ x.length ≤ 1000) : ev2 opMul2 a b s M = some (.val (.str (repS x k)), M) := by
  have e : opMul M (.str x) (.int k) = none := rfl
  have : opMul2 M (.str x) (.int k) = some (.str (repS x k)) := by
    unfold opMul2
    rw [e]
    dsimp only
    rw [if_pos hk]
  rw [x_2, h1, bindO_val, h2, bindO_val, this]
theorem setAt_val {e eo ei : SE} {s : SL} {M M1 M2 M3 M4 : Store} {v o i : Va} (he : e s M = some (.val v, M1)) (ho : eo s M1 = some (.val o, M2)) (hi : ei s M2 = some (.val i, M3)) (hg : cSetAt o i v M3 = some M4) : sSub e eo ei cSetAt s M = some (.nx, s, M4) := by
  rw [x_sub]
  simp [sE, he, ho, hi, hg]
theorem catL {M : Store} {l m : List Str} (h : l.length + m.length ≤ 1000) : opAdd M (.lst (l.map Va.str)) (.lst (m.map Va.str)) = some (.lst ((l ++ m).map Va.str)) := by
  unfold opAdd
  dsimp only
  rw [List.map_append]
  first
  | (rw [(LstAt.lst _).own, (LstAt.lst _).own]; dsimp only; rw [if_pos (le_line (by rw [List.length_map, List.length_map]; omega))])
  | (rw [if_pos (le_line (by rw [List.length_map, List.length_map]; omega))])
end Lw

set_option Elab.async false
set_option linter.all false
set_option maxRecDepth 100000
set_option maxHeartbeats 4000000
set_option exponentiation.threshold 3000
namespace Lw
open PySem L2 PV
theorem odd_text {M : Store} {w b : Nat} {ds : List Dd} (wl : Wl M w b) (hb : b < 2 ^ 35) (hd : ∀ d ∈ ds, DOk d) (hl : ds.length ≤ 8) (hne : ds ≠ []) : ∃ (z : Str) (M' : Store), c__law_odd_text [.cel w, .lst (ds.map dV)] M = some (.val (.str z), M') ∧ TX 4000 z := by
  have hw := wl.lt
  let D : Va := .lst (ds.map dV)
  let S0 : SL := [some (.cel w), some D, none, none, none, none, none, none, none, none, none]
  obtain ⟨cs, M1, e1, cl, hc, w1, n1, _⟩ := rows_lc (w := w) (S := S0) (fun _ _ => rfl) ds M b hd wl
  let S2 : SL := [some (.cel w), some D, some (.lst (cs.map Va.cel)), none, none, none, none, none, none, none, none]
  have b1 : sSet 2 (evLc (itA (evVar 1)) (tgName 9) evYes (evM2 isStrA kSplitC (evL (kFn 1 c__law_run_text) (evCons (evL kLst (evCons (evVar 9) evNil)) evNil)) (evCons (evC (.str " ")) evNil)) [9]) S0 M = some (.nx, S2, M1) := by
    refine set_val (v := .lst (cs.map Va.cel)) ?_
    rw [z_lc, z_itA, show evVar 1 S0 M = some (.val (.lst (ds.map dV)), M) from rfl, z_anyL]
    dsimp only
    rw [show wipeI S0 [9] = S0 from rfl, e1]
  have cpos : 0 < cs.length := by rw [cl]; exact List.length_pos_iff.mpr hne
  have l2 : evL (kPure gLen) (evCons (evVar 2) evNil) S2 M1 = some (.val (.int (cs.length : Nat)), M1) := by
    have := (LstAt.lst (M := M1) (cs.map Va.cel)).len
    rw [List.length_map] at this
    rw [x_L, x_cons, show evVar 2 S2 M1 = some (.val (.lst (cs.map Va.cel)), M1) from rfl, bindO_val, x_nil, bindO_val, bindO_val]
    dsimp only
    rw [x_kPure, this]
  obtain ⟨r, M2, e2, r0, r1, w2, k2⟩ := drawE w1 (by omega) (cs.length : Nat) (by omega) (by omega) (s := S2) (i := 0) (fun _ => rfl) l2
  obtain ⟨y, ey, hy, _⟩ := at_nat (l := cs.map Va.cel) r0 (by rw [List.length_map]; exact r1)
  obtain ⟨c, hcm, rfl⟩ := List.mem_map.mp hy
  let S3 : SL := [some (.cel w), some D, some (.lst (cs.map Va.cel)), some (.cel c), none, none, none, none, none, none, none]
  have b2 : sSet 3 (ev2 opIx (evVar 2) (evL (kFn 2 c__law_draw) (evCons (evVar 0) (evCons (evL (kPure gLen) (evCons (evVar 2) evNil)) evNil)))) S2 M1 = some (.nx, S3, M2) := by
    refine set_val (v := .cel c) ?_
    rw [x_2, show evVar 2 S2 M1 = some (.val (.lst (cs.map Va.cel)), M1) from rfl, bindO_val, e2, bindO_val, y_ixL, ey]
  obtain ⟨q, M3, e3, q0, q1, w3, k3⟩ := drawE w2 (by omega) 2 (by omega) (by omega) (s := S3) (i := 0) (e := evC (.int 2)) (fun _ => rfl) rfl
  obtain ⟨q, rfl⟩ : ∃ m : Nat, q = m := ⟨q.toNat, by omega⟩
  let S := fun (s5 s6 s7 s8 : Option Va) => ([some (.cel w), some D, some (.lst (cs.map Va.cel)), some (.cel c), some (.int (1 + (q : Nat))), s5, s6, s7, s8, none, none] : SL)
  have b3 : sSet 4 (ev2 opAdd (evC (.int 1)) (evL (kFn 2 c__law_draw) (evCons (evVar 0) (evCons (evC (.int 2)) evNil)))) S3 M2 = some (.nx, S none none none none, M3) := by
    refine set_val (v := .int (1 + (q : Nat))) ?_
    rw [x_2, x_c, bindO_val, e3, bindO_val, y_add]
  have stay : ∀ {N N' : Store}, Kp N N' w → M1.nx ≤ N.nx → ∀ c' ∈ cs, N'.c c' = N.c c' := fun k hn c' hc' => by
    obtain ⟨_, g2, g3⟩ := hc c' hc'
    exact k.kp c' (by omega) (by omega)
  have n3 : M1.nx ≤ M3.nx := Nat.le_trans k2.nx k3.nx
  have same3 : ∀ c' ∈ cs, M3.c c' = M1.c c' := fun c' hc' => (stay k3 k2.nx c' hc').trans (stay k2 (Nat.le_refl _) c' hc')
  obtain ⟨⟨l, h1, h2, h3, h4⟩, g2, g3⟩ := hc c hcm
  have c3 : M3.c c = some (.lst (l.map Va.str)) := (same3 c hcm).trans h1
  have hq : 1 + q < l.length := by omega
  let wd := l[1 + q]
  have hwm : wd ∈ l := List.getElem_mem hq
  have hwl : wd.length ≤ 125 := by
    have := le_sum (List.mem_map_of_mem (f := (·.length)) hwm)
    unfold mu at h3
    omega
  have wT : TX 125 wd := ⟨hwl, h4 wd hwm⟩
  have atw : ∀ s5 s6 s7 s8, ev2 opIx (evVar 3) (evVar 4) (S s5 s6 s7 s8) M3 = some (.val (.str wd), M3) := fun s5 s6 s7 s8 => by
    obtain ⟨y, p1, _, p2⟩ := at_nat (l := l.map Va.str) (i := ((1 + q : Nat) : Int)) (by omega) (by rw [List.length_map]; omega)
    rw [Int.toNat_natCast, List.getElem?_map, List.getElem?_eq_getElem hq] at p2
    have p2 : some (Va.str wd) = some y := p2
    cases p2
    rw [x_2, show evVar 3 (S s5 s6 s7 s8) M3 = some (.val (.cel c), M3) from rfl, bindO_val, show evVar 4 (S s5 s6 s7 s8) M3 = some (.val (.int (1 + (q : Nat))), M3) from rfl, bindO_val, (LstAt.cel c3).ix, show (1 : Int) + (q : Nat) = ((1 + q : Nat) : Int) by omega, p1]
  have cond : evTru (evL (kFn 1 c__law_is_number) (evCons (ev2 opIx (evVar 3) (evVar 4)) evNil)) (S none none none none) M3 = some (.val (.bl (decide (Nu wd))), M3) := by
    rw [x_tru, call1 (atw _ _ _ _) (law_is_number (by omega))]; rfl
  -- a word is written otherwise
  have put : ∀ (os : List Str) (s5 s6 s8 : Option Va), os.length = 9 → (∀ o ∈ os, TX 200 o) → ∃ (o : Str) (M4 : Store), sSub (ev2 opIx (evVar 7) (evL (kFn 2 c__law_draw) (evCons (evVar 0) (evCons (evC (.int 9)) evNil)))) (evVar 3) (evVar 4) cSetAt (S s5 s6 (some (.lst (os.map Va.str))) s8) M3 = some (.nx, S s5 s6 (some (.lst (os.map Va.str))) s8, M4) ∧ ∀ c' ∈ cs, Row M4 330 c' := fun os s5 s6 s8 ho hT => by
    obtain ⟨r, M4, e4, r0, r1, w4, k4⟩ := drawE w3 (by omega) 9 (by omega) (by omega) (s := S s5 s6 (some (.lst (os.map Va.str))) s8) (i := 0) (e := evC (.int 9)) (fun _ => rfl) rfl
    obtain ⟨y, ey, hy, _⟩ := at_nat (l := os.map Va.str) r0 (by rw [List.length_map, ho]; exact r1)
    obtain ⟨o, hom, rfl⟩ := List.mem_map.mp hy
    have oT := hT o hom
    have c4 : M4.c c = some (.lst (l.map Va.str)) := (stay k4 n3 c hcm).trans c3
    have sg : cSetAt (.cel c) (.int (1 + (q : Nat))) (.str o) M4 = some (M4.put c (.lst ((l.set (1 + q) o).map Va.str))) := by
      unfold cSetAt
      dsimp only
      rw [c4]
      dsimp only
      have : ixN (l.map Va.str).length ((1 : Int) + (q : Nat)) = some (1 + q) := by
        unfold ixN
        rw [if_pos (by omega), if_pos (by rw [List.length_map]; omega)]
        exact congrArg some (by omega)
      rw [this]
      dsimp only
      rw [set_map]
    refine ⟨o, _, setAt_val (v := .str o) (o := .cel c) (i := .int (1 + (q : Nat))) (M1 := M4) (M2 := M4) (M3 := M4) ?_ rfl rfl sg, fun c' hc' => ?_⟩
    · rw [x_2, show evVar 7 (S s5 s6 (some (.lst (os.map Va.str))) s8) M3 = some (.val (.lst (os.map Va.str)), M3) from rfl, bindO_val, e4, bindO_val, y_ixL, ey]
    · by_cases e : c' = c
      · rw [e]
        refine ⟨l.set (1 + q) o, put_same, by rw [List.length_set]; exact h2, ?_, fun p hp => ?_⟩
        · have := set_mu (l := l) (k := 1 + q) (y := o)
          have := oT.1
          omega
        · rcases List.mem_or_eq_of_mem_set hp with z | z
          · exact h4 p z
          · rw [z]; exact oT.2
      · obtain ⟨⟨l', g1, g2, g3, g4⟩, _⟩ := hc c' hc'
        exact ⟨l', (put_ne e).trans ((stay k4 n3 c' hc').trans ((same3 c' hc').trans g1)), g2, by omega, g4⟩
  have fin : ∀ (T : SL) (M4 : Store), evVar 2 T M4 = some (.val (.lst (cs.map Va.cel)), M4) → wipeI T [10] = T → (∀ x, evVar 10 (T.set 10 (some x)) M4 = some (.val x, M4)) → (∀ c' ∈ cs, Row M4 330 c') → ∃ z, sRet (evM2 isStrA (kVal gJoin) (evC (.str "; ")) (evCons (evLc (itA (evVar 2)) (tgName 10) evYes (evM2 isStrA (kVal gJoin) (evC (.str " ")) (evCons (evVar 10) evNil)) [10]) evNil)) T M4 = some (.ret (.str z), T, M4) ∧ TX 4000 z := fun T M4 hv hwp h10 hr => by
    obtain ⟨ts, e, tl', ht⟩ := join_lc (S := T) (N := M4) h10 cs hr
    have tx := join_txG mk_semi (ps := ts) (fun p hp => (ht p hp).2)
    have sm : (ts.map (·.length)).sum ≤ 330 * ts.length := by
      have : ∀ (ts : List Str), (∀ t ∈ ts, TX 330 t) → (ts.map (·.length)).sum ≤ 330 * ts.length := fun ts => by
        induction ts with
        | nil => intro _; simp
        | cons a ts ih =>
          intro h
          have h1 := (h a (by simp)).1
          have h2 := ih fun t q => h t (by simp [q])
          rw [List.map_cons, List.sum_cons, List.length_cons]
          omega
      exact this ts ht
    have tl8 : ts.length ≤ 8 := by rw [tl', cl]; exact hl
    refine ⟨Txt.join "; " ts, ret_val ?_, tx.up (by omega)⟩
    rw [x_M2, x_c, bindO_val, if_pos (show isStrA M4 (Va.str "; ") = true from rfl), x_cons, z_lc, z_itA, hv, z_anyL]
    dsimp only
    rw [hwp, e]
    dsimp only
    rw [bindO_val, x_nil, bindO_val, bindO_val]
    dsimp only
    rw [x_kVal]
    unfold gJoin
    dsimp only
    rw [y_seqL]
    dsimp only
    rw [strsOf_mapT]
    dsimp only
    rw [if_pos (by show _ + ts.length * 2 ≤ _; omega)]
  unfold c__law_odd_text runF m__law_odd_text
  rw [show startI 11 [Va.cel w, .lst (ds.map dV)] = S0 from rfl]
  by_cases hnu : Nu wd
  · rw [decide_eq_true hnu] at cond
    let dg' := Txt.lstripChars wd "-"
    have dT : TX 125 dg' := lstrip_tx wT
    have dl := dT.1
    let sx := repS "1234567890" 6
    have sT : TX 60 sx := ⟨by decide, fun c hc => (show ∀ c ∈ tl ("1234567890" : Str), c < 128 by decide) c (rep_mem hc)⟩
    have sl := sT.1
    have T1 : ∀ {t : Str}, TX 2 t → TX 200 (t ++ dg') := fun h => (cat_tx h dT).up (by decide)
    let os1 : List Str := ["+" ++ dg', "0" ++ dg', "-0", "-0" ++ dg', "--" ++ dg']
    let os2 : List Str := [sx, sx ++ "1", "-" ++ sx, dg' ++ "."]
    let A5 := S (some (.str dg')) none none none
    let A6 := S (some (.str dg')) (some (.str sx)) none none
    let A7 := S (some (.str dg')) (some (.str sx)) (some (.lst (os1.map Va.str))) none
    have s5 : sSet 5 (evM2 isStrA (kVal gLstrip) (ev2 opIx (evVar 3) (evVar 4)) (evCons (evC (.str "-")) evNil)) (S none none none none) M3 = some (.nx, A5, M3) := by
      refine set_val (v := .str dg') ?_
      rw [x_M2, atw, bindO_val, if_pos (show isStrA M3 (Va.str wd) = true from rfl), x_cons, x_c, bindO_val, x_nil, bindO_val, bindO_val]
      dsimp only
      rw [x_kVal]
      unfold gLstrip
      dsimp only
      rw [if_pos (le_line (by omega))]
    have s6 : sSet 6 (ev2 opMul2 (evC (.str "1234567890")) (evC (.int 6))) A5 M3 = some (.nx, A6, M3) := set_val (mul2E rfl rfl ⟨by omega, by omega, by decide⟩)
    have cE : ∀ (x : Va) (T : SL), evC x T M3 = some (.val x, M3) := fun _ _ => rfl
    have s7 : sSet 7 (evL kLst (evCons (ev2 opAdd (evC (.str "+")) (evVar 5)) (evCons (ev2 opAdd (evC (.str "0")) (evVar 5)) (evCons (evC (.str "-0")) (evCons (ev2 opAdd (evC (.str "-0")) (evVar 5)) (evCons (ev2 opAdd (evC (.str "--")) (evVar 5)) evNil)))))) A6 M3 = some (.nx, A7, M3) := by
      have ad : ∀ t : Str, t.length ≤ 2 → ev2 opAdd (evC (.str t)) (evVar 5) A6 M3 = some (.val (.str (t ++ dg')), M3) := fun t ht => addE rfl rfl (by omega)
      exact set_val (lst5 (ad "+" (by decide)) (ad "0" (by decide)) rfl (ad "-0" (by decide)) (ad "--" (by decide)))
    have s7b : sSet 7 (ev2 opAdd (evVar 7) (evL kLst (evCons (evVar 6) (evCons (ev2 opAdd (evVar 6) (evC (.str "1"))) (evCons (ev2 opAdd (evC (.str "-")) (evVar 6)) (evCons (ev2 opAdd (evVar 5) (evC (.str "."))) evNil)))))) A7 M3 = some (.nx, S (some (.str dg')) (some (.str sx)) (some (.lst ((os1 ++ os2).map Va.str))) none, M3) := by
      refine set_val (v := .lst ((os1 ++ os2).map Va.str)) ?_
      have z1 : ("1" : Str).length = 1 := by decide
      have z2 : ("-" : Str).length = 1 := by decide
      have z3 : ("." : Str).length = 1 := by decide
      have l4 := lst4 (a := evVar 6) (b := ev2 opAdd (evVar 6) (evC (.str "1"))) (c := ev2 opAdd (evC (.str "-")) (evVar 6)) (d := ev2 opAdd (evVar 5) (evC (.str "."))) (s := A7) (M := M3) (x1 := .str sx) (x2 := .str (sx ++ "1")) (x3 := .str ("-" ++ sx)) (x4 := .str (dg' ++ ".")) rfl (addE rfl rfl (by rw [z1]; omega)) (addE rfl rfl (by rw [z2]; omega)) (addE rfl rfl (by rw [z3]; omega))
      rw [x_2, show evVar 7 A7 M3 = some (.val (.lst (os1.map Va.str)), M3) from rfl, bindO_val, l4, bindO_val]
      rw [show ([Va.str sx, .str (sx ++ "1"), .str ("-" ++ sx), .str (dg' ++ ".")] : List Va) = os2.map Va.str from rfl, catL (by show 5 + 4 ≤ 1000; omega)]
    obtain ⟨o, M4, e4, hr⟩ := put (os1 ++ os2) (some (.str dg')) (some (.str sx)) none rfl (fun o ho => by
      have : o = "+" ++ dg' ∨ o = "0" ++ dg' ∨ o = "-0" ∨ o = "-0" ++ dg' ∨ o = "--" ++ dg' ∨ o = sx ∨ o = sx ++ "1" ∨ o = "-" ++ sx ∨ o = dg' ++ "." := by simpa [os1, os2] using ho
      rcases this with q | q | q | q | q | q | q | q | q <;> rw [q]
      · exact T1 (by unfold TX; decide)
      · exact T1 (by unfold TX; decide)
      · exact (show TX 2 "-0" by unfold TX; decide).up (by decide)
      · exact T1 (by unfold TX; decide)
      · exact T1 (by unfold TX; decide)
      · exact sT.up (by decide)
      · exact (cat_tx sT (show TX 2 "1" by unfold TX; decide)).up (by decide)
      · exact (cat_tx (show TX 2 "-" by unfold TX; decide) sT).up (by decide)
      · exact (cat_tx dT (show TX 2 "." by unfold TX; decide)).up (by decide))
    obtain ⟨z, e5, tx⟩ := fin (S (some (.str dg')) (some (.str sx)) (some (.lst ((os1 ++ os2).map Va.str))) none) M4 rfl rfl (fun _ => rfl) hr
    refine ⟨z, M4, end_ret (seq_nx b1 (seq_nx b2 (seq_nx b3 (seq_nx (s1 := S (some (.str dg')) (some (.str sx)) (some (.lst ((os1 ++ os2).map Va.str))) none) (M1 := M4) ?_ e5)))), tx⟩
    rw [x_sIf, cond]
    exact seq_nx s5 (seq_nx s6 (seq_nx s7 (seq_nx s7b e4)))
  · rw [decide_eq_false hnu] at cond
    let A8 := S none none none (some (.str wd))
    have s8 : sSet 8 (ev2 opIx (evVar 3) (evVar 4)) (S none none none none) M3 = some (.nx, A8, M3) := set_val (atw _ _ _ _)
    have r9 := rep_len (a := wd) (k := 9) (by omega) (by omega)
    have r8 := rep_len (a := wd) (k := 8) (by omega) (by omega)
    have cutT : ∀ (x : Str) (k : Nat), (∀ c ∈ tl x, c < 128) → TX k (cutS x none (some (k : Int))) := fun x k hx => by
      have e := cutS_to (z := x) k
      refine ⟨by rw [tl_len, e, List.length_take]; omega, fun c hc => hx c ?_⟩
      rw [e] at hc
      exact List.mem_of_mem_take hc
    have slE : ∀ (ex : SE) (x : Str) (k : Nat) (T : SL), ex T M3 = some (.val (.str x), M3) → x.length ≤ 16777216 → evSl ex (evC .non) (evB (evC (.int k))) T M3 = some (.val (.str (cutS x none (some (k : Int)))), M3) := fun ex x k T hx hl => by
      have o : opSl M3 (.str x) none (some (k : Int)) = some (.str (cutS x none (some (k : Int)))) := if_pos (le_line hl)
      simp [hx, boundOf, o]
    let n9 := cutS (repS wd 9) none (some ((9 : Nat) : Int))
    let n8 := cutS (repS wd 8) none (some ((8 : Nat) : Int))
    let n7 := cutS wd none (some ((7 : Nat) : Int))
    have t9 : TX 9 n9 := cutT _ 9 fun c hc => wT.2 c (rep_mem hc)
    have t8 : TX 8 n8 := cutT _ 8 fun c hc => wT.2 c (rep_mem hc)
    have t7 : TX 7 n7 := cutT _ 7 wT.2
    have up := upper_tx wT
    let os1 : List Str := [n9, n8, Txt.upper wd, "", wd ++ "1"]
    let os2 : List Str := [n7 ++ "Z", "new", "step", wd ++ "-"]
    let A7 := S none none (some (.lst (os1.map Va.str))) (some (.str wd))
    have uE : evM2 isStrA (kVal gUpper) (evVar 8) evNil A8 M3 = some (.val (.str (Txt.upper wd)), M3) := by
      rw [x_M2, show evVar 8 A8 M3 = some (.val (.str wd), M3) from rfl, bindO_val, if_pos (show isStrA M3 (Va.str wd) = true from rfl), x_nil, bindO_val]
      dsimp only
      rw [x_kVal]
      unfold gUpper
      dsimp only
      rw [if_pos (by omega)]
    have one : ∀ t : Str, t.length ≤ 1 → wd.length + t.length ≤ 100000 := fun t ht => by omega
    have s7 : sSet 7 (evL kLst (evCons (evSl (ev2 opMul2 (evVar 8) (evC (.int 9))) (evC .non) (evB (evC (.int 9)))) (evCons (evSl (ev2 opMul2 (evVar 8) (evC (.int 8))) (evC .non) (evB (evC (.int 8)))) (evCons (evM2 isStrA (kVal gUpper) (evVar 8) evNil) (evCons (evC (.str "")) (evCons (ev2 opAdd (evVar 8) (evC (.str "1"))) evNil)))))) A8 M3 = some (.nx, A7, M3) :=
      set_val (lst5 (slE _ _ 9 _ (mul2E rfl rfl ⟨by omega, by omega, by omega⟩) r9) (slE _ _ 8 _ (mul2E rfl rfl ⟨by omega, by omega, by omega⟩) r8) uE rfl (addE rfl rfl (one "1" (by decide))))
    have s7b : sSet 7 (ev2 opAdd (evVar 7) (evL kLst (evCons (ev2 opAdd (evSl (evVar 8) (evC .non) (evB (evC (.int 7)))) (evC (.str "Z"))) (evCons (evC (.str "new")) (evCons (evC (.str "step")) (evCons (ev2 opAdd (evVar 8) (evC (.str "-"))) evNil)))))) A7 M3 = some (.nx, S none none (some (.lst ((os1 ++ os2).map Va.str))) (some (.str wd)), M3) := by
      refine set_val (v := .lst ((os1 ++ os2).map Va.str)) ?_
      have hz : ("Z" : Str).length = 1 := by decide
      have l4 := lst4 (a := ev2 opAdd (evSl (evVar 8) (evC .non) (evB (evC (.int 7)))) (evC (.str "Z"))) (b := evC (.str "new")) (c := evC (.str "step")) (d := ev2 opAdd (evVar 8) (evC (.str "-"))) (s := A7) (M := M3) (x1 := .str (n7 ++ "Z")) (x2 := .str "new") (x3 := .str "step") (x4 := .str (wd ++ "-")) (addE (slE (evVar 8) wd 7 A7 rfl (by omega)) rfl (by have := t7.1; rw [hz]; omega)) rfl rfl (addE rfl rfl (one "-" (by decide)))
      rw [x_2, show evVar 7 A7 M3 = some (.val (.lst (os1.map Va.str)), M3) from rfl, bindO_val, l4, bindO_val]
      rw [show ([Va.str (n7 ++ "Z"), .str "new", .str "step", .str (wd ++ "-")] : List Va) = os2.map Va.str from rfl, catL (by show 5 + 4 ≤ 1000; omega)]
    obtain ⟨o, M4, e4, hr⟩ := put (os1 ++ os2) none none (some (.str wd)) rfl (fun o ho => by
      have : o = n9 ∨ o = n8 ∨ o = Txt.upper wd ∨ o = "" ∨ o = wd ++ "1" ∨ o = n7 ++ "Z" ∨ o = "new" ∨ o = "step" ∨ o = wd ++ "-" := by simpa [os1, os2] using ho
      rcases this with q | q | q | q | q | q | q | q | q <;> rw [q]
      · exact t9.up (by decide)
      · exact t8.up (by decide)
      · exact up.up (by decide)
      · exact (show TX 2 "" by unfold TX; decide).up (by decide)
      · exact (cat_tx wT (show TX 2 "1" by unfold TX; decide)).up (by decide)
      · exact (cat_tx t7 (show TX 2 "Z" by unfold TX; decide)).up (by decide)
      · exact (show TX 4 "new" by unfold TX; decide).up (by decide)
      · exact (show TX 4 "step" by unfold TX; decide).up (by decide)
      · exact (cat_tx wT (show TX 2 "-" by unfold TX; decide)).up (by decide))
    obtain ⟨z, e5, tx⟩ := fin (S none none (some (.lst ((os1 ++ os2).map Va.str))) (some (.str wd))) M4 rfl rfl (fun _ => rfl) hr
    refine ⟨z, M4, end_ret (seq_nx b1 (seq_nx b2 (seq_nx b3 (seq_nx (s1 := S none none (some (.lst ((os1 ++ os2).map Va.str))) (some (.str wd))) (M1 := M4) ?_ e5)))), tx⟩
    rw [x_sIf, cond]
    exact seq_nx s8 (seq_nx s7 (seq_nx s7b e4))
end Lw

set_option Elab.async false
set_option linter.all false
set_option maxRecDepth 100000
set_option maxHeartbeats 4000000
set_option exponentiation.threshold 3000
namespace Lw
open PySem L2 PV
theorem ds_eq_nil {M : Store} {ds : List Dd} (h : ∀ d ∈ ds, DOk d) : opEq M (.lst (ds.map dV)) (.lst []) = some (.bl (decide (ds = []))) := by
  have e0 : ds.map dV = (ds.map some).map dO := by rw [List.map_map]; rfl
  have e2 : ds.map dPd = (ds.map some).map oPd := by rw [List.map_map]; rfl
  obtain ⟨h1, h2⟩ := os_lay (os := ds.map some) fun d hd => by
    obtain ⟨d', hd', e⟩ := List.mem_map.mp hd
    injection e with e
    rw [← e]; exact (h d' hd').nm
  rw [← e2] at h1 h2
  unfold opEq
  have es : eqS (.lst (ds.map dV)) (.lst []) = none := (LstAt.lst (M := M) (ds.map dV)).eqS_nil
  rw [es]
  have ep : eqP M (.lst (ds.map dV)) (.lst []) = some (decide (ds = [])) := by
    unfold eqP
    rw [pdOf_eq (.lst rfl (ds_reads ds)), pdOf_eq (.lst rfl .nil)]
    dsimp only
    have s1 : SeqAt.shaped (.list (ds.map dPd)) = true := by
      unfold SeqAt.shaped
      simp only [PyData.canLay0, PyData.depth, h1]
      simp; omega
    have s2 : SeqAt.shaped (.list []) = true := by simp [SeqAt.shaped, PyData.canLay0, PyData.canLayAll0, PyData.depth, PyData.depthAll]
    rw [if_pos ⟨s1, s2⟩]
    cases ds with
    | nil => simp [PyData.eqv, PyData.eqvAll]
    | cons d t => simp [PyData.eqv, PyData.eqvAll]
  rw [ep]
  try rfl
theorem ys_ds : ∀ {ys : List Va}, (∀ y ∈ ys, ∃ d, y = dV d ∧ DOk d) → ∃ ds : List Dd, ys = ds.map dV ∧ ds.length = ys.length ∧ ∀ d ∈ ds, DOk d
  | [], _ => ⟨[], rfl, rfl, fun _ z => nomatch z⟩
  | y :: ys, h => by
    obtain ⟨d, rfl, hd⟩ := h y (by simp)
    obtain ⟨ds, e, l, a⟩ := ys_ds (ys := ys) fun z hz => h z (by simp [hz])
    refine ⟨d :: ds, by rw [e]; rfl, by rw [List.length_cons, List.length_cons, l], fun q hq => ?_⟩
    rcases List.mem_cons.mp hq with z | z
    · rw [z]; exact hd
    · exact a q z
theorem asked_loop {w : Nat} {D : Va} {z : Str} (hz : TX 992 z) : ∀ (xs : List Va) (o : Option Va) (M : Store) (b : Nat), Wl M w b → b + 50 * xs.length < 2 ^ 34 →
    ∃ (o' : Option Va) (M' : Store), loopF (fun _ => True) (tgName 3) (sIf (evOr (evNot (evTru (evL (kFn 1 c__law_asked_right) (evCons (evL (kFn 2 c__law_spoiled) (evCons (evVar 0) (evCons (evVar 2) evNil))) evNil)))) (evNot (evTru (evL (kFn 1 c__law_asked_right) (evCons (evVar 2) evNil))))) (sRet (evC (.bl false))) sNx) xs [some (.cel w), some D, some (.str z), o, none] M = some (.nx, [some (.cel w), some D, some (.str z), o', none], M') ∧ Wl M' w (b + 50 * xs.length)
  | [], o, M, b, wl, _ => ⟨o, M, loop_nil trivial, by simpa using wl⟩
  | x :: xs, o, M, b, wl, hb => by
    rw [List.length_cons] at hb
    let S : SL := [some (.cel w), some D, some (.str z), some x, none]
    obtain ⟨z', M1, e1, tx, w1⟩ := spoiled wl (by omega) hz
    have c1 := tru_not (call1 (call2 (a := evVar 0) (b := evVar 2) (s := S) (x := .cel w) (y := .str z) (M := M) (M1 := M) (M2 := M) rfl rfl e1) (asked_right (M := M1) tx))
    have c2 := tru_not (call1 (a := evVar 2) (s := S) (x := .str z) (M := M1) (M1 := M1) rfl (asked_right (M := M1) (hz.up (by decide))))
    have b1 : sIf (evOr (evNot (evTru (evL (kFn 1 c__law_asked_right) (evCons (evL (kFn 2 c__law_spoiled) (evCons (evVar 0) (evCons (evVar 2) evNil))) evNil)))) (evNot (evTru (evL (kFn 1 c__law_asked_right) (evCons (evVar 2) evNil))))) (sRet (evC (.bl false))) sNx S M = some (.nx, S, M1) := by
      have c : evOr (evNot (evTru (evL (kFn 1 c__law_asked_right) (evCons (evL (kFn 2 c__law_spoiled) (evCons (evVar 0) (evCons (evVar 2) evNil))) evNil)))) (evNot (evTru (evL (kFn 1 c__law_asked_right) (evCons (evVar 2) evNil)))) S M = some (.val (.bl false), M1) := by
        rw [x_or, c1, bindO_val]
        exact c2
      rw [x_sIf, c]
      rfl
    obtain ⟨o', M', e2, w2⟩ := asked_loop hz xs (some x) M1 (b + 50) w1 (by omega)
    exact ⟨o', M', loop_nx (s1 := S) (s2 := S) (M2 := M1) trivial rfl b1 e2, w2.mono (by rw [List.length_cons]; omega)⟩
theorem right {M : Store} {w : Nat} (h : Wl M w 0) : ∃ M', c__law_right [.cel w] M = some (.val (.bl true), M') := by
  let Z : SL := [some (.cel w), none, none, none, none]
  obtain ⟨r, M1, e1, r0, r1, w1, k1⟩ := drawE h (by omega) 9 (by omega) (by omega) (s := Z) (i := 0) (e := evC (.int 9)) (fun _ => rfl) rfl
  obtain ⟨ys, M2, e2, al, w2⟩ := compL_inv (chk := fun _ => True) (tg := tgName 3) (tt := evYes) (te := evL (kFn 1 c__law_wild) (evCons (evVar 0) evNil)) (sw := Z) (fun i M => Wl M w (1 + 40 * i)) (fun _ y => ∃ d, y = dV d ∧ DOk d) r.toNat ((List.range r.toNat).map fun (i : Nat) => Va.int i) 0 M1 (by simp) (w1.mono (by omega)) (fun _ _ _ => trivial) (fun i y N hi hy hN => by
    obtain ⟨d, N', e, d1, d2, h', k'⟩ := wild hN (by omega)
    exact ⟨_, rfl, rfl, dV d, N', call1 (x := .cel w) (M1 := N) rfl e, ⟨d, rfl, d1, d2⟩, h'.mono (by omega)⟩)
  obtain ⟨ds, rfl, dl, hd⟩ := ys_ds (ys := ys) (fun y hy => al.all (Q := fun y => ∃ d, y = dV d ∧ DOk d) (fun _ _ h => h) y hy)
  have hl : ds.length ≤ 8 := by have := al.len; simp at this; omega
  have tx := rtx_tx2 hd hl
  let D : Va := .lst (ds.map dV)
  have b1 : sSet 1 (evLc (itR1 (evCons (evL (kFn 2 c__law_draw) (evCons (evVar 0) (evCons (evC (.int 9)) evNil))) evNil)) (tgName 3) evYes (evL (kFn 1 c__law_wild) (evCons (evVar 0) evNil)) [3]) Z M = some (.nx, [some (.cel w), some D, none, none, none], M2) := by
    refine set_val (v := D) ?_
    rw [z_lc, z_itR1, x_cons, e1, bindO_val, x_nil, bindO_val]
    dsimp only
    rw [z_rng (by omega) (by omega)]
    dsimp only
    rw [show wipeI Z [3] = Z from rfl, e2]
  have b2 : sSet 2 (evL (kFn 1 c__law_run_text) (evCons (evVar 1) evNil)) [some (.cel w), some D, none, none, none] M2 = some (.nx, [some (.cel w), some D, some (.str (rtx ds)), none, none], M2) := set_val (call1 (x := D) (M1 := M2) rfl (run_text hd hl))
  obtain ⟨o, M3, e3, w3⟩ := asked_loop (w := w) (D := D) tx ((List.range 4).map fun (i : Nat) => Va.int i) none M2 _ w2 (by simp; omega)
  let S : SL := [some (.cel w), some D, some (.str (rtx ds)), o, none]
  have it : itR1 (evCons (evC (.int 4)) evNil) [some (.cel w), some D, some (.str (rtx ds)), none, none] M2 = some (.it ((List.range 4).map fun (i : Nat) => Va.int i) (fun _ => True), M2) := by
    rw [z_itR1, x_cons, x_c, bindO_val, x_nil, bindO_val]
    dsimp only
    rw [z_rng (by omega) (by omega)]
    try rfl
  have b3 := for_it it e3
  have cond : ev2 opEq (evVar 1) (evL kLst evNil) S M3 = some (.val (.bl (decide (ds = []))), M3) := by
    rw [x_2, show evVar 1 S M3 = some (.val (.lst (ds.map dV)), M3) from rfl, bindO_val, show evL kLst evNil S M3 = some (.val (.lst []), M3) from rfl, bindO_val, ds_eq_nil hd]
  unfold c__law_right runF m__law_right
  rw [show startI 5 [Va.cel w] = Z from rfl]
  by_cases hn : ds = []
  · rw [decide_eq_true hn] at cond
    refine ⟨M3, end_ret (s1 := S) (seq_nx b1 (seq_nx b2 (seq_nx b3 (seq_ret ?_))))⟩
    rw [x_sIf, cond]
    refine ret_val ?_
    let ts : List Str := [" ", "; ", "columns", "columns a; check [1]"]
    have cm := compL_map (M := M3) (chk := fun _ => True) (tg := tgName 4) (tt := evYes) (te := evL (kFn 1 c__law_asked_right) (evCons (evVar 4) evNil)) (sw := S) Va.str (fun _ => Va.bl true) trivial ts (fun t ht => ⟨S.set 4 (some (.str t)), rfl, rfl, call1 (x := .str t) (M1 := M3) rfl (asked_right (by
      have : t = " " ∨ t = "; " ∨ t = "columns" ∨ t = "columns a; check [1]" := by simpa [ts] using ht
      rcases this with q | q | q | q <;> rw [q] <;> (unfold TX; decide)))⟩)
    rw [x_L, x_cons, z_lc, z_itA, show evL kLst (evCons (evC (.str " ")) (evCons (evC (.str "; ")) (evCons (evC (.str "columns")) (evCons (evC (.str "columns a; check [1]")) evNil)))) S M3 = some (.val (.lst (ts.map Va.str)), M3) from rfl, z_anyL]
    dsimp only
    rw [show wipeI S [4] = S from rfl, cm]
    dsimp only
    rw [bindO_val, x_nil, bindO_val, bindO_val]
    dsimp only
    rw [x_kPure, allP (fun _ => true) ts]
    rfl
  · rw [decide_eq_false hn] at cond
    obtain ⟨z, M4, e4, tx4⟩ := odd_text w3 (by simp; omega) hd hl hn
    refine ⟨M4, end_ret (s1 := S) (seq_nx b1 (seq_nx b2 (seq_nx b3 (seq_nx (s1 := S) (M1 := M3) (by rw [x_sIf, cond]; rfl) (ret_val ?_)))))⟩
    rw [x_and, call1 (call2 (a := evVar 0) (b := evVar 1) (s := S) (x := .cel w) (y := D) (M := M3) (M1 := M3) (M2 := M3) rfl rfl e4) (asked_right (M := M4) tx4), bindO_val]
    exact call1 (a := evVar 2) (s := S) (x := .str (rtx ds)) (M := M4) (M1 := M4) rfl (asked_right (M := M4) (tx.up (by decide)))
theorem cut_to {α : Type} (l : List α) (k : Nat) : cutA l none (some (k : Int)) = l.take k := by
  unfold cutA
  rw [HT.sIx_nat, HT.sIx_none]
  by_cases h : k ≤ l.length
  · rw [Nat.min_eq_left h]; simp
  · rw [Nat.min_eq_right (by omega), List.drop_zero, List.take_of_length_le (by omega), List.take_of_length_le (by omega)]
end Lw

set_option Elab.async false
set_option linter.all false
set_option maxRecDepth 100000
set_option maxHeartbeats 1000000
set_option exponentiation.threshold 3000
namespace Lw
open PySem L2 PV
/-- the walk over the cells -/
theorem cells_ok {chk : Store → Prop} (hc : ∀ M, chk M) (s0 : Option Va) (cs : List Int) (hcs : cs.length ≤ 16) : ∀ (l : List Va) (s2 : Option Va) (M : Store), (∀ x ∈ l, ∃ i : Int, x = .int i ∧ 0 ≤ i ∧ i < cs.length) →
    ∃ s2' M', loopF chk (tgName 2) (sIf (evNot (evTru (evL (kFn 1 c__law_right) (evCons (evL (kFn 2 c__law_well) (evCons (ev2 opIx (evVar 1) (evVar 2)) (evCons (evVar 2) evNil))) evNil)))) (sRet (evC (.bl false))) sNx) l [s0, some (.lst (cs.map Va.int)), s2] M = some (.nx, [s0, some (.lst (cs.map Va.int)), s2'], M')
  | [], s2, M, _ => by
    refine ⟨s2, M, ?_⟩
    unfold loopF
    rw [if_pos (hc M)]
  | x :: l, s2, M, h => by
    obtain ⟨i, rfl, h0, h1⟩ := h x (by simp)
    obtain ⟨v, e, hv, _⟩ := at_nat (l := cs.map Va.int) h0 (by rw [List.length_map]; exact h1)
    obtain ⟨c, _, rfl⟩ := List.mem_map.mp hv
    obtain ⟨M1, e1, w1, _⟩ := well c i M
    obtain ⟨M2, e2⟩ := right w1
    obtain ⟨s2', M', e3⟩ := cells_ok hc s0 cs hcs l (some (.int i)) M2 fun y hy => h y (by simp [hy])
    refine ⟨s2', M', ?_⟩
    unfold loopF
    rw [if_pos (hc M)]
    simp [e, e1, e2, e3]
theorem eq_scr {M : Store} {ns : List Int} : opEq M (.scr ns) (.lst []) = some (.bl (decide (ns = []))) := by
  have hr : ∀ ns : List Int, PdRs M (ns.map Va.int) (ns.map PyData.int) := fun ns => by
    induction ns with
    | nil => exact .nil
    | cons n ns ih => exact .cons (.int _) ih
  unfold opEq eqS eqP
  rw [pdOf_eq (.lst (l := ns.map Va.int) rfl (hr ns)), pdOf_eq (.lst rfl .nil)]
  simp only
  rw [if_pos ⟨PySem.W.ke_shaped_ints ns, by decide⟩]
  cases ns <;> simp [PyData.eqv, PyData.eqvAll]
theorem lawOk (ns : List Int) (hl : ns.length ≤ 63) : ∃ M', c_law [.scr ns] ⟨fun _ => none, 0⟩ = some (.val (.bl true), M') := by
  have key : ∀ (cs : List Int), cs.length ≤ 16 → ev2 opAdd (evSl (evVar 0) (evC .non) (evB (evC (.int 16)))) (ev2 opMul (evL kLst (evCons (evC (.int 0)) evNil)) (evL (kPure gInt) (evCons (ev2 opEq (evVar 0) (evL kLst evNil)) evNil))) [some (.scr ns), none, none] ⟨fun _ => none, 0⟩ = some (.val (.lst (cs.map Va.int)), ⟨fun _ => none, 0⟩) → ∃ M', c_law [.scr ns] ⟨fun _ => none, 0⟩ = some (.val (.bl true), M') := by
    intro cs hc e
    obtain ⟨s2', M', e3⟩ := cells_ok (chk := fun _ => True) (fun _ => trivial) (some (.scr ns)) cs hc ((List.range cs.length).map fun (i : Nat) => Va.int i) none ⟨fun _ => none, 0⟩ (by
      intro x hx
      obtain ⟨i, hi, rfl⟩ := List.mem_map.mp hx
      have := List.mem_range.mp hi
      exact ⟨i, rfl, by omega, by omega⟩)
    refine ⟨M', ?_⟩
    unfold c_law runF m_law
    have e0 : startI 3 [Va.scr ns] = [some (.scr ns), none, none] := rfl
    rw [e0, x_seq, x_set, e]
    simp (disch := omega) [z_rng, e3]
  by_cases h : ns = []
  · subst h
    refine key [0] (by decide) ?_
    simp [opSl, boundOf, eq_scr, opMul, opAdd, cutA]
  · refine key (ns.take 16) (by simp; omega) ?_
    have hb : cutA (ns.map Va.int) none (some 16) = (ns.take 16).map Va.int := by
      rw [show (some 16 : Option Int) = some ((16 : Nat) : Int) from rfl, cut_to, List.map_take]
    have hlen : min 16 ns.length ≤ 16777216 := by omega
    simp [opSl, boundOf, eq_scr, opMul, opAdd, hb, eq_false h, hlen]
end Lw

set_option Elab.async false
set_option linter.all false
set_option maxRecDepth 100000
set_option maxHeartbeats 4000000
namespace Lw
open PySem L2 PV
def top (i : Nat) : Stmt := PySem.Challenge.pw_paidinparts_k55_texts_of_no_deeds.main.body.getD i noS
structure Tx (mg : Str → Option Value) : Prop where
  b_all : mg "all" = none
  b_any : mg "any" = none
  b_int : mg "int" = none
  b_len : mg "len" = none
  b_max : mg "max" = none
  b_range : mg "range" = none
  b_repr : mg "repr" = none
  b_str : mg "str" = none
  g_DIGITS : ∃ t, mg "DIGITS" = some (.str "0123456789" t)
  g_LETTERS : ∃ t, mg "LETTERS" = some (.str "abcdefghijklmnopqrstuvwxyz" t)
  g_MOST_DIGITS : ∃ t, mg "MOST_DIGITS" = some (.int 60 t)
  g_MOST_LETTERS : ∃ t, mg "MOST_LETTERS" = some (.int 8 t)
section
variable {P : Program} {w : World} {K : PySem.W.Frag} {mg : Str → Option Value} {base : Heap} {CA : Nat → Addr}
abbrev s_EI : Stmt := inClass (top 1) 0
theorem sc_EI : FnScope ["self", "value"] ["self", "value"] (defScope s_EI) := ⟨rfl, rfl, rfl, by decide +kernel, rfl, by decide +kernel, by decide +kernel⟩
theorem w_EI {f : Addr} {fd : FuncData} (F : Fun K "__init__" "PartError.__init__" s_EI f fd) : FnOk P w K mg base CX0 1 f fd ["self", "value"] (spInit K) := ok_init F sc_EI rfl (Or.inl rfl) (Or.inl rfl)
abbrev s__law_run_text : Stmt := top 19
abbrev N__law_run_text : List Str := ["deeds", "text", "first", "second", "third"]
theorem sc__law_run_text : FnScope N__law_run_text ["deeds"] (defScope s__law_run_text) := ⟨rfl, rfl, rfl, by decide +kernel, rfl, by decide +kernel, by decide +kernel⟩
theorem b__law_run_text (T : Tx mg) (hsb : ∃ mm, base.Ns sysModules mm)  {f : Addr} (cdv : Value) (A : Around) (outer : List Env) (s : Shared) (H : Hp) (E : XK) (hr : Room 0 (A.deeper (PyProof.Rows.envOfC "_law_run_text" (defScope s__law_run_text) s.heap.objs.size f cdv))) (hgd : A.guards = some []) :
    PSs (cxOf CX0 P w K mg base N__law_run_text "_law_run_text" (defScope s__law_run_text) f cdv A outer s H E).nox (defBody s__law_run_text) (tS ⟨K, CA⟩ E0 m__law_run_text) := by
  let G : Sig := ⟨K, CA⟩
  exact (qss_cons (qs_set (i := 1) sc__law_run_text.nd rfl (by first | exact Or.inl rfl | exact Or.inr rfl) qc_str)
      (qss_cons (qs_for PassesOwn.never rfl (qi_any rfl (qv 0)) (qg_tupG rfl rfl (qgs_cons (qg_name (i := 2) sc__law_run_text.nd rfl (by first | exact Or.inl rfl | exact Or.inr rfl)) (qgs_cons (qg_name (i := 3) sc__law_run_text.nd rfl (by first | exact Or.inl rfl | exact Or.inr rfl)) (qgs_cons (qg_name (i := 4) sc__law_run_text.nd rfl (by first | exact Or.inl rfl | exact Or.inr rfl)) qgs_nil)))) (qss_one (qs_set (i := 1) sc__law_run_text.nd rfl (by first | exact Or.inl rfl | exact Or.inr rfl) (q_add (q_add (q_add (q_add (q_add (q_add (qv 1) qc_str) (qv 2)) qc_str) (q_callTy (call_str_int.or SkE.call_str_str) s_str (by rfl) T.b_str bt_str (qa_cons (qv 3) qa_nil))) qc_str) (q_callTy (call_str_int.or SkE.call_str_str) s_str (by rfl) T.b_str bt_str (qa_cons (qv 4) qa_nil))))))
      (qss_one (qs_ret (q_sl rfl (qv 1) (qo_b qc_int) qo_none)))))
theorem w__law_run_text {f : Addr} {fd : FuncData} (F : Fun K "_law_run_text" "_law_run_text" s__law_run_text f fd) (m : mg "_law_run_text" = some (.ref f)) (T : Tx mg) (hsb : ∃ mm, base.Ns sysModules mm)  : Cal P w K mg base ⟨K, CA⟩ "_law_run_text" 1 1 c__law_run_text :=
  cal_of F sc__law_run_text m (F.binds fun _ _ _ _ _ _ us hl => match us, hl with | [_], _ => rfl) rfl rfl rfl (b__law_run_text T hsb )
abbrev s__law_draw : Stmt := top 15
abbrev N__law_draw : List Str := ["well", "many", "mixed", "drawn"]
theorem sc__law_draw : FnScope N__law_draw ["well", "many"] (defScope s__law_draw) := ⟨rfl, rfl, rfl, by decide +kernel, rfl, by decide +kernel, by decide +kernel⟩
theorem b__law_draw (T : Tx mg) (hsb : ∃ mm, base.Ns sysModules mm)  {f : Addr} (cdv : Value) (A : Around) (outer : List Env) (s : Shared) (H : Hp) (E : XK) (hr : Room 0 (A.deeper (PyProof.Rows.envOfC "_law_draw" (defScope s__law_draw) s.heap.objs.size f cdv))) (hgd : A.guards = some []) :
    PSs (cxOf CX0 P w K mg base N__law_draw "_law_draw" (defScope s__law_draw) f cdv A outer s H E).nox (defBody s__law_draw) (tS ⟨K, CA⟩ E0 m__law_draw) := by
  let G : Sig := ⟨K, CA⟩
  exact (qss_cons (qs_if (qt_cmp op_gt s_gt (q_ix ix_seq (s_ix rfl) (qv 0) qc_int) qc_int (nomark _)) (qss_cons (qs_set (i := 3) sc__law_draw.nd rfl (by first | exact Or.inl rfl | exact Or.inr rfl) (q_mod (q_callTy (call_int1.or call_int_str) s_int (by rfl) T.b_int bt_int (qa_cons (q_ix ix_seq (s_ix rfl) (qv 0) qc_int) qa_nil)) (qv 1)))
      (qss_cons (qs_sub set_list s_setAt (q_div (q_ix ix_seq (s_ix rfl) (qv 0) qc_int) (qv 1)) (qv 0) qc_int)
      (qss_one (qs_ret (qv 3))))) qss_nil)
      (qss_cons (qs_sub set_list s_setAt (q_add (q_ix ix_seq (s_ix rfl) (qv 0) qc_int) qc_int) (qv 0) qc_int)
      (qss_cons (qs_set (i := 2) sc__law_draw.nd rfl (by first | exact Or.inl rfl | exact Or.inr rfl) (q_mod (q_callTy (call_int1.or call_int_str) s_int (by rfl) T.b_int bt_int (qa_cons (q_pow (q_add (q_ix ix_seq (s_ix rfl) (qv 0) qc_int) (q_mul (q_ix ix_seq (s_ix rfl) (qv 0) qc_int) qc_int)) qc_int) qa_nil)) (q_add (q_pow qc_int qc_int) qc_int)))
      (qss_one (qs_ret (q_mod (q_div (q_mod (q_callTy (call_int1.or call_int_str) s_int (by rfl) T.b_int bt_int (qa_cons (q_add (q_mul (qv 2) (qv 2)) (q_div (qv 2) qc_int)) qa_nil)) (q_add (q_pow qc_int qc_int) qc_int)) qc_int) (qv 1)))))))
theorem w__law_draw {f : Addr} {fd : FuncData} (F : Fun K "_law_draw" "_law_draw" s__law_draw f fd) (m : mg "_law_draw" = some (.ref f)) (T : Tx mg) (hsb : ∃ mm, base.Ns sysModules mm)  : Cal P w K mg base ⟨K, CA⟩ "_law_draw" 1 2 c__law_draw :=
  cal_of F sc__law_draw m (F.binds fun _ _ _ _ _ _ us hl => match us, hl with | [_, _], _ => rfl) rfl rfl rfl (b__law_draw T hsb )
abbrev s__law_integer : Stmt := top 17
abbrev N__law_integer : List Str := ["well", "far", "k"]
theorem sc__law_integer : FnScope N__law_integer ["well"] (defScope s__law_integer) := ⟨rfl, rfl, rfl, by decide +kernel, rfl, by decide +kernel, by decide +kernel⟩
theorem b__law_integer (T : Tx mg) (hsb : ∃ mm, base.Ns sysModules mm) (C__law_draw : Cal P w K mg base ⟨K, CA⟩ "_law_draw" 1 2 c__law_draw) {f : Addr} (cdv : Value) (A : Around) (outer : List Env) (s : Shared) (H : Hp) (E : XK) (hr : Room 1 (A.deeper (PyProof.Rows.envOfC "_law_integer" (defScope s__law_integer) s.heap.objs.size f cdv))) (hgd : A.guards = some []) :
    PSs (cxOf CX0 P w K mg base N__law_integer "_law_integer" (defScope s__law_integer) f cdv A outer s H E).nox (defBody s__law_integer) (tS ⟨K, CA⟩ E0 m__law_integer) := by
  let G : Sig := ⟨K, CA⟩
  exact (qss_cons (qs_set (i := 1) sc__law_integer.nd rfl (by first | exact Or.inl rfl | exact Or.inr rfl) (q_cal C__law_draw hr (by decide) hgd (by rfl) (qa_cons (qv 0) (qa_cons qc_int qa_nil))))
      (qss_cons (qs_for PassesOwn.never rfl (qi_range1 (by rfl) T.b_range (qa_cons (q_mul (q_cal C__law_draw hr (by decide) hgd (by rfl) (qa_cons (qv 0) (qa_cons qc_int qa_nil))) (q_cal C__law_draw hr (by decide) hgd (by rfl) (qa_cons (qv 0) (qa_cons qc_int qa_nil)))) qa_nil)) (qg_name (i := 2) sc__law_integer.nd rfl (by first | exact Or.inl rfl | exact Or.inr rfl)) (qss_one (qs_set (i := 1) sc__law_integer.nd rfl (by first | exact Or.inl rfl | exact Or.inr rfl) (q_add (q_mul (qv 1) (q_pow qc_int qc_int)) (q_cal C__law_draw hr (by decide) hgd (by rfl) (qa_cons (qv 0) (qa_cons (q_pow qc_int qc_int) qa_nil)))))))
      (qss_one (qs_ret (q_ix ix_seq (s_ix rfl) (q_lst (qa_cons (qv 1) (qa_cons (q_sub qc_int (qv 1)) qa_nil))) (q_cal C__law_draw hr (by decide) hgd (by rfl) (qa_cons (qv 0) (qa_cons qc_int qa_nil))))))))
theorem w__law_integer {f : Addr} {fd : FuncData} (F : Fun K "_law_integer" "_law_integer" s__law_integer f fd) (m : mg "_law_integer" = some (.ref f)) (T : Tx mg) (hsb : ∃ mm, base.Ns sysModules mm) (C__law_draw : Cal P w K mg base ⟨K, CA⟩ "_law_draw" 1 2 c__law_draw) : Cal P w K mg base ⟨K, CA⟩ "_law_integer" 2 1 c__law_integer :=
  cal_of F sc__law_integer m (F.binds fun _ _ _ _ _ _ us hl => match us, hl with | [_], _ => rfl) rfl rfl rfl (b__law_integer T hsb C__law_draw)
abbrev s__law_word : Stmt := top 16
abbrev N__law_word : List Str := ["well", "taken", "letters", "way", "word", "spare", "near", "at", "k"]
theorem sc__law_word : FnScope N__law_word ["well", "taken"] (defScope s__law_word) := ⟨rfl, rfl, rfl, by decide +kernel, rfl, by decide +kernel, by decide +kernel⟩
theorem b__law_word (T : Tx mg) (hsb : ∃ mm, base.Ns sysModules mm) (C__law_draw : Cal P w K mg base ⟨K, CA⟩ "_law_draw" 1 2 c__law_draw) {f : Addr} (cdv : Value) (A : Around) (outer : List Env) (s : Shared) (H : Hp) (E : XK) (hr : Room 1 (A.deeper (PyProof.Rows.envOfC "_law_word" (defScope s__law_word) s.heap.objs.size f cdv))) (hgd : A.guards = some []) :
    PSs (cxOf CX0 P w K mg base N__law_word "_law_word" (defScope s__law_word) f cdv A outer s H E).nox (defBody s__law_word) (tS ⟨K, CA⟩ E0 m__law_word) := by
  let G : Sig := ⟨K, CA⟩
  exact (qss_cons (qs_set (i := 2) sc__law_word.nd rfl (by first | exact Or.inl rfl | exact Or.inr rfl) qc_str)
      (qss_cons (qs_set (i := 3) sc__law_word.nd rfl (by first | exact Or.inl rfl | exact Or.inr rfl) (q_cal C__law_draw hr (by decide) hgd (by rfl) (qa_cons (qv 0) (qa_cons qc_int qa_nil))))
      (qss_cons (qs_set (i := 4) sc__law_word.nd rfl (by first | exact Or.inl rfl | exact Or.inr rfl) (q_ix ix_seq (s_ix rfl) (q_lst (qa_cons qc_str (qa_cons qc_str (qa_cons qc_str (qa_cons qc_str (qa_cons qc_str (qa_cons qc_str (qa_cons qc_str qa_nil)))))))) (q_cal C__law_draw hr (by decide) hgd (by rfl) (qa_cons (qv 0) (qa_cons qc_int qa_nil)))))
      (qss_cons (qs_if (qt_pw (qw_and (qt_cmp (op_eq.or (op_eqA (G := G) rfl hr)) s_eq (qv 3) qc_int (nomark _)) (qw_and1 (qt_cmp (op_ne.or (op_neA (G := G) rfl hr)) s_ne (qv 1) (q_lst qa_nil) (nomark _))))) (qss_cons (qs_set (i := 6) sc__law_word.nd rfl (by first | exact Or.inl rfl | exact Or.inr rfl) (q_ix ix_seq (s_ix rfl) (qv 1) (q_cal C__law_draw hr (by decide) hgd (by rfl) (qa_cons (qv 0) (qa_cons (q_callB (call_len_seq.or (call_len_str.or call_lenD)) (s_len rfl) (by rfl) T.b_len bt_len (qa_cons (qv 1) qa_nil)) qa_nil)))))
      (qss_cons (qs_set (i := 7) sc__law_word.nd rfl (by first | exact Or.inl rfl | exact Or.inr rfl) (q_cal C__law_draw hr (by decide) hgd (by rfl) (qa_cons (qv 0) (qa_cons (q_add (q_callB (call_len_seq.or (call_len_str.or call_lenD)) (s_len rfl) (by rfl) T.b_len bt_len (qa_cons (qv 6) qa_nil)) qc_int) qa_nil))))
      (qss_one (qs_set (i := 4) sc__law_word.nd rfl (by first | exact Or.inl rfl | exact Or.inr rfl) (q_sl rfl (q_add (q_add (q_sl rfl (qv 6) qo_none (qo_b (qv 7))) (q_ix ix_seq (s_ix rfl) (qv 2) (q_cal C__law_draw hr (by decide) hgd (by rfl) (qa_cons (qv 0) (qa_cons qc_int qa_nil))))) (q_sl rfl (qv 6) (qo_b (q_add (qv 7) (q_cal C__law_draw hr (by decide) hgd (by rfl) (qa_cons (qv 0) (qa_cons qc_int qa_nil))))) qo_none)) qo_none (qo_b qc_int)))))) (qss_one (qs_if (qt_cmp op_lt s_lt (qv 3) qc_int (nomark _)) (qss_one (qs_set (i := 4) sc__law_word.nd rfl (by first | exact Or.inl rfl | exact Or.inr rfl) (q_bm rfl PySem.F.plainAttrs_str PySem.F.slot_str_join PySem.F.type_str_join mt_join tyStr (s_join rfl) qc_str (qa_cons (q_lc (own := [("k", 8)]) (E2 := E0) rfl sc__law_word.nd (qi_range1 (by rfl) T.b_range (qa_cons (q_add qc_int (q_cal C__law_draw hr (by decide) hgd (by rfl) (qa_cons (qv 0) (qa_cons qc_int qa_nil)))) qa_nil)) (blkOk_by (N := N__law_word) (sc := (defScope s__law_word)) (by decide +kernel)) (fun _ _ _ _ _ => by exact (qg_name (i := 8) sc__law_word.nd rfl (by first | exact Or.inl rfl | exact Or.inr rfl))) (fun _ _ _ _ _ => qts_nil) (fun _ _ _ _ _ => (q_ix ix_seq (s_ix rfl) (qv 2) (q_cal C__law_draw hr (by decide) hgd (by rfl) (qa_cons (qv 0) (qa_cons qc_int qa_nil)))))) qa_nil)))) qss_nil)))
      (qss_cons (qs_for PassesOwn.never rfl (qi_range1 (by rfl) T.b_range (qa_cons qc_int qa_nil)) (qg_name (i := 5) sc__law_word.nd rfl (by first | exact Or.inl rfl | exact Or.inr rfl)) (qss_cons (qs_if (qt_cmp ((op_notIn_sign.or op_notIn_seq).or (op_notInP (G := G) rfl hr)) (s_notInD rfl) (qv 4) (qv 1) (by rfl)) (qss_one (qs_ret (qv 4))) qss_nil)
      (qss_one (qs_set (i := 4) sc__law_word.nd rfl (by first | exact Or.inl rfl | exact Or.inr rfl) (q_add (q_ix ix_seq (s_ix rfl) (qv 2) (q_mod (qv 5) qc_int)) (q_ix ix_seq (s_ix rfl) (qv 2) (q_div (qv 5) qc_int)))))))
      (qss_one (qs_ret (qv 4))))))))
theorem w__law_word {f : Addr} {fd : FuncData} (F : Fun K "_law_word" "_law_word" s__law_word f fd) (m : mg "_law_word" = some (.ref f)) (T : Tx mg) (hsb : ∃ mm, base.Ns sysModules mm) (C__law_draw : Cal P w K mg base ⟨K, CA⟩ "_law_draw" 1 2 c__law_draw) : Cal P w K mg base ⟨K, CA⟩ "_law_word" 2 2 c__law_word :=
  cal_of F sc__law_word m (F.binds fun _ _ _ _ _ _ us hl => match us, hl with | [_, _], _ => rfl) rfl rfl rfl (b__law_word T hsb C__law_draw)
abbrev s__law_wild : Stmt := top 18
abbrev N__law_wild : List Str := ["well"]
theorem sc__law_wild : FnScope N__law_wild ["well"] (defScope s__law_wild) := ⟨rfl, rfl, rfl, by decide +kernel, rfl, by decide +kernel, by decide +kernel⟩
theorem b__law_wild (T : Tx mg) (hsb : ∃ mm, base.Ns sysModules mm) (C__law_draw : Cal P w K mg base ⟨K, CA⟩ "_law_draw" 1 2 c__law_draw) (C__law_word : Cal P w K mg base ⟨K, CA⟩ "_law_word" 2 2 c__law_word) (C__law_integer : Cal P w K mg base ⟨K, CA⟩ "_law_integer" 2 1 c__law_integer) {f : Addr} (cdv : Value) (A : Around) (outer : List Env) (s : Shared) (H : Hp) (E : XK) (hr : Room 2 (A.deeper (PyProof.Rows.envOfC "_law_wild" (defScope s__law_wild) s.heap.objs.size f cdv))) (hgd : A.guards = some []) :
    PSs (cxOf CX0 P w K mg base N__law_wild "_law_wild" (defScope s__law_wild) f cdv A outer s H E).nox (defBody s__law_wild) (tS ⟨K, CA⟩ E0 m__law_wild) := by
  let G : Sig := ⟨K, CA⟩
  exact (qss_cons (qs_if (qt_cmp (op_eq.or (op_eqA (G := G) rfl hr)) s_eq (q_cal C__law_draw hr (by decide) hgd (by rfl) (qa_cons (qv 0) (qa_cons qc_int qa_nil))) qc_int (nomark _)) (qss_one (qs_ret (q_tup (qa_cons qc_str (qa_cons (q_cal C__law_word hr (by decide) hgd (by rfl) (qa_cons (qv 0) (qa_cons (q_lst qa_nil) qa_nil))) (qa_cons (q_cal C__law_integer hr (by decide) hgd (by rfl) (qa_cons (qv 0) qa_nil)) qa_nil)))))) qss_nil)
      (qss_one (qs_ret (q_tup (qa_cons qc_str (qa_cons (q_cal C__law_integer hr (by decide) hgd (by rfl) (qa_cons (qv 0) qa_nil)) (qa_cons (q_cal C__law_word hr (by decide) hgd (by rfl) (qa_cons (qv 0) (qa_cons (q_lst qa_nil) qa_nil))) qa_nil)))))))
theorem w__law_wild {f : Addr} {fd : FuncData} (F : Fun K "_law_wild" "_law_wild" s__law_wild f fd) (m : mg "_law_wild" = some (.ref f)) (T : Tx mg) (hsb : ∃ mm, base.Ns sysModules mm) (C__law_draw : Cal P w K mg base ⟨K, CA⟩ "_law_draw" 1 2 c__law_draw) (C__law_word : Cal P w K mg base ⟨K, CA⟩ "_law_word" 2 2 c__law_word) (C__law_integer : Cal P w K mg base ⟨K, CA⟩ "_law_integer" 2 1 c__law_integer) : Cal P w K mg base ⟨K, CA⟩ "_law_wild" 3 1 c__law_wild :=
  cal_of F sc__law_wild m (F.binds fun _ _ _ _ _ _ us hl => match us, hl with | [_], _ => rfl) rfl rfl rfl (b__law_wild T hsb C__law_draw C__law_word C__law_integer)
abbrev s__law_is_name : Stmt := top 20
abbrev N__law_is_name : List Str := ["text", "letters", "sign"]
theorem sc__law_is_name : FnScope N__law_is_name ["text"] (defScope s__law_is_name) := ⟨rfl, rfl, rfl, by decide +kernel, rfl, by decide +kernel, by decide +kernel⟩
theorem b__law_is_name (T : Tx mg) (hsb : ∃ mm, base.Ns sysModules mm)  {f : Addr} (cdv : Value) (A : Around) (outer : List Env) (s : Shared) (H : Hp) (E : XK) (hr : Room 0 (A.deeper (PyProof.Rows.envOfC "_law_is_name" (defScope s__law_is_name) s.heap.objs.size f cdv))) (hgd : A.guards = some []) :
    PSs (cxOf CX0 P w K mg base N__law_is_name "_law_is_name" (defScope s__law_is_name) f cdv A outer s H E).nox (defBody s__law_is_name) (tS ⟨K, CA⟩ E0 m__law_is_name) := by
  let G : Sig := ⟨K, CA⟩
  exact (qss_cons (qs_set (i := 1) sc__law_is_name.nd rfl (by first | exact Or.inl rfl | exact Or.inr rfl) qc_str)
      (qss_one (qs_ret (q_and (q_chain op_le s_le op_le s_le qc_int (q_callB (call_len_seq.or (call_len_str.or call_lenD)) (s_len rfl) (by rfl) T.b_len bt_len (qa_cons (qv 0) qa_nil)) qc_int) (q_one (q_callB (cr_all rfl) (s_all rfl) (by rfl) T.b_all bt_all (qa_cons (q_lc (own := [("sign", 2)]) (E2 := E0) rfl sc__law_is_name.nd (qi_any rfl (qv 0)) (blkOk_by (N := N__law_is_name) (sc := (defScope s__law_is_name)) (by decide +kernel)) (fun _ _ _ _ _ => by exact (qg_name (i := 2) sc__law_is_name.nd rfl (by first | exact Or.inl rfl | exact Or.inr rfl))) (fun _ _ _ _ _ => qts_nil) (fun _ _ _ _ _ => (q_cmp ((op_in_sign.or op_in_seq).or (op_inP (G := G) rfl hr)) (s_inD rfl) (qv 2) (qv 1) (by rfl)))) qa_nil)))))))
theorem w__law_is_name {f : Addr} {fd : FuncData} (F : Fun K "_law_is_name" "_law_is_name" s__law_is_name f fd) (m : mg "_law_is_name" = some (.ref f)) (T : Tx mg) (hsb : ∃ mm, base.Ns sysModules mm)  : Cal P w K mg base ⟨K, CA⟩ "_law_is_name" 1 1 c__law_is_name :=
  cal_of F sc__law_is_name m (F.binds fun _ _ _ _ _ _ us hl => match us, hl with | [_], _ => rfl) rfl rfl rfl (b__law_is_name T hsb )
abbrev s__law_is_number : Stmt := top 21
abbrev N__law_is_number : List Str := ["word", "digits", "sign"]
theorem sc__law_is_number : FnScope N__law_is_number ["word"] (defScope s__law_is_number) := ⟨rfl, rfl, rfl, by decide +kernel, rfl, by decide +kernel, by decide +kernel⟩
theorem b__law_is_number (T : Tx mg) (hsb : ∃ mm, base.Ns sysModules mm)  {f : Addr} (cdv : Value) (A : Around) (outer : List Env) (s : Shared) (H : Hp) (E : XK) (hr : Room 0 (A.deeper (PyProof.Rows.envOfC "_law_is_number" (defScope s__law_is_number) s.heap.objs.size f cdv))) (hgd : A.guards = some []) :
    PSs (cxOf CX0 P w K mg base N__law_is_number "_law_is_number" (defScope s__law_is_number) f cdv A outer s H E).nox (defBody s__law_is_number) (tS ⟨K, CA⟩ E0 m__law_is_number) := by
  let G : Sig := ⟨K, CA⟩
  exact (qss_cons (qs_set (i := 1) sc__law_is_number.nd rfl (by first | exact Or.inl rfl | exact Or.inr rfl) (q_if (qt_cmp (op_eq.or (op_eqA (G := G) rfl hr)) s_eq (q_sl rfl (qv 0) qo_none (qo_b qc_int)) qc_str (nomark _)) (q_sl rfl (qv 0) (qo_b qc_int) qo_none) (qv 0)))
      (qss_cons (qs_if (qt_pw (qw_or (qt_cmp op_lt s_lt (q_callB (call_len_seq.or (call_len_str.or call_lenD)) (s_len rfl) (by rfl) T.b_len bt_len (qa_cons (qv 1) qa_nil)) qc_int (nomark _)) (qw_or (qt_cmp op_gt s_gt (q_callB (call_len_seq.or (call_len_str.or call_lenD)) (s_len rfl) (by rfl) T.b_len bt_len (qa_cons (qv 1) qa_nil)) qc_int (nomark _)) (qw_or1 (qt_not (qt_tru rfl (q_callB (cr_all rfl) (s_all rfl) (by rfl) T.b_all bt_all (qa_cons (q_lc (own := [("sign", 2)]) (E2 := E0) rfl sc__law_is_number.nd (qi_any rfl (qv 1)) (blkOk_by (N := N__law_is_number) (sc := (defScope s__law_is_number)) (by decide +kernel)) (fun _ _ _ _ _ => by exact (qg_name (i := 2) sc__law_is_number.nd rfl (by first | exact Or.inl rfl | exact Or.inr rfl))) (fun _ _ _ _ _ => qts_nil) (fun _ _ _ _ _ => (q_cmp ((op_in_sign.or op_in_seq).or (op_inP (G := G) rfl hr)) (s_inD rfl) (qv 2) qc_str (by rfl)))) qa_nil)))))))) (qss_one (qs_ret qc_bl)) qss_nil)
      (qss_one (qs_ret (q_or (q_cmp (op_eq.or (op_eqA (G := G) rfl hr)) s_eq (qv 0) qc_str (nomark _)) (q_one (q_cmp (op_ne.or (op_neA (G := G) rfl hr)) s_ne (q_ix ix_seq (s_ix rfl) (qv 1) qc_int) qc_str (nomark _))))))))
theorem w__law_is_number {f : Addr} {fd : FuncData} (F : Fun K "_law_is_number" "_law_is_number" s__law_is_number f fd) (m : mg "_law_is_number" = some (.ref f)) (T : Tx mg) (hsb : ∃ mm, base.Ns sysModules mm)  : Cal P w K mg base ⟨K, CA⟩ "_law_is_number" 1 1 c__law_is_number :=
  cal_of F sc__law_is_number m (F.binds fun _ _ _ _ _ _ us hl => match us, hl with | [_], _ => rfl) rfl rfl rfl (b__law_is_number T hsb )
abbrev s__law_deed_in : Stmt := top 22
abbrev N__law_deed_in : List Str := ["text", "words"]
theorem sc__law_deed_in : FnScope N__law_deed_in ["text"] (defScope s__law_deed_in) := ⟨rfl, rfl, rfl, by decide +kernel, rfl, by decide +kernel, by decide +kernel⟩
theorem b__law_deed_in (T : Tx mg) (hsb : ∃ mm, base.Ns sysModules mm) (C__law_is_name : Cal P w K mg base ⟨K, CA⟩ "_law_is_name" 1 1 c__law_is_name) (C__law_is_number : Cal P w K mg base ⟨K, CA⟩ "_law_is_number" 1 1 c__law_is_number) {f : Addr} (cdv : Value) (A : Around) (outer : List Env) (s : Shared) (H : Hp) (E : XK) (hr : Room 1 (A.deeper (PyProof.Rows.envOfC "_law_deed_in" (defScope s__law_deed_in) s.heap.objs.size f cdv))) (hgd : A.guards = some []) :
    PSs (cxOf CX0 P w K mg base N__law_deed_in "_law_deed_in" (defScope s__law_deed_in) f cdv A outer s H E).nox (defBody s__law_deed_in) (tS ⟨K, CA⟩ E0 m__law_deed_in) := by
  let G : Sig := ⟨K, CA⟩
  exact (qss_cons (qs_set (i := 1) sc__law_deed_in.nd rfl (by first | exact Or.inl rfl | exact Or.inr rfl) (q_bm rfl PySem.F.plainAttrs_str PySem.F.slot_str_split PySem.F.type_str_split mt_split tyStr s_split (qv 0) (qa_cons qc_str qa_nil)))
      (qss_cons (qs_if (qt_pw (qw_and (qt_cmp (op_eq.or (op_eqA (G := G) rfl hr)) s_eq (q_callB (call_len_seq.or (call_len_str.or call_lenD)) (s_len rfl) (by rfl) T.b_len bt_len (qa_cons (qv 1) qa_nil)) qc_int (nomark _)) (qw_and (qt_cmp (op_eq.or (op_eqA (G := G) rfl hr)) s_eq (q_ix ix_seq (s_ix rfl) (qv 1) qc_int) qc_str (nomark _)) (qw_and (qt_tru rfl (q_cal C__law_is_name hr (by decide) hgd (by rfl) (qa_cons (q_ix ix_seq (s_ix rfl) (qv 1) qc_int) qa_nil))) (qw_and1 (qt_tru rfl (q_cal C__law_is_number hr (by decide) hgd (by rfl) (qa_cons (q_ix ix_seq (s_ix rfl) (qv 1) qc_int) qa_nil)))))))) (qss_one (qs_ret (q_tup (qa_cons qc_str (qa_cons (q_ix ix_seq (s_ix rfl) (qv 1) qc_int) (qa_cons (q_callTy (call_int1.or call_int_str) s_int (by rfl) T.b_int bt_int (qa_cons (q_ix ix_seq (s_ix rfl) (qv 1) qc_int) qa_nil)) qa_nil)))))) qss_nil)
      (qss_cons (qs_if (qt_pw (qw_and (qt_cmp (op_eq.or (op_eqA (G := G) rfl hr)) s_eq (q_callB (call_len_seq.or (call_len_str.or call_lenD)) (s_len rfl) (by rfl) T.b_len bt_len (qa_cons (qv 1) qa_nil)) qc_int (nomark _)) (qw_and (qt_cmp (op_eq.or (op_eqA (G := G) rfl hr)) s_eq (q_ix ix_seq (s_ix rfl) (qv 1) qc_int) qc_str (nomark _)) (qw_and (qt_tru rfl (q_cal C__law_is_number hr (by decide) hgd (by rfl) (qa_cons (q_ix ix_seq (s_ix rfl) (qv 1) qc_int) qa_nil))) (qw_and1 (qt_tru rfl (q_cal C__law_is_name hr (by decide) hgd (by rfl) (qa_cons (q_ix ix_seq (s_ix rfl) (qv 1) qc_int) qa_nil)))))))) (qss_one (qs_ret (q_tup (qa_cons qc_str (qa_cons (q_callTy (call_int1.or call_int_str) s_int (by rfl) T.b_int bt_int (qa_cons (q_ix ix_seq (s_ix rfl) (qv 1) qc_int) qa_nil)) (qa_cons (q_ix ix_seq (s_ix rfl) (qv 1) qc_int) qa_nil)))))) qss_nil)
      (qss_one (qs_ret qc_non)))))
theorem w__law_deed_in {f : Addr} {fd : FuncData} (F : Fun K "_law_deed_in" "_law_deed_in" s__law_deed_in f fd) (m : mg "_law_deed_in" = some (.ref f)) (T : Tx mg) (hsb : ∃ mm, base.Ns sysModules mm) (C__law_is_name : Cal P w K mg base ⟨K, CA⟩ "_law_is_name" 1 1 c__law_is_name) (C__law_is_number : Cal P w K mg base ⟨K, CA⟩ "_law_is_number" 1 1 c__law_is_number) : Cal P w K mg base ⟨K, CA⟩ "_law_deed_in" 2 1 c__law_deed_in :=
  cal_of F sc__law_deed_in m (F.binds fun _ _ _ _ _ _ us hl => match us, hl with | [_], _ => rfl) rfl rfl rfl (b__law_deed_in T hsb C__law_is_name C__law_is_number)
abbrev s__law_run_in : Stmt := top 23
abbrev N__law_run_in : List Str := ["text", "deeds", "row"]
theorem sc__law_run_in : FnScope N__law_run_in ["text"] (defScope s__law_run_in) := ⟨rfl, rfl, rfl, by decide +kernel, rfl, by decide +kernel, by decide +kernel⟩
theorem b__law_run_in (T : Tx mg) (hsb : ∃ mm, base.Ns sysModules mm) (C__law_deed_in : Cal P w K mg base ⟨K, CA⟩ "_law_deed_in" 2 1 c__law_deed_in) {f : Addr} (cdv : Value) (A : Around) (outer : List Env) (s : Shared) (H : Hp) (E : XK) (hr : Room 2 (A.deeper (PyProof.Rows.envOfC "_law_run_in" (defScope s__law_run_in) s.heap.objs.size f cdv))) (hgd : A.guards = some []) :
    PSs (cxOf CX0 P w K mg base N__law_run_in "_law_run_in" (defScope s__law_run_in) f cdv A outer s H E).nox (defBody s__law_run_in) (tS ⟨K, CA⟩ E0 m__law_run_in) := by
  let G : Sig := ⟨K, CA⟩
  exact (qss_cons (qs_setLc (i := 1) (own := [("row", 2)]) (E2 := E0) rfl sc__law_run_in.nd rfl rfl (sw_true rfl rfl rfl (by decide +kernel)) (qi_any rfl (q_bm rfl PySem.F.plainAttrs_str PySem.F.slot_str_split PySem.F.type_str_split mt_split tyStr s_split (qv 0) (qa_cons qc_str qa_nil))) (blkOk_by (N := N__law_run_in) (sc := (defScope s__law_run_in)) (by decide +kernel)) (fun _ _ _ _ _ => by exact (qg_name (i := 2) sc__law_run_in.nd rfl (by first | exact Or.inl rfl | exact Or.inr rfl))) (fun _ _ _ _ _ => qts_nil) (fun _ _ _ _ _ => (q_cal C__law_deed_in hr (by decide) hgd (by rfl) (qa_cons (qv 2) qa_nil))))
      (qss_cons (qs_if (qt_cmp (op_eq.or (op_eqA (G := G) rfl hr)) s_eq (qv 0) qc_str (nomark _)) (qss_one (qs_ret (q_lst qa_nil))) qss_nil)
      (qss_one (qs_ret (q_if (qt_cmp ((op_in_sign.or op_in_seq).or (op_inP (G := G) rfl hr)) (s_inD rfl) qc_non (qv 1) (by rfl)) qc_non (qv 1))))))
theorem w__law_run_in {f : Addr} {fd : FuncData} (F : Fun K "_law_run_in" "_law_run_in" s__law_run_in f fd) (m : mg "_law_run_in" = some (.ref f)) (T : Tx mg) (hsb : ∃ mm, base.Ns sysModules mm) (C__law_deed_in : Cal P w K mg base ⟨K, CA⟩ "_law_deed_in" 2 1 c__law_deed_in) : Cal P w K mg base ⟨K, CA⟩ "_law_run_in" 3 1 c__law_run_in :=
  cal_of F sc__law_run_in m (F.binds fun _ _ _ _ _ _ us hl => match us, hl with | [_], _ => rfl) rfl rfl rfl (b__law_run_in T hsb C__law_deed_in)
abbrev s_read_number : Stmt := top 10
abbrev N_read_number : List Str := ["word", "digits", "digit"]
theorem sc_read_number : FnScope N_read_number ["word"] (defScope s_read_number) := ⟨rfl, rfl, rfl, by decide +kernel, rfl, by decide +kernel, by decide +kernel⟩
theorem b_read_number (T : Tx mg) (hsb : ∃ mm, base.Ns sysModules mm)  {f : Addr} (cdv : Value) (A : Around) (outer : List Env) (s : Shared) (H : Hp) (E : XK) (hr : Room 0 (A.deeper (PyProof.Rows.envOfC "read_number" (defScope s_read_number) s.heap.objs.size f cdv))) (hgd : A.guards = some []) :
    PSs (cxOf CX0 P w K mg base N_read_number "read_number" (defScope s_read_number) f cdv A outer s H E).nox (defBody s_read_number) (tS ⟨K, CA⟩ E0 m_read_number) := by
  let G : Sig := ⟨K, CA⟩
  exact (qss_cons (qs_set (i := 1) sc_read_number.nd rfl (by first | exact Or.inl rfl | exact Or.inr rfl) (q_if (qt_tru rfl (q_bm rfl PySem.F.plainAttrs_str PySem.F.slot_str_startswith PySem.F.type_str_startswith mt_startswith tyStr s_starts (qv 0) (qa_cons qc_str qa_nil))) (q_sl rfl (qv 0) (qo_b qc_int) qo_none) (qv 0)))
      (qss_cons (qs_if (qt_pw (qw_or (qt_not (qt_chain op_le s_le op_le s_le qc_int (q_callB (call_len_seq.or (call_len_str.or call_lenD)) (s_len rfl) (by rfl) T.b_len bt_len (qa_cons (qv 1) qa_nil)) (qg_intE (by rfl) T.g_MOST_DIGITS))) (qw_or1 (qt_tru rfl (q_callB (cr_any rfl) (s_any rfl) (by rfl) T.b_any bt_any (qa_cons (q_lc (own := [("digit", 2)]) (E2 := E0) rfl sc_read_number.nd (qi_any rfl (qv 1)) (blkOk_by (N := N_read_number) (sc := (defScope s_read_number)) (by decide +kernel)) (fun _ _ _ _ _ => by exact (qg_name (i := 2) sc_read_number.nd rfl (by first | exact Or.inl rfl | exact Or.inr rfl))) (fun _ _ _ _ _ => qts_nil) (fun _ _ _ _ _ => (q_cmp ((op_notIn_sign.or op_notIn_seq).or (op_notInP (G := G) rfl hr)) (s_notInD rfl) (qv 2) (qg_strE (by rfl) T.g_DIGITS) (by rfl)))) qa_nil)))))) (qss_one (qs_ret qc_non)) qss_nil)
      (qss_cons (qs_if (qt_pw (qw_and (qt_cmp (op_eq.or (op_eqA (G := G) rfl hr)) s_eq (q_ix ix_seq (s_ix rfl) (qv 1) qc_int) qc_str (nomark _)) (qw_and1 (qt_cmp (op_ne.or (op_neA (G := G) rfl hr)) s_ne (qv 0) qc_str (nomark _))))) (qss_one (qs_ret qc_non)) qss_nil)
      (qss_one (qs_ret (q_callTy (call_int1.or call_int_str) s_int (by rfl) T.b_int bt_int (qa_cons (qv 0) qa_nil)))))))
theorem w_read_number {f : Addr} {fd : FuncData} (F : Fun K "read_number" "read_number" s_read_number f fd) (m : mg "read_number" = some (.ref f)) (T : Tx mg) (hsb : ∃ mm, base.Ns sysModules mm)  : Cal P w K mg base ⟨K, CA⟩ "read_number" 1 1 c_read_number :=
  cal_of F sc_read_number m (F.binds fun _ _ _ _ _ _ us hl => match us, hl with | [_], _ => rfl) rfl rfl rfl (b_read_number T hsb )
abbrev s_is_name : Stmt := top 6
abbrev N_is_name : List Str := ["text", "letter"]
theorem sc_is_name : FnScope N_is_name ["text"] (defScope s_is_name) := ⟨rfl, rfl, rfl, by decide +kernel, rfl, by decide +kernel, by decide +kernel⟩
theorem b_is_name (T : Tx mg) (hsb : ∃ mm, base.Ns sysModules mm)  {f : Addr} (cdv : Value) (A : Around) (outer : List Env) (s : Shared) (H : Hp) (E : XK) (hr : Room 0 (A.deeper (PyProof.Rows.envOfC "is_name" (defScope s_is_name) s.heap.objs.size f cdv))) (hgd : A.guards = some []) :
    PSs (cxOf CX0 P w K mg base N_is_name "is_name" (defScope s_is_name) f cdv A outer s H E).nox (defBody s_is_name) (tS ⟨K, CA⟩ E0 m_is_name) := by
  let G : Sig := ⟨K, CA⟩
  exact (qss_one (qs_ret (q_and (q_chain op_le s_le op_le s_le qc_int (q_callB (call_len_seq.or (call_len_str.or call_lenD)) (s_len rfl) (by rfl) T.b_len bt_len (qa_cons (qv 0) qa_nil)) (qg_intE (by rfl) T.g_MOST_LETTERS)) (q_one (q_callB (cr_all rfl) (s_all rfl) (by rfl) T.b_all bt_all (qa_cons (q_lc (own := [("letter", 1)]) (E2 := E0) rfl sc_is_name.nd (qi_any rfl (qv 0)) (blkOk_by (N := N_is_name) (sc := (defScope s_is_name)) (by decide +kernel)) (fun _ _ _ _ _ => by exact (qg_name (i := 1) sc_is_name.nd rfl (by first | exact Or.inl rfl | exact Or.inr rfl))) (fun _ _ _ _ _ => qts_nil) (fun _ _ _ _ _ => (q_cmp ((op_in_sign.or op_in_seq).or (op_inP (G := G) rfl hr)) (s_inD rfl) (qv 1) (qg_strE (by rfl) T.g_LETTERS) (by rfl)))) qa_nil))))))
theorem w_is_name {f : Addr} {fd : FuncData} (F : Fun K "is_name" "is_name" s_is_name f fd) (m : mg "is_name" = some (.ref f)) (T : Tx mg) (hsb : ∃ mm, base.Ns sysModules mm)  : Cal P w K mg base ⟨K, CA⟩ "is_name" 1 1 c_is_name :=
  cal_of F sc_is_name m (F.binds fun _ _ _ _ _ _ us hl => match us, hl with | [_], _ => rfl) rfl rfl rfl (b_is_name T hsb )
abbrev s_read_deed : Stmt := top 11
abbrev N_read_deed : List Str := ["row", "words", "number", "name"]
theorem sc_read_deed : FnScope N_read_deed ["row"] (defScope s_read_deed) := ⟨rfl, rfl, rfl, by decide +kernel, rfl, by decide +kernel, by decide +kernel⟩
theorem b_read_deed (T : Tx mg) (hsb : ∃ mm, base.Ns sysModules mm) (C_read_number : Cal P w K mg base ⟨K, CA⟩ "read_number" 1 1 c_read_number) (C_is_name : Cal P w K mg base ⟨K, CA⟩ "is_name" 1 1 c_is_name) {f : Addr} (cdv : Value) (A : Around) (outer : List Env) (s : Shared) (H : Hp) (E : XK) (hr : Room 1 (A.deeper (PyProof.Rows.envOfC "read_deed" (defScope s_read_deed) s.heap.objs.size f cdv))) (hgd : A.guards = some []) :
    PSs (cxOf CX0 P w K mg base N_read_deed "read_deed" (defScope s_read_deed) f cdv A outer s H E).nox (defBody s_read_deed) (tS ⟨K, CA⟩ E0 m_read_deed) := by
  let G : Sig := ⟨K, CA⟩
  exact (qss_cons (qs_set (i := 1) sc_read_deed.nd rfl (by first | exact Or.inl rfl | exact Or.inr rfl) (q_bm rfl PySem.F.plainAttrs_str PySem.F.slot_str_split PySem.F.type_str_split mt_split tyStr s_split (qv 0) (qa_cons qc_str qa_nil)))
      (qss_cons (qs_if (qt_cmp (op_ne.or (op_neA (G := G) rfl hr)) s_ne (q_callB (call_len_seq.or (call_len_str.or call_lenD)) (s_len rfl) (by rfl) T.b_len bt_len (qa_cons (qv 1) qa_nil)) qc_int (nomark _)) (qss_one (qs_ret qc_non)) qss_nil)
      (qss_cons (qs_set (i := 2) sc_read_deed.nd rfl (by first | exact Or.inl rfl | exact Or.inr rfl) (q_cal C_read_number hr (by decide) hgd (by rfl) (qa_cons (q_if (qt_cmp (op_eq.or (op_eqA (G := G) rfl hr)) s_eq (q_ix ix_seq (s_ix rfl) (qv 1) qc_int) qc_str (nomark _)) (q_ix ix_seq (s_ix rfl) (qv 1) qc_int) (q_ix ix_seq (s_ix rfl) (qv 1) qc_int)) qa_nil)))
      (qss_cons (qs_set (i := 3) sc_read_deed.nd rfl (by first | exact Or.inl rfl | exact Or.inr rfl) (q_if (qt_cmp (op_eq.or (op_eqA (G := G) rfl hr)) s_eq (q_ix ix_seq (s_ix rfl) (qv 1) qc_int) qc_str (nomark _)) (q_ix ix_seq (s_ix rfl) (qv 1) qc_int) (q_ix ix_seq (s_ix rfl) (qv 1) qc_int)))
      (qss_cons (qs_if (qt_pw (qw_or (qt_cmp ((op_notIn_sign.or op_notIn_seq).or (op_notInP (G := G) rfl hr)) (s_notInD rfl) (q_ix ix_seq (s_ix rfl) (qv 1) qc_int) (q_tup (qa_cons qc_str (qa_cons qc_str qa_nil))) (by rfl)) (qw_or (qt_cmp op_isN s_isN (qv 2) qc_non (nomark _)) (qw_or1 (qt_not (qt_tru rfl (q_cal C_is_name hr (by decide) hgd (by rfl) (qa_cons (qv 3) qa_nil)))))))) (qss_one (qs_ret qc_non)) qss_nil)
      (qss_one (qs_ret (q_if (qt_cmp (op_eq.or (op_eqA (G := G) rfl hr)) s_eq (q_ix ix_seq (s_ix rfl) (qv 1) qc_int) qc_str (nomark _)) (q_tup (qa_cons qc_str (qa_cons (qv 3) (qa_cons (qv 2) qa_nil)))) (q_tup (qa_cons qc_str (qa_cons (qv 2) (qa_cons (qv 3) qa_nil))))))))))))
theorem w_read_deed {f : Addr} {fd : FuncData} (F : Fun K "read_deed" "read_deed" s_read_deed f fd) (m : mg "read_deed" = some (.ref f)) (T : Tx mg) (hsb : ∃ mm, base.Ns sysModules mm) (C_read_number : Cal P w K mg base ⟨K, CA⟩ "read_number" 1 1 c_read_number) (C_is_name : Cal P w K mg base ⟨K, CA⟩ "is_name" 1 1 c_is_name) : Cal P w K mg base ⟨K, CA⟩ "read_deed" 2 1 c_read_deed :=
  cal_of F sc_read_deed m (F.binds fun _ _ _ _ _ _ us hl => match us, hl with | [_], _ => rfl) rfl rfl rfl (b_read_deed T hsb C_read_number C_is_name)
abbrev s_read_runX : Stmt := top 12
abbrev N_read_runX : List Str := ["text", "deeds", "row"]
theorem sc_read_runX : FnScope N_read_runX ["text"] (defScope s_read_runX) := ⟨rfl, rfl, rfl, by decide +kernel, rfl, by decide +kernel, by decide +kernel⟩
theorem b_read_runX (T : Tx mg) (hsb : ∃ mm, base.Ns sysModules mm) (C_read_deed : Cal P w K mg base ⟨K, CA⟩ "read_deed" 2 1 c_read_deed) (B_Unreadable : ExB P w K mg base ⟨K, CA⟩ "Unreadable" 1 1) {f : Addr} (cdv : Value) (A : Around) (outer : List Env) (s : Shared) (H : Hp) (E : XK) (hr : Room 2 (A.deeper (PyProof.Rows.envOfC "read_run" (defScope s_read_runX) s.heap.objs.size f cdv))) (hgd : A.guards = some []) :
    PSs (cxOf (L2.CX P w) P w K mg base N_read_runX "read_run" (defScope s_read_runX) f cdv A outer s H E) (defBody s_read_runX) (tS ⟨K, CA⟩ E m_read_runX) := by
  let G : Sig := ⟨K, CA⟩
  exact (qss_cons (qs_no (qs_if (qt_cmp (op_eq.or (op_eqA (G := G) rfl hr)) s_eq (qv 0) qc_str (nomark _)) (qss_one (qs_ret (q_lst qa_nil))) qss_nil))
      (qss_cons (qs_no (qs_setLc (i := 1) (own := [("row", 2)]) (E2 := E0) rfl sc_read_runX.nd rfl rfl (sw_true rfl rfl rfl (by decide +kernel)) (qi_any rfl (q_bm rfl PySem.F.plainAttrs_str PySem.F.slot_str_split PySem.F.type_str_split mt_split tyStr s_split (qv 0) (qa_cons qc_str qa_nil))) (blkOk_by (N := N_read_runX) (sc := (defScope s_read_runX)) (by decide +kernel)) (fun _ _ _ _ _ => by exact (qg_name (i := 2) sc_read_runX.nd rfl (by first | exact Or.inl rfl | exact Or.inr rfl))) (fun _ _ _ _ _ => qts_nil) (fun _ _ _ _ _ => (q_cal C_read_deed hr (by decide) hgd (by rfl) (qa_cons (qv 2) qa_nil)))))
      (qss_cons (qs_if (qt_no (qt_cmp ((op_in_sign.or op_in_seq).or (op_inP (G := G) rfl hr)) (s_inD rfl) qc_non (qv 1) (by rfl))) (qss_one (qs_raise B_Unreadable rfl tk_of hr (by decide) (by rfl) (qv 0))) qss_nil)
      (qss_one (qs_no (qs_ret (qv 1)))))))
theorem w_read_runX {f : Addr} {fd : FuncData} (F : Fun K "read_run" "read_run" s_read_runX f fd) (m : mg "read_run" = some (.ref f)) (T : Tx mg) (hsb : ∃ mm, base.Ns sysModules mm) (C_read_deed : Cal P w K mg base ⟨K, CA⟩ "read_deed" 2 1 c_read_deed) (B_Unreadable : ExB P w K mg base ⟨K, CA⟩ "Unreadable" 1 1) : CalE P w K mg base ⟨K, CA⟩ "read_run" 3 1 c_read_runX :=
  calE_of F sc_read_runX m (F.binds fun _ _ _ _ _ _ us hl => match us, hl with | [_], _ => rfl) rfl rfl rfl (b_read_runX T hsb C_read_deed B_Unreadable)
abbrev s__law_said : Stmt := top 25
abbrev N__law_said : List Str := ["text", "said", "e"]
theorem sc__law_said : FnScope N__law_said ["text"] (defScope s__law_said) := ⟨rfl, rfl, rfl, by decide +kernel, rfl, by decide +kernel, by decide +kernel⟩
theorem b__law_said (T : Tx mg) (hsb : ∃ mm, base.Ns sysModules mm) (C_read_runX : CalE P w K mg base ⟨K, CA⟩ "read_run" 3 1 c_read_runX) (B_Unreadable : ExB P w K mg base ⟨K, CA⟩ "Unreadable" 1 1) (N_PartError : mg "PartError" = some (.ref (CA 0))) (X_Unreadable_Unreadable : PySem.W.exmOne K (.ref (CA 1)) (.ref (CA 1)) = some true) (X_Unreadable_PartError : PySem.W.exmOne K (.ref (CA 1)) (.ref (CA 0)) = some true) {f : Addr} (cdv : Value) (A : Around) (outer : List Env) (s : Shared) (H : Hp) (E : XK) (hr : Room 3 (A.deeper (PyProof.Rows.envOfC "_law_said" (defScope s__law_said) s.heap.objs.size f cdv))) (hgd : A.guards = some []) :
    PSs (cxOf CX0 P w K mg base N__law_said "_law_said" (defScope s__law_said) f cdv A outer s H E).nox (defBody s__law_said) (tS ⟨K, CA⟩ E0 m__law_said) := by
  let G : Sig := ⟨K, CA⟩
  exact (qss_cons (qs_set (i := 1) sc__law_said.nd rfl (by first | exact Or.inl rfl | exact Or.inr rfl) qc_non)
      (qss_cons (qs_try (rs := [1]) (sub := (subOf [(1, 0)])) (cl := [(1, 2, (fun x => sSet 1 (evL kTup (evCons (evC (.str "Unreadable")) (evCons (evXv x) evNil))))), (0, 2, (fun _ _ _ => none))]) rfl rfl sc__law_said.nd (fun E pn xe tk po => (qss_one (qs_set (i := 1) sc__law_said.nd rfl (by first | exact Or.inl rfl | exact Or.inr rfl) (q_tup (qa_cons qc_str (qa_cons (q_calE C_read_runX tk hr (by decide) hgd (by rfl) (qa_cons (qv 0) qa_nil)) qa_nil)))))) (ClA.cons (names_of (by rfl) B_Unreadable.hm) (c := 1) (i := 2) (f := (fun x => sSet 1 (evL kTup (evCons (evC (.str "Unreadable")) (evCons (evXv x) evNil))))) rfl rfl (fun a d oe pn hz hf => psu_pair B_Unreadable.xf B_Unreadable.no hz hf sc__law_said.nd (j := 1) rfl (by first | exact Or.inl rfl | exact Or.inr rfl) (i := 2) rfl (by first | exact Or.inl rfl | exact Or.inr (Or.inl rfl) | exact Or.inr (Or.inr rfl))) (ClA.cons (names_of (by rfl) N_PartError) (c := 0) (i := 2) (f := (fun _ _ _ => none)) rfl rfl (fun a d oe pn hz hf => psu_never) ClA.nil)) (fun c hc q hq => by simp only [List.mem_cons, List.not_mem_nil, or_false] at hc hq; rcases hc with rfl <;> rcases hq with rfl | rfl <;> first | exact X_Unreadable_Unreadable | exact X_Unreadable_PartError))
      (qss_one (qs_ret (qv 1)))))
theorem w__law_said {f : Addr} {fd : FuncData} (F : Fun K "_law_said" "_law_said" s__law_said f fd) (m : mg "_law_said" = some (.ref f)) (T : Tx mg) (hsb : ∃ mm, base.Ns sysModules mm) (C_read_runX : CalE P w K mg base ⟨K, CA⟩ "read_run" 3 1 c_read_runX) (B_Unreadable : ExB P w K mg base ⟨K, CA⟩ "Unreadable" 1 1) (N_PartError : mg "PartError" = some (.ref (CA 0))) (X_Unreadable_Unreadable : PySem.W.exmOne K (.ref (CA 1)) (.ref (CA 1)) = some true) (X_Unreadable_PartError : PySem.W.exmOne K (.ref (CA 1)) (.ref (CA 0)) = some true) : Cal P w K mg base ⟨K, CA⟩ "_law_said" 4 1 c__law_said :=
  cal_of F sc__law_said m (F.binds fun _ _ _ _ _ _ us hl => match us, hl with | [_], _ => rfl) rfl rfl rfl (b__law_said T hsb C_read_runX B_Unreadable N_PartError X_Unreadable_Unreadable X_Unreadable_PartError)
abbrev s__law_asked_right : Stmt := top 26
abbrev N__law_asked_right : List Str := ["text", "deeds", "due"]
theorem sc__law_asked_right : FnScope N__law_asked_right ["text"] (defScope s__law_asked_right) := ⟨rfl, rfl, rfl, by decide +kernel, rfl, by decide +kernel, by decide +kernel⟩
theorem b__law_asked_right (T : Tx mg) (hsb : ∃ mm, base.Ns sysModules mm) (C__law_run_in : Cal P w K mg base ⟨K, CA⟩ "_law_run_in" 3 1 c__law_run_in) (C__law_said : Cal P w K mg base ⟨K, CA⟩ "_law_said" 4 1 c__law_said) {f : Addr} (cdv : Value) (A : Around) (outer : List Env) (s : Shared) (H : Hp) (E : XK) (hr : Room 4 (A.deeper (PyProof.Rows.envOfC "_law_asked_right" (defScope s__law_asked_right) s.heap.objs.size f cdv))) (hgd : A.guards = some []) :
    PSs (cxOf CX0 P w K mg base N__law_asked_right "_law_asked_right" (defScope s__law_asked_right) f cdv A outer s H E).nox (defBody s__law_asked_right) (tS ⟨K, CA⟩ E0 m__law_asked_right) := by
  let G : Sig := ⟨K, CA⟩
  exact (qss_cons (qs_set (i := 1) sc__law_asked_right.nd rfl (by first | exact Or.inl rfl | exact Or.inr rfl) (q_cal C__law_run_in hr (by decide) hgd (by rfl) (qa_cons (qv 0) qa_nil)))
      (qss_cons (qs_set (i := 2) sc__law_asked_right.nd rfl (by first | exact Or.inl rfl | exact Or.inr rfl) (q_if (qt_cmp op_isN s_isN (qv 1) qc_non (nomark _)) (q_tup (qa_cons qc_str (qa_cons (qv 0) qa_nil))) (q_tup (qa_cons qc_str (qa_cons (qv 1) qa_nil)))))
      (qss_one (qs_ret (q_cmp (op_eq.or (op_eqA (G := G) rfl hr)) s_eq (q_callB (call_reprA (G := G) rfl hr hgd hsb) s_repr (by rfl) T.b_repr bt_repr (qa_cons (q_cal C__law_said hr (by decide) hgd (by rfl) (qa_cons (qv 0) qa_nil)) qa_nil)) (q_callB (call_reprA (G := G) rfl hr hgd hsb) s_repr (by rfl) T.b_repr bt_repr (qa_cons (qv 2) qa_nil)) (nomark _))))))
theorem w__law_asked_right {f : Addr} {fd : FuncData} (F : Fun K "_law_asked_right" "_law_asked_right" s__law_asked_right f fd) (m : mg "_law_asked_right" = some (.ref f)) (T : Tx mg) (hsb : ∃ mm, base.Ns sysModules mm) (C__law_run_in : Cal P w K mg base ⟨K, CA⟩ "_law_run_in" 3 1 c__law_run_in) (C__law_said : Cal P w K mg base ⟨K, CA⟩ "_law_said" 4 1 c__law_said) : Cal P w K mg base ⟨K, CA⟩ "_law_asked_right" 5 1 c__law_asked_right :=
  cal_of F sc__law_asked_right m (F.binds fun _ _ _ _ _ _ us hl => match us, hl with | [_], _ => rfl) rfl rfl rfl (b__law_asked_right T hsb C__law_run_in C__law_said)
abbrev s__law_odd_text : Stmt := top 27
abbrev N__law_odd_text : List Str := ["well", "deeds", "rows", "words", "at", "digits", "far", "odd", "name", "deed", "row"]
theorem sc__law_odd_text : FnScope N__law_odd_text ["well", "deeds"] (defScope s__law_odd_text) := ⟨rfl, rfl, rfl, by decide +kernel, rfl, by decide +kernel, by decide +kernel⟩
theorem b__law_odd_text (T : Tx mg) (hsb : ∃ mm, base.Ns sysModules mm) (C__law_run_text : Cal P w K mg base ⟨K, CA⟩ "_law_run_text" 1 1 c__law_run_text) (C__law_draw : Cal P w K mg base ⟨K, CA⟩ "_law_draw" 1 2 c__law_draw) (C__law_is_number : Cal P w K mg base ⟨K, CA⟩ "_law_is_number" 1 1 c__law_is_number) {f : Addr} (cdv : Value) (A : Around) (outer : List Env) (s : Shared) (H : Hp) (E : XK) (hr : Room 1 (A.deeper (PyProof.Rows.envOfC "_law_odd_text" (defScope s__law_odd_text) s.heap.objs.size f cdv))) (hgd : A.guards = some []) :
    PSs (cxOf CX0 P w K mg base N__law_odd_text "_law_odd_text" (defScope s__law_odd_text) f cdv A outer s H E).nox (defBody s__law_odd_text) (tS ⟨K, CA⟩ E0 m__law_odd_text) := by
  let G : Sig := ⟨K, CA⟩
  exact (qss_cons (qs_setLc (i := 2) (own := [("deed", 9)]) (E2 := E0) rfl sc__law_odd_text.nd rfl rfl (sw_true rfl rfl rfl (by decide +kernel)) (qi_any rfl (qv 1)) (blkOk_by (N := N__law_odd_text) (sc := (defScope s__law_odd_text)) (by decide +kernel)) (fun _ _ _ _ _ => by exact (qg_name (i := 9) sc__law_odd_text.nd rfl (by first | exact Or.inl rfl | exact Or.inr rfl))) (fun _ _ _ _ _ => qts_nil) (fun _ _ _ _ _ => (q_bm rfl PySem.F.plainAttrs_str PySem.F.slot_str_split PySem.F.type_str_split mt_split tyStr s_splitC (q_cal C__law_run_text hr (by decide) hgd (by rfl) (qa_cons (q_lst (qa_cons (qv 9) qa_nil)) qa_nil)) (qa_cons qc_str qa_nil))))
      (qss_cons (qs_set (i := 3) sc__law_odd_text.nd rfl (by first | exact Or.inl rfl | exact Or.inr rfl) (q_ix ix_seq (s_ix rfl) (qv 2) (q_cal C__law_draw hr (by decide) hgd (by rfl) (qa_cons (qv 0) (qa_cons (q_callB (call_len_seq.or (call_len_str.or call_lenD)) (s_len rfl) (by rfl) T.b_len bt_len (qa_cons (qv 2) qa_nil)) qa_nil)))))
      (qss_cons (qs_set (i := 4) sc__law_odd_text.nd rfl (by first | exact Or.inl rfl | exact Or.inr rfl) (q_add qc_int (q_cal C__law_draw hr (by decide) hgd (by rfl) (qa_cons (qv 0) (qa_cons qc_int qa_nil)))))
      (qss_cons (qs_if (qt_tru rfl (q_cal C__law_is_number hr (by decide) hgd (by rfl) (qa_cons (q_ix ix_seq (s_ix rfl) (qv 3) (qv 4)) qa_nil))) (qss_cons (qs_set (i := 5) sc__law_odd_text.nd rfl (by first | exact Or.inl rfl | exact Or.inr rfl) (q_bm rfl PySem.F.plainAttrs_str PySem.F.slot_str_lstrip PySem.F.type_str_lstrip mt_lstripChars tyStr s_lstrip (q_ix ix_seq (s_ix rfl) (qv 3) (qv 4)) (qa_cons qc_str qa_nil)))
      (qss_cons (qs_set (i := 6) sc__law_odd_text.nd rfl (by first | exact Or.inl rfl | exact Or.inr rfl) (q_mul2 qc_str qc_int))
      (qss_cons (qs_set (i := 7) sc__law_odd_text.nd rfl (by first | exact Or.inl rfl | exact Or.inr rfl) (q_lst (qa_cons (q_add qc_str (qv 5)) (qa_cons (q_add qc_str (qv 5)) (qa_cons qc_str (qa_cons (q_add qc_str (qv 5)) (qa_cons (q_add qc_str (qv 5)) qa_nil)))))))
      (qss_cons (qs_set (i := 7) sc__law_odd_text.nd rfl (by first | exact Or.inl rfl | exact Or.inr rfl) (q_add (qv 7) (q_lst (qa_cons (qv 6) (qa_cons (q_add (qv 6) qc_str) (qa_cons (q_add qc_str (qv 6)) (qa_cons (q_add (qv 5) qc_str) qa_nil)))))))
      (qss_one (qs_sub set_list s_setAt (q_ix ix_seq (s_ix rfl) (qv 7) (q_cal C__law_draw hr (by decide) hgd (by rfl) (qa_cons (qv 0) (qa_cons qc_int qa_nil)))) (qv 3) (qv 4))))))) (qss_cons (qs_set (i := 8) sc__law_odd_text.nd rfl (by first | exact Or.inl rfl | exact Or.inr rfl) (q_ix ix_seq (s_ix rfl) (qv 3) (qv 4)))
      (qss_cons (qs_set (i := 7) sc__law_odd_text.nd rfl (by first | exact Or.inl rfl | exact Or.inr rfl) (q_lst (qa_cons (q_sl rfl (q_mul2 (qv 8) qc_int) qo_none (qo_b qc_int)) (qa_cons (q_sl rfl (q_mul2 (qv 8) qc_int) qo_none (qo_b qc_int)) (qa_cons (q_bm0 rfl PySem.F.plainAttrs_str PySem.F.slot_str_upper PySem.F.type_str_upper mt_upper tyStr s_upper (qv 8)) (qa_cons qc_str (qa_cons (q_add (qv 8) qc_str) qa_nil)))))))
      (qss_cons (qs_set (i := 7) sc__law_odd_text.nd rfl (by first | exact Or.inl rfl | exact Or.inr rfl) (q_add (qv 7) (q_lst (qa_cons (q_add (q_sl rfl (qv 8) qo_none (qo_b qc_int)) qc_str) (qa_cons qc_str (qa_cons qc_str (qa_cons (q_add (qv 8) qc_str) qa_nil)))))))
      (qss_one (qs_sub set_list s_setAt (q_ix ix_seq (s_ix rfl) (qv 7) (q_cal C__law_draw hr (by decide) hgd (by rfl) (qa_cons (qv 0) (qa_cons qc_int qa_nil)))) (qv 3) (qv 4)))))))
      (qss_one (qs_ret (q_bm rfl PySem.F.plainAttrs_str PySem.F.slot_str_join PySem.F.type_str_join mt_join tyStr (s_join rfl) qc_str (qa_cons (q_lc (own := [("row", 10)]) (E2 := E0) rfl sc__law_odd_text.nd (qi_any rfl (qv 2)) (blkOk_by (N := N__law_odd_text) (sc := (defScope s__law_odd_text)) (by decide +kernel)) (fun _ _ _ _ _ => by exact (qg_name (i := 10) sc__law_odd_text.nd rfl (by first | exact Or.inl rfl | exact Or.inr rfl))) (fun _ _ _ _ _ => qts_nil) (fun _ _ _ _ _ => (q_bm rfl PySem.F.plainAttrs_str PySem.F.slot_str_join PySem.F.type_str_join mt_join tyStr (s_join rfl) qc_str (qa_cons (qv 10) qa_nil)))) qa_nil))))))))
theorem w__law_odd_text {f : Addr} {fd : FuncData} (F : Fun K "_law_odd_text" "_law_odd_text" s__law_odd_text f fd) (m : mg "_law_odd_text" = some (.ref f)) (T : Tx mg) (hsb : ∃ mm, base.Ns sysModules mm) (C__law_run_text : Cal P w K mg base ⟨K, CA⟩ "_law_run_text" 1 1 c__law_run_text) (C__law_draw : Cal P w K mg base ⟨K, CA⟩ "_law_draw" 1 2 c__law_draw) (C__law_is_number : Cal P w K mg base ⟨K, CA⟩ "_law_is_number" 1 1 c__law_is_number) : Cal P w K mg base ⟨K, CA⟩ "_law_odd_text" 2 2 c__law_odd_text :=
  cal_of F sc__law_odd_text m (F.binds fun _ _ _ _ _ _ us hl => match us, hl with | [_, _], _ => rfl) rfl rfl rfl (b__law_odd_text T hsb C__law_run_text C__law_draw C__law_is_number)
abbrev s__law_spoiled : Stmt := top 24
abbrev N__law_spoiled : List Str := ["well", "text", "signs", "k", "way", "at", "sign", "pair", "mark", "pieces", "piece"]
theorem sc__law_spoiled : FnScope N__law_spoiled ["well", "text"] (defScope s__law_spoiled) := ⟨rfl, rfl, rfl, by decide +kernel, rfl, by decide +kernel, by decide +kernel⟩
theorem b__law_spoiled (T : Tx mg) (hsb : ∃ mm, base.Ns sysModules mm) (C__law_draw : Cal P w K mg base ⟨K, CA⟩ "_law_draw" 1 2 c__law_draw) {f : Addr} (cdv : Value) (A : Around) (outer : List Env) (s : Shared) (H : Hp) (E : XK) (hr : Room 1 (A.deeper (PyProof.Rows.envOfC "_law_spoiled" (defScope s__law_spoiled) s.heap.objs.size f cdv))) (hgd : A.guards = some []) :
    PSs (cxOf CX0 P w K mg base N__law_spoiled "_law_spoiled" (defScope s__law_spoiled) f cdv A outer s H E).nox (defBody s__law_spoiled) (tS ⟨K, CA⟩ E0 m__law_spoiled) := by
  let G : Sig := ⟨K, CA⟩
  exact (qss_cons (qs_set (i := 2) sc__law_spoiled.nd rfl (by first | exact Or.inl rfl | exact Or.inr rfl) qc_str)
      (qss_cons (qs_for PassesOwn.never rfl (qi_range1 (by rfl) T.b_range (qa_cons (q_add qc_int (q_div (q_cal C__law_draw hr (by decide) hgd (by rfl) (qa_cons (qv 0) (qa_cons qc_int qa_nil))) qc_int)) qa_nil)) (qg_name (i := 3) sc__law_spoiled.nd rfl (by first | exact Or.inl rfl | exact Or.inr rfl)) (qss_cons (qs_set (i := 4) sc__law_spoiled.nd rfl (by first | exact Or.inl rfl | exact Or.inr rfl) (q_cal C__law_draw hr (by decide) hgd (by rfl) (qa_cons (qv 0) (qa_cons qc_int qa_nil))))
      (qss_cons (qs_set (i := 5) sc__law_spoiled.nd rfl (by first | exact Or.inl rfl | exact Or.inr rfl) (q_cal C__law_draw hr (by decide) hgd (by rfl) (qa_cons (qv 0) (qa_cons (q_add (q_callB (call_len_seq.or (call_len_str.or call_lenD)) (s_len rfl) (by rfl) T.b_len bt_len (qa_cons (qv 1) qa_nil)) qc_int) qa_nil))))
      (qss_cons (qs_set (i := 6) sc__law_spoiled.nd rfl (by first | exact Or.inl rfl | exact Or.inr rfl) (q_ix ix_seq (s_ix rfl) (qv 2) (q_cal C__law_draw hr (by decide) hgd (by rfl) (qa_cons (qv 0) (qa_cons (q_callB (call_len_seq.or (call_len_str.or call_lenD)) (s_len rfl) (by rfl) T.b_len bt_len (qa_cons (qv 2) qa_nil)) qa_nil)))))
      (qss_one (qs_if (qt_cmp (op_eq.or (op_eqA (G := G) rfl hr)) s_eq (qv 4) qc_int (nomark _)) (qss_one (qs_set (i := 1) sc__law_spoiled.nd rfl (by first | exact Or.inl rfl | exact Or.inr rfl) (q_add (q_add (q_sl rfl (qv 1) qo_none (qo_b (qv 5))) (qv 6)) (q_sl rfl (qv 1) (qo_b (qv 5)) qo_none)))) (qss_one (qs_if (qt_cmp (op_eq.or (op_eqA (G := G) rfl hr)) s_eq (qv 4) qc_int (nomark _)) (qss_one (qs_set (i := 1) sc__law_spoiled.nd rfl (by first | exact Or.inl rfl | exact Or.inr rfl) (q_add (q_sl rfl (qv 1) qo_none (qo_b (qv 5))) (q_sl rfl (qv 1) (qo_b (q_add (qv 5) qc_int)) qo_none)))) (qss_one (qs_if (qt_cmp (op_eq.or (op_eqA (G := G) rfl hr)) s_eq (qv 4) qc_int (nomark _)) (qss_one (qs_set (i := 1) sc__law_spoiled.nd rfl (by first | exact Or.inl rfl | exact Or.inr rfl) (q_add (q_add (q_sl rfl (qv 1) qo_none (qo_b (qv 5))) (qv 6)) (q_sl rfl (qv 1) (qo_b (q_add (qv 5) qc_int)) qo_none)))) (qss_one (qs_if (qt_cmp (op_eq.or (op_eqA (G := G) rfl hr)) s_eq (qv 4) qc_int (nomark _)) (qss_cons (qs_set (i := 7) sc__law_spoiled.nd rfl (by first | exact Or.inl rfl | exact Or.inr rfl) (q_sl rfl (qv 1) (qo_b (qv 5)) (qo_b (q_add (qv 5) qc_int))))
      (qss_one (qs_set (i := 1) sc__law_spoiled.nd rfl (by first | exact Or.inl rfl | exact Or.inr rfl) (q_add (q_add (q_sl rfl (qv 1) qo_none (qo_b (qv 5))) (q_revS (qv 7))) (q_sl rfl (qv 1) (qo_b (q_add (qv 5) qc_int)) qo_none))))) (qss_cons (qs_set (i := 8) sc__law_spoiled.nd rfl (by first | exact Or.inl rfl | exact Or.inr rfl) (q_ix ix_seq (s_ix rfl) (q_lst (qa_cons qc_str (qa_cons qc_str (qa_cons qc_str qa_nil)))) (q_cal C__law_draw hr (by decide) hgd (by rfl) (qa_cons (qv 0) (qa_cons qc_int qa_nil)))))
      (qss_cons (qs_set (i := 9) sc__law_spoiled.nd rfl (by first | exact Or.inl rfl | exact Or.inr rfl) (q_bm rfl PySem.F.plainAttrs_str PySem.F.slot_str_split PySem.F.type_str_split mt_split tyStr s_splitC (qv 1) (qa_cons (qv 8) qa_nil)))
      (qss_cons (qs_set (i := 10) sc__law_spoiled.nd rfl (by first | exact Or.inl rfl | exact Or.inr rfl) (q_bm rfl PySem.F.plainAttrs_list PySem.F.slot_list_pop PySem.F.type_list_pop mt_popAt tyLst s_popAt (qv 9) (qa_cons (q_cal C__law_draw hr (by decide) hgd (by rfl) (qa_cons (qv 0) (qa_cons (q_callB (call_len_seq.or (call_len_str.or call_lenD)) (s_len rfl) (by rfl) T.b_len bt_len (qa_cons (qv 9) qa_nil)) qa_nil))) qa_nil)))
      (qss_cons (qs_if (qt_cmp op_gt s_gt (q_cal C__law_draw hr (by decide) hgd (by rfl) (qa_cons (qv 0) (qa_cons qc_int qa_nil))) qc_int (nomark _)) (qss_one (qs_expr (q_bm rfl PySem.F.plainAttrs_list PySem.F.slot_list_insert PySem.F.type_list_insert mt_insert tyLst s_insert (qv 9) (qa_cons (q_cal C__law_draw hr (by decide) hgd (by rfl) (qa_cons (qv 0) (qa_cons (q_add (q_callB (call_len_seq.or (call_len_str.or call_lenD)) (s_len rfl) (by rfl) T.b_len bt_len (qa_cons (qv 9) qa_nil)) qc_int) qa_nil))) (qa_cons (qv 10) qa_nil))))) qss_nil)
      (qss_one (qs_set (i := 1) sc__law_spoiled.nd rfl (by first | exact Or.inl rfl | exact Or.inr rfl) (q_bm rfl PySem.F.plainAttrs_str PySem.F.slot_str_join PySem.F.type_str_join mt_join tyStr (s_join rfl) (qv 8) (qa_cons (qv 9) qa_nil))))))))))))))))))))
      (qss_one (qs_ret (qv 1)))))
theorem w__law_spoiled {f : Addr} {fd : FuncData} (F : Fun K "_law_spoiled" "_law_spoiled" s__law_spoiled f fd) (m : mg "_law_spoiled" = some (.ref f)) (T : Tx mg) (hsb : ∃ mm, base.Ns sysModules mm) (C__law_draw : Cal P w K mg base ⟨K, CA⟩ "_law_draw" 1 2 c__law_draw) : Cal P w K mg base ⟨K, CA⟩ "_law_spoiled" 2 2 c__law_spoiled :=
  cal_of F sc__law_spoiled m (F.binds fun _ _ _ _ _ _ us hl => match us, hl with | [_, _], _ => rfl) rfl rfl rfl (b__law_spoiled T hsb C__law_draw)
abbrev s__law_right : Stmt := top 28
abbrev N__law_right : List Str := ["well", "deeds", "text", "k", "odd"]
theorem sc__law_right : FnScope N__law_right ["well"] (defScope s__law_right) := ⟨rfl, rfl, rfl, by decide +kernel, rfl, by decide +kernel, by decide +kernel⟩
theorem b__law_right (T : Tx mg) (hsb : ∃ mm, base.Ns sysModules mm) (C__law_draw : Cal P w K mg base ⟨K, CA⟩ "_law_draw" 1 2 c__law_draw) (C__law_wild : Cal P w K mg base ⟨K, CA⟩ "_law_wild" 3 1 c__law_wild) (C__law_run_text : Cal P w K mg base ⟨K, CA⟩ "_law_run_text" 1 1 c__law_run_text) (C__law_spoiled : Cal P w K mg base ⟨K, CA⟩ "_law_spoiled" 2 2 c__law_spoiled) (C__law_asked_right : Cal P w K mg base ⟨K, CA⟩ "_law_asked_right" 5 1 c__law_asked_right) (C__law_odd_text : Cal P w K mg base ⟨K, CA⟩ "_law_odd_text" 2 2 c__law_odd_text) {f : Addr} (cdv : Value) (A : Around) (outer : List Env) (s : Shared) (H : Hp) (E : XK) (hr : Room 5 (A.deeper (PyProof.Rows.envOfC "_law_right" (defScope s__law_right) s.heap.objs.size f cdv))) (hgd : A.guards = some []) :
    PSs (cxOf CX0 P w K mg base N__law_right "_law_right" (defScope s__law_right) f cdv A outer s H E).nox (defBody s__law_right) (tS ⟨K, CA⟩ E0 m__law_right) := by
  let G : Sig := ⟨K, CA⟩
  exact (qss_cons (qs_setLc (i := 1) (own := [("k", 3)]) (E2 := E0) rfl sc__law_right.nd rfl rfl (sw_true rfl rfl rfl (by decide +kernel)) (qi_range1 (by rfl) T.b_range (qa_cons (q_cal C__law_draw hr (by decide) hgd (by rfl) (qa_cons (qv 0) (qa_cons qc_int qa_nil))) qa_nil)) (blkOk_by (N := N__law_right) (sc := (defScope s__law_right)) (by decide +kernel)) (fun _ _ _ _ _ => by exact (qg_name (i := 3) sc__law_right.nd rfl (by first | exact Or.inl rfl | exact Or.inr rfl))) (fun _ _ _ _ _ => qts_nil) (fun _ _ _ _ _ => (q_cal C__law_wild hr (by decide) hgd (by rfl) (qa_cons (qv 0) qa_nil))))
      (qss_cons (qs_set (i := 2) sc__law_right.nd rfl (by first | exact Or.inl rfl | exact Or.inr rfl) (q_cal C__law_run_text hr (by decide) hgd (by rfl) (qa_cons (qv 1) qa_nil)))
      (qss_cons (qs_for PassesOwn.never rfl (qi_range1 (by rfl) T.b_range (qa_cons qc_int qa_nil)) (qg_name (i := 3) sc__law_right.nd rfl (by first | exact Or.inl rfl | exact Or.inr rfl)) (qss_one (qs_if (qt_pw (qw_or (qt_not (qt_tru rfl (q_cal C__law_asked_right hr (by decide) hgd (by rfl) (qa_cons (q_cal C__law_spoiled hr (by decide) hgd (by rfl) (qa_cons (qv 0) (qa_cons (qv 2) qa_nil))) qa_nil)))) (qw_or1 (qt_not (qt_tru rfl (q_cal C__law_asked_right hr (by decide) hgd (by rfl) (qa_cons (qv 2) qa_nil))))))) (qss_one (qs_ret qc_bl)) qss_nil)))
      (qss_cons (qs_if (qt_cmp (op_eq.or (op_eqA (G := G) rfl hr)) s_eq (qv 1) (q_lst qa_nil) (nomark _)) (qss_one (qs_ret (q_callB (cr_all rfl) (s_all rfl) (by rfl) T.b_all bt_all (qa_cons (q_lc (own := [("odd", 4)]) (E2 := E0) rfl sc__law_right.nd (qi_any rfl (q_lst (qa_cons qc_str (qa_cons qc_str (qa_cons qc_str (qa_cons qc_str qa_nil)))))) (blkOk_by (N := N__law_right) (sc := (defScope s__law_right)) (by decide +kernel)) (fun _ _ _ _ _ => by exact (qg_name (i := 4) sc__law_right.nd rfl (by first | exact Or.inl rfl | exact Or.inr rfl))) (fun _ _ _ _ _ => qts_nil) (fun _ _ _ _ _ => (q_cal C__law_asked_right hr (by decide) hgd (by rfl) (qa_cons (qv 4) qa_nil)))) qa_nil)))) qss_nil)
      (qss_one (qs_ret (q_and (q_cal C__law_asked_right hr (by decide) hgd (by rfl) (qa_cons (q_cal C__law_odd_text hr (by decide) hgd (by rfl) (qa_cons (qv 0) (qa_cons (qv 1) qa_nil))) qa_nil)) (q_one (q_cal C__law_asked_right hr (by decide) hgd (by rfl) (qa_cons (qv 2) qa_nil))))))))))
theorem w__law_right {f : Addr} {fd : FuncData} (F : Fun K "_law_right" "_law_right" s__law_right f fd) (m : mg "_law_right" = some (.ref f)) (T : Tx mg) (hsb : ∃ mm, base.Ns sysModules mm) (C__law_draw : Cal P w K mg base ⟨K, CA⟩ "_law_draw" 1 2 c__law_draw) (C__law_wild : Cal P w K mg base ⟨K, CA⟩ "_law_wild" 3 1 c__law_wild) (C__law_run_text : Cal P w K mg base ⟨K, CA⟩ "_law_run_text" 1 1 c__law_run_text) (C__law_spoiled : Cal P w K mg base ⟨K, CA⟩ "_law_spoiled" 2 2 c__law_spoiled) (C__law_asked_right : Cal P w K mg base ⟨K, CA⟩ "_law_asked_right" 5 1 c__law_asked_right) (C__law_odd_text : Cal P w K mg base ⟨K, CA⟩ "_law_odd_text" 2 2 c__law_odd_text) : Cal P w K mg base ⟨K, CA⟩ "_law_right" 6 1 c__law_right :=
  cal_of F sc__law_right m (F.binds fun _ _ _ _ _ _ us hl => match us, hl with | [_], _ => rfl) rfl rfl rfl (b__law_right T hsb C__law_draw C__law_wild C__law_run_text C__law_spoiled C__law_asked_right C__law_odd_text)
abbrev s__law_well : Stmt := top 14
abbrev N__law_well : List Str := ["cell", "k", "size"]
theorem sc__law_well : FnScope N__law_well ["cell", "k"] (defScope s__law_well) := ⟨rfl, rfl, rfl, by decide +kernel, rfl, by decide +kernel, by decide +kernel⟩
theorem b__law_well (T : Tx mg) (hsb : ∃ mm, base.Ns sysModules mm)  {f : Addr} (cdv : Value) (A : Around) (outer : List Env) (s : Shared) (H : Hp) (E : XK) (hr : Room 0 (A.deeper (PyProof.Rows.envOfC "_law_well" (defScope s__law_well) s.heap.objs.size f cdv))) (hgd : A.guards = some []) :
    PSs (cxOf CX0 P w K mg base N__law_well "_law_well" (defScope s__law_well) f cdv A outer s H E).nox (defBody s__law_well) (tS ⟨K, CA⟩ E0 m__law_well) := by
  let G : Sig := ⟨K, CA⟩
  exact (qss_cons (qs_set (i := 2) sc__law_well.nd rfl (by first | exact Or.inl rfl | exact Or.inr rfl) (q_callB ((call_max2 rfl).or (cr_max rfl)) (s_max rfl) (by rfl) T.b_max bt_max (qa_cons (qv 0) (qa_cons (q_sub qc_int (qv 0)) qa_nil))))
      (qss_one (qs_ret (q_lstC (qa_cons (q_callB ((call_max2 rfl).or (cr_max rfl)) (s_max rfl) (by rfl) T.b_max bt_max (qa_cons qc_int (qa_cons (q_sub (qv 2) (q_pow qc_int qc_int)) qa_nil))) (qa_cons (q_mod (q_callTy (call_int1.or call_int_str) s_int (by rfl) T.b_int bt_int (qa_cons (q_add (q_mul (qv 0) qc_int) (q_mul (q_add (qv 1) qc_int) qc_int)) qa_nil)) (q_add (q_pow qc_int qc_int) qc_int)) (qa_cons qc_int qa_nil)))))))
theorem w__law_well {f : Addr} {fd : FuncData} (F : Fun K "_law_well" "_law_well" s__law_well f fd) (m : mg "_law_well" = some (.ref f)) (T : Tx mg) (hsb : ∃ mm, base.Ns sysModules mm)  : Cal P w K mg base ⟨K, CA⟩ "_law_well" 1 2 c__law_well :=
  cal_of F sc__law_well m (F.binds fun _ _ _ _ _ _ us hl => match us, hl with | [_, _], _ => rfl) rfl rfl rfl (b__law_well T hsb )
abbrev s_law : Stmt := top 29
abbrev N_law : List Str := ["script", "cells", "k"]
theorem sc_law : FnScope N_law ["script"] (defScope s_law) := ⟨rfl, rfl, rfl, by decide +kernel, rfl, by decide +kernel, by decide +kernel⟩
theorem b_law (T : Tx mg) (hsb : ∃ mm, base.Ns sysModules mm) (C__law_well : Cal P w K mg base ⟨K, CA⟩ "_law_well" 1 2 c__law_well) (C__law_right : Cal P w K mg base ⟨K, CA⟩ "_law_right" 6 1 c__law_right) {f : Addr} (cdv : Value) (A : Around) (outer : List Env) (s : Shared) (H : Hp) (E : XK) (hr : Room 6 (A.deeper (PyProof.Rows.envOfC "law" (defScope s_law) s.heap.objs.size f cdv))) (hgd : A.guards = some []) :
    PSs (cxOf CX0 P w K mg base N_law "law" (defScope s_law) f cdv A outer s H E).nox (defBody s_law) (tS ⟨K, CA⟩ E0 m_law) := by
  let G : Sig := ⟨K, CA⟩
  exact (qss_cons (qs_set (i := 1) sc_law.nd rfl (by first | exact Or.inl rfl | exact Or.inr rfl) (q_add (q_sl rfl (qv 0) qo_none (qo_b qc_int)) (q_mul (q_lst (qa_cons qc_int qa_nil)) (q_callTy (call_int1.or call_int_str) s_int (by rfl) T.b_int bt_int (qa_cons (q_cmp (op_eq.or (op_eqA (G := G) rfl hr)) s_eq (qv 0) (q_lst qa_nil) (nomark _)) qa_nil)))))
      (qss_cons (qs_for PassesOwn.never rfl (qi_range1 (by rfl) T.b_range (qa_cons (q_callB (call_len_seq.or (call_len_str.or call_lenD)) (s_len rfl) (by rfl) T.b_len bt_len (qa_cons (qv 1) qa_nil)) qa_nil)) (qg_name (i := 2) sc_law.nd rfl (by first | exact Or.inl rfl | exact Or.inr rfl)) (qss_one (qs_if (qt_not (qt_tru rfl (q_cal C__law_right hr (by decide) hgd (by rfl) (qa_cons (q_cal C__law_well hr (by decide) hgd (by rfl) (qa_cons (q_ix ix_seq (s_ix rfl) (qv 1) (qv 2)) (qa_cons (qv 2) qa_nil))) qa_nil)))) (qss_one (qs_ret qc_bl)) qss_nil)))
      (qss_one (qs_ret qc_bl))))
theorem wF_law {f : Addr} {fd : FuncData} (F : Fun K "law" "law" s_law f fd) (T : Tx mg) (hsb : ∃ mm, base.Ns sysModules mm) (C__law_well : Cal P w K mg base ⟨K, CA⟩ "_law_well" 1 2 c__law_well) (C__law_right : Cal P w K mg base ⟨K, CA⟩ "_law_right" 6 1 c__law_right) : FnG P w K mg base CX0 7 f fd ["script"] (spI ⟨K, CA⟩ 1 c_law) :=
  fnG_by F sc_law rfl rfl rfl (b_law T hsb C__law_well C__law_right)
end
end Lw

set_option Elab.async false
set_option linter.all false
set_option maxRecDepth 100000
set_option maxHeartbeats 4000000
namespace Lw
open PySem L2 PV
open PyProof.Rows
theorem all_mk {l : PySem.W.OpenLaw} {w : World} {K : PySem.W.Frag} {h : Heap} {mg : Str → Option Value} {fa : Addr} (X : K.In h) (G : h.Ns mainGlobals mg) (hfa : mg "law" = some (.ref fa))
    {fI C0 C1 f0 f1 f2 f3 f4 f5 f6 f7 f8 f9 f10 f11 f12 f13 f14 f15 f16 f17 f18 f19 : Addr} {od0 an0 : Option Addr} {sl0 : Array (Option Value)} {oc0 kV0 dc0 pm0 cd0 ct0 : Value} {od1 an1 : Option Addr} {sl1 : Array (Option Value)} {oc1 kV1 dc1 pm1 cd1 ct1 : Value} {od2 an2 : Option Addr} {sl2 : Array (Option Value)} {oc2 kV2 dc2 pm2 cd2 ct2 : Value} {od3 an3 : Option Addr} {sl3 : Array (Option Value)} {oc3 kV3 dc3 pm3 cd3 ct3 : Value} {od4 an4 : Option Addr} {sl4 : Array (Option Value)} {oc4 kV4 dc4 pm4 cd4 ct4 : Value} {od5 an5 : Option Addr} {sl5 : Array (Option Value)} {oc5 kV5 dc5 pm5 cd5 ct5 : Value} {od6 an6 : Option Addr} {sl6 : Array (Option Value)} {oc6 kV6 dc6 pm6 cd6 ct6 : Value} {od7 an7 : Option Addr} {sl7 : Array (Option Value)} {oc7 kV7 dc7 pm7 cd7 ct7 : Value} {od8 an8 : Option Addr} {sl8 : Array (Option Value)} {oc8 kV8 dc8 pm8 cd8 ct8 : Value} {od9 an9 : Option Addr} {sl9 : Array (Option Value)} {oc9 kV9 dc9 pm9 cd9 ct9 : Value} {od10 an10 : Option Addr} {sl10 : Array (Option Value)} {oc10 kV10 dc10 pm10 cd10 ct10 : Value} {od11 an11 : Option Addr} {sl11 : Array (Option Value)} {oc11 kV11 dc11 pm11 cd11 ct11 : Value} {od12 an12 : Option Addr} {sl12 : Array (Option Value)} {oc12 kV12 dc12 pm12 cd12 ct12 : Value} {od13 an13 : Option Addr} {sl13 : Array (Option Value)} {oc13 kV13 dc13 pm13 cd13 ct13 : Value} {od14 an14 : Option Addr} {sl14 : Array (Option Value)} {oc14 kV14 dc14 pm14 cd14 ct14 : Value} {od15 an15 : Option Addr} {sl15 : Array (Option Value)} {oc15 kV15 dc15 pm15 cd15 ct15 : Value} {od16 an16 : Option Addr} {sl16 : Array (Option Value)} {oc16 kV16 dc16 pm16 cd16 ct16 : Value} {od17 an17 : Option Addr} {sl17 : Array (Option Value)} {oc17 kV17 dc17 pm17 cd17 ct17 : Value} {od18 an18 : Option Addr} {sl18 : Array (Option Value)} {oc18 kV18 dc18 pm18 cd18 ct18 : Value} {od19 an19 : Option Addr} {sl19 : Array (Option Value)} {oc19 kV19 dc19 pm19 cd19 ct19 : Value}
    (aE0 : PySem.W.nsIn K mainGlobals "PartError" = some (some (.ref C0)))
    (eb0 : PySem.W.subIn K (.ref C0) (.type "BaseException") = some true)
    (et0 : PySem.W.typeIn K (.ref C0) = some (.type "type"))
    (ed0 : PySem.W.hasDictIn K C0 = true)
    (aE1 : PySem.W.nsIn K mainGlobals "Unreadable" = some (some (.ref C1)))
    (eb1 : PySem.W.subIn K (.ref C1) (.type "BaseException") = some true)
    (et1 : PySem.W.typeIn K (.ref C1) = some (.type "type"))
    (ed1 : PySem.W.hasDictIn K C1 = true)
    (el1 : ∃ nm q N bs bm sn sub ab col dd k0 k1 k2 k3 k5, K.lookup C1 = some (excClassObj nm q C1 N bs bm true sn sub ab col dd k0 k1 k2 k3 k5 "ValueError.__new__") ∧ PySem.HandSPX.refsVE bm = true)
    (es1 : PySem.W.findIn K (.ref C1) "__setattr__" = some (some (.builtin "object.__setattr__")))
    (ek1 : PySem.W.keepIn K (.ref C1) = true)
    (eg1 : PySem.W.findIn K (.ref C1) "__getattribute__" = some (some (.builtin "BaseException.__getattribute__")))
    (eh1 : PySem.W.findIn K (.ref C1) "__getattr__" = some none)
    (ev1 : PySem.W.findIn K (.ref C1) "value" = some none)
    (ei1 : PySem.W.findIn K (.ref C1) "__init__" = some (some (.ref fI)))
    {odI anI : Option Addr} {slI : Array (Option Value)} {ocI kVI dcI pmI cdI ctI : Value}
    (tI : PySem.W.typeIn K (.ref fI) = some (.type "function"))
    (lI : K.lookup fI = some ⟨ocI, odI, .func (PySem.W.fnOf "__init__" "PartError.__init__" (defArgs s_EI) (defBody s_EI) (defScope s_EI) .none kVI dcI pmI anI cdI ctI), slI⟩)
    (cI : PySem.W.codeIn K cdI "PartError.__init__" = true)
    (kI : PySem.W.keepIn K (.ref fI) = true)
    (sb1_0 : PySem.W.subIn K (.ref C1) (.ref C0) = some true)
    (sb1_1 : PySem.W.subIn K (.ref C1) (.ref C1) = some true)
    (a0 : PySem.W.nsIn K mainGlobals "_law_run_text" = some (some (.ref f0)))
    (l0 : K.lookup f0 = some ⟨oc0, od0, .func (PySem.W.fnOf "_law_run_text" "_law_run_text" (defArgs s__law_run_text) (defBody s__law_run_text) (defScope s__law_run_text) .none kV0 dc0 pm0 an0 cd0 ct0), sl0⟩)
    (c0 : PySem.W.codeIn K cd0 "_law_run_text" = true)
    (k0 : PySem.W.keepIn K (.ref f0) = true)
    (a1 : PySem.W.nsIn K mainGlobals "_law_draw" = some (some (.ref f1)))
    (l1 : K.lookup f1 = some ⟨oc1, od1, .func (PySem.W.fnOf "_law_draw" "_law_draw" (defArgs s__law_draw) (defBody s__law_draw) (defScope s__law_draw) .none kV1 dc1 pm1 an1 cd1 ct1), sl1⟩)
    (c1 : PySem.W.codeIn K cd1 "_law_draw" = true)
    (k1 : PySem.W.keepIn K (.ref f1) = true)
    (a2 : PySem.W.nsIn K mainGlobals "_law_integer" = some (some (.ref f2)))
    (l2 : K.lookup f2 = some ⟨oc2, od2, .func (PySem.W.fnOf "_law_integer" "_law_integer" (defArgs s__law_integer) (defBody s__law_integer) (defScope s__law_integer) .none kV2 dc2 pm2 an2 cd2 ct2), sl2⟩)
    (c2 : PySem.W.codeIn K cd2 "_law_integer" = true)
    (k2 : PySem.W.keepIn K (.ref f2) = true)
    (a3 : PySem.W.nsIn K mainGlobals "_law_word" = some (some (.ref f3)))
    (l3 : K.lookup f3 = some ⟨oc3, od3, .func (PySem.W.fnOf "_law_word" "_law_word" (defArgs s__law_word) (defBody s__law_word) (defScope s__law_word) .none kV3 dc3 pm3 an3 cd3 ct3), sl3⟩)
    (c3 : PySem.W.codeIn K cd3 "_law_word" = true)
    (k3 : PySem.W.keepIn K (.ref f3) = true)
    (a4 : PySem.W.nsIn K mainGlobals "_law_wild" = some (some (.ref f4)))
    (l4 : K.lookup f4 = some ⟨oc4, od4, .func (PySem.W.fnOf "_law_wild" "_law_wild" (defArgs s__law_wild) (defBody s__law_wild) (defScope s__law_wild) .none kV4 dc4 pm4 an4 cd4 ct4), sl4⟩)
    (c4 : PySem.W.codeIn K cd4 "_law_wild" = true)
    (k4 : PySem.W.keepIn K (.ref f4) = true)
    (a5 : PySem.W.nsIn K mainGlobals "_law_is_name" = some (some (.ref f5)))
    (l5 : K.lookup f5 = some ⟨oc5, od5, .func (PySem.W.fnOf "_law_is_name" "_law_is_name" (defArgs s__law_is_name) (defBody s__law_is_name) (defScope s__law_is_name) .none kV5 dc5 pm5 an5 cd5 ct5), sl5⟩)
    (c5 : PySem.W.codeIn K cd5 "_law_is_name" = true)
    (k5 : PySem.W.keepIn K (.ref f5) = true)
    (a6 : PySem.W.nsIn K mainGlobals "_law_is_number" = some (some (.ref f6)))
    (l6 : K.lookup f6 = some ⟨oc6, od6, .func (PySem.W.fnOf "_law_is_number" "_law_is_number" (defArgs s__law_is_number) (defBody s__law_is_number) (defScope s__law_is_number) .none kV6 dc6 pm6 an6 cd6 ct6), sl6⟩)
    (c6 : PySem.W.codeIn K cd6 "_law_is_number" = true)
    (k6 : PySem.W.keepIn K (.ref f6) = true)
    (a7 : PySem.W.nsIn K mainGlobals "_law_deed_in" = some (some (.ref f7)))
    (l7 : K.lookup f7 = some ⟨oc7, od7, .func (PySem.W.fnOf "_law_deed_in" "_law_deed_in" (defArgs s__law_deed_in) (defBody s__law_deed_in) (defScope s__law_deed_in) .none kV7 dc7 pm7 an7 cd7 ct7), sl7⟩)
    (c7 : PySem.W.codeIn K cd7 "_law_deed_in" = true)
    (k7 : PySem.W.keepIn K (.ref f7) = true)
    (a8 : PySem.W.nsIn K mainGlobals "_law_run_in" = some (some (.ref f8)))
    (l8 : K.lookup f8 = some ⟨oc8, od8, .func (PySem.W.fnOf "_law_run_in" "_law_run_in" (defArgs s__law_run_in) (defBody s__law_run_in) (defScope s__law_run_in) .none kV8 dc8 pm8 an8 cd8 ct8), sl8⟩)
    (c8 : PySem.W.codeIn K cd8 "_law_run_in" = true)
    (k8 : PySem.W.keepIn K (.ref f8) = true)
    (a9 : PySem.W.nsIn K mainGlobals "read_number" = some (some (.ref f9)))
    (l9 : K.lookup f9 = some ⟨oc9, od9, .func (PySem.W.fnOf "read_number" "read_number" (defArgs s_read_number) (defBody s_read_number) (defScope s_read_number) .none kV9 dc9 pm9 an9 cd9 ct9), sl9⟩)
    (c9 : PySem.W.codeIn K cd9 "read_number" = true)
    (k9 : PySem.W.keepIn K (.ref f9) = true)
    (a10 : PySem.W.nsIn K mainGlobals "is_name" = some (some (.ref f10)))
    (l10 : K.lookup f10 = some ⟨oc10, od10, .func (PySem.W.fnOf "is_name" "is_name" (defArgs s_is_name) (defBody s_is_name) (defScope s_is_name) .none kV10 dc10 pm10 an10 cd10 ct10), sl10⟩)
    (c10 : PySem.W.codeIn K cd10 "is_name" = true)
    (k10 : PySem.W.keepIn K (.ref f10) = true)
    (a11 : PySem.W.nsIn K mainGlobals "read_deed" = some (some (.ref f11)))
    (l11 : K.lookup f11 = some ⟨oc11, od11, .func (PySem.W.fnOf "read_deed" "read_deed" (defArgs s_read_deed) (defBody s_read_deed) (defScope s_read_deed) .none kV11 dc11 pm11 an11 cd11 ct11), sl11⟩)
    (c11 : PySem.W.codeIn K cd11 "read_deed" = true)
    (k11 : PySem.W.keepIn K (.ref f11) = true)
    (a12 : PySem.W.nsIn K mainGlobals "read_run" = some (some (.ref f12)))
    (l12 : K.lookup f12 = some ⟨oc12, od12, .func (PySem.W.fnOf "read_run" "read_run" (defArgs s_read_runX) (defBody s_read_runX) (defScope s_read_runX) .none kV12 dc12 pm12 an12 cd12 ct12), sl12⟩)
    (c12 : PySem.W.codeIn K cd12 "read_run" = true)
    (k12 : PySem.W.keepIn K (.ref f12) = true)
    (a13 : PySem.W.nsIn K mainGlobals "_law_said" = some (some (.ref f13)))
    (l13 : K.lookup f13 = some ⟨oc13, od13, .func (PySem.W.fnOf "_law_said" "_law_said" (defArgs s__law_said) (defBody s__law_said) (defScope s__law_said) .none kV13 dc13 pm13 an13 cd13 ct13), sl13⟩)
    (c13 : PySem.W.codeIn K cd13 "_law_said" = true)
    (k13 : PySem.W.keepIn K (.ref f13) = true)
    (a14 : PySem.W.nsIn K mainGlobals "_law_asked_right" = some (some (.ref f14)))
    (l14 : K.lookup f14 = some ⟨oc14, od14, .func (PySem.W.fnOf "_law_asked_right" "_law_asked_right" (defArgs s__law_asked_right) (defBody s__law_asked_right) (defScope s__law_asked_right) .none kV14 dc14 pm14 an14 cd14 ct14), sl14⟩)
    (c14 : PySem.W.codeIn K cd14 "_law_asked_right" = true)
    (k14 : PySem.W.keepIn K (.ref f14) = true)
    (a15 : PySem.W.nsIn K mainGlobals "_law_odd_text" = some (some (.ref f15)))
    (l15 : K.lookup f15 = some ⟨oc15, od15, .func (PySem.W.fnOf "_law_odd_text" "_law_odd_text" (defArgs s__law_odd_text) (defBody s__law_odd_text) (defScope s__law_odd_text) .none kV15 dc15 pm15 an15 cd15 ct15), sl15⟩)
    (c15 : PySem.W.codeIn K cd15 "_law_odd_text" = true)
    (k15 : PySem.W.keepIn K (.ref f15) = true)
    (a16 : PySem.W.nsIn K mainGlobals "_law_spoiled" = some (some (.ref f16)))
    (l16 : K.lookup f16 = some ⟨oc16, od16, .func (PySem.W.fnOf "_law_spoiled" "_law_spoiled" (defArgs s__law_spoiled) (defBody s__law_spoiled) (defScope s__law_spoiled) .none kV16 dc16 pm16 an16 cd16 ct16), sl16⟩)
    (c16 : PySem.W.codeIn K cd16 "_law_spoiled" = true)
    (k16 : PySem.W.keepIn K (.ref f16) = true)
    (a17 : PySem.W.nsIn K mainGlobals "_law_right" = some (some (.ref f17)))
    (l17 : K.lookup f17 = some ⟨oc17, od17, .func (PySem.W.fnOf "_law_right" "_law_right" (defArgs s__law_right) (defBody s__law_right) (defScope s__law_right) .none kV17 dc17 pm17 an17 cd17 ct17), sl17⟩)
    (c17 : PySem.W.codeIn K cd17 "_law_right" = true)
    (k17 : PySem.W.keepIn K (.ref f17) = true)
    (a18 : PySem.W.nsIn K mainGlobals "_law_well" = some (some (.ref f18)))
    (l18 : K.lookup f18 = some ⟨oc18, od18, .func (PySem.W.fnOf "_law_well" "_law_well" (defArgs s__law_well) (defBody s__law_well) (defScope s__law_well) .none kV18 dc18 pm18 an18 cd18 ct18), sl18⟩)
    (c18 : PySem.W.codeIn K cd18 "_law_well" = true)
    (k18 : PySem.W.keepIn K (.ref f18) = true)
    (a19 : PySem.W.nsIn K mainGlobals "law" = some (some (.ref f19)))
    (l19 : K.lookup f19 = some ⟨oc19, od19, .func (PySem.W.fnOf "law" "law" (defArgs s_law) (defBody s_law) (defScope s_law) .none kV19 dc19 pm19 an19 cd19 ct19), sl19⟩)
    (c19 : PySem.W.codeIn K cd19 "law" = true)
    (k19 : PySem.W.keepIn K (.ref f19) = true)
    (z_all : PySem.W.nsIn K mainGlobals "all" = some none)
    (z_any : PySem.W.nsIn K mainGlobals "any" = some none)
    (z_int : PySem.W.nsIn K mainGlobals "int" = some none)
    (z_len : PySem.W.nsIn K mainGlobals "len" = some none)
    (z_max : PySem.W.nsIn K mainGlobals "max" = some none)
    (z_range : PySem.W.nsIn K mainGlobals "range" = some none)
    (z_repr : PySem.W.nsIn K mainGlobals "repr" = some none)
    (z_str : PySem.W.nsIn K mainGlobals "str" = some none)
    {t_DIGITS : Tok} (y_DIGITS : PySem.W.nsIn K mainGlobals "DIGITS" = some (some (.str "0123456789" t_DIGITS)))
    {t_LETTERS : Tok} (y_LETTERS : PySem.W.nsIn K mainGlobals "LETTERS" = some (some (.str "abcdefghijklmnopqrstuvwxyz" t_LETTERS)))
    {t_MOST_DIGITS : Tok} (y_MOST_DIGITS : PySem.W.nsIn K mainGlobals "MOST_DIGITS" = some (some (.int 60 t_MOST_DIGITS)))
    {t_MOST_LETTERS : Tok} (y_MOST_LETTERS : PySem.W.nsIn K mainGlobals "MOST_LETTERS" = some (some (.int 8 t_MOST_LETTERS)))
    (lawOk : ∀ ns : List Int, ns.length ≤ 63 → ∃ M', c_law [.scr ns] ⟨fun _ => none, 0⟩ = some (.val (.bl true), M')) :
    ∃ (fd : FuncData) (CA : Nat → Addr) (f : FM), (∀ (s : Shared) (u : Value), BindsTo s fd ⟨[u], []⟩ [("script", u)]) ∧ (∀ base : Heap, K.In base → base.Ns mainGlobals mg → (∃ mm, base.Ns sysModules mm) → FnG l.prog w K mg base CX0 7 fa fd ["script"] (spI ⟨K, CA⟩ 1 f)) ∧ ∀ ns : List Int, ns.length ≤ 63 → ∃ M', f [.scr ns] ⟨fun _ => none, 0⟩ = some (.val (.bl true), M') := by
  have e := hfa.symm.trans (PySem.W.mg_of X G a19)
  cases e
  have T : Tx mg := ⟨PySem.W.mg_none_of X G z_all, PySem.W.mg_none_of X G z_any, PySem.W.mg_none_of X G z_int, PySem.W.mg_none_of X G z_len, PySem.W.mg_none_of X G z_max, PySem.W.mg_none_of X G z_range, PySem.W.mg_none_of X G z_repr, PySem.W.mg_none_of X G z_str, ⟨t_DIGITS, PySem.W.mg_of X G y_DIGITS⟩, ⟨t_LETTERS, PySem.W.mg_of X G y_LETTERS⟩, ⟨t_MOST_DIGITS, PySem.W.mg_of X G y_MOST_DIGITS⟩, ⟨t_MOST_LETTERS, PySem.W.mg_of X G y_MOST_LETTERS⟩⟩
  refine ⟨PySem.W.fnOf "law" "law" (defArgs s_law) (defBody s_law) (defScope s_law) .none kV19 dc19 pm19 an19 cd19 ct19, (fun i => List.getD [C0, C1] i 0), c_law, ?_, fun base _ _ hsb => ?_, lawOk⟩
  · exact fun s v => .of_eq rfl
  · have N_PartError := PySem.W.mg_of X G aE0
    have B_Unreadable : ExB l.prog w K mg base ⟨K, (fun i => List.getD [C0, C1] i 0)⟩ "Unreadable" 1 1 := ⟨⟨el1, es1, eb1, et1, ek1⟩, PySem.W.mg_of X G aE1, ev1, ⟨eg1, eh1, eb1, ed1⟩, ⟨fI, _, ["self", "value"], ei1, tI, (fun_mk (st := s_EI) lI cI kI).binds (fun _ _ _ _ _ _ us hl => match us, hl with | [_, _], _ => rfl), w_EI (fun_mk (st := s_EI) lI cI kI)⟩⟩
    have X_Unreadable_PartError := PySem.W.exm_ref (cls := .ref C1) eb0 ed0 et0 sb1_0
    have X_Unreadable_Unreadable := PySem.W.exm_ref (cls := .ref C1) eb1 ed1 et1 sb1_1
    have C__law_run_text := w__law_run_text (P := l.prog) (w := w) (base := base) (CA := (fun i => List.getD [C0, C1] i 0)) (fun_mk (st := s__law_run_text) l0 c0 k0) (PySem.W.mg_of X G a0) T hsb 
    have C__law_draw := w__law_draw (P := l.prog) (w := w) (base := base) (CA := (fun i => List.getD [C0, C1] i 0)) (fun_mk (st := s__law_draw) l1 c1 k1) (PySem.W.mg_of X G a1) T hsb 
    have C__law_integer := w__law_integer (P := l.prog) (w := w) (base := base) (CA := (fun i => List.getD [C0, C1] i 0)) (fun_mk (st := s__law_integer) l2 c2 k2) (PySem.W.mg_of X G a2) T hsb C__law_draw
    have C__law_word := w__law_word (P := l.prog) (w := w) (base := base) (CA := (fun i => List.getD [C0, C1] i 0)) (fun_mk (st := s__law_word) l3 c3 k3) (PySem.W.mg_of X G a3) T hsb C__law_draw
    have C__law_wild := w__law_wild (P := l.prog) (w := w) (base := base) (CA := (fun i => List.getD [C0, C1] i 0)) (fun_mk (st := s__law_wild) l4 c4 k4) (PySem.W.mg_of X G a4) T hsb C__law_draw C__law_word C__law_integer
    have C__law_is_name := w__law_is_name (P := l.prog) (w := w) (base := base) (CA := (fun i => List.getD [C0, C1] i 0)) (fun_mk (st := s__law_is_name) l5 c5 k5) (PySem.W.mg_of X G a5) T hsb 
    have C__law_is_number := w__law_is_number (P := l.prog) (w := w) (base := base) (CA := (fun i => List.getD [C0, C1] i 0)) (fun_mk (st := s__law_is_number) l6 c6 k6) (PySem.W.mg_of X G a6) T hsb 
    have C__law_deed_in := w__law_deed_in (P := l.prog) (w := w) (base := base) (CA := (fun i => List.getD [C0, C1] i 0)) (fun_mk (st := s__law_deed_in) l7 c7 k7) (PySem.W.mg_of X G a7) T hsb C__law_is_name C__law_is_number
    have C__law_run_in := w__law_run_in (P := l.prog) (w := w) (base := base) (CA := (fun i => List.getD [C0, C1] i 0)) (fun_mk (st := s__law_run_in) l8 c8 k8) (PySem.W.mg_of X G a8) T hsb C__law_deed_in
    have C_read_number := w_read_number (P := l.prog) (w := w) (base := base) (CA := (fun i => List.getD [C0, C1] i 0)) (fun_mk (st := s_read_number) l9 c9 k9) (PySem.W.mg_of X G a9) T hsb 
    have C_is_name := w_is_name (P := l.prog) (w := w) (base := base) (CA := (fun i => List.getD [C0, C1] i 0)) (fun_mk (st := s_is_name) l10 c10 k10) (PySem.W.mg_of X G a10) T hsb 
    have C_read_deed := w_read_deed (P := l.prog) (w := w) (base := base) (CA := (fun i => List.getD [C0, C1] i 0)) (fun_mk (st := s_read_deed) l11 c11 k11) (PySem.W.mg_of X G a11) T hsb C_read_number C_is_name
    have C_read_runX := w_read_runX (P := l.prog) (w := w) (base := base) (CA := (fun i => List.getD [C0, C1] i 0)) (fun_mk (st := s_read_runX) l12 c12 k12) (PySem.W.mg_of X G a12) T hsb C_read_deed B_Unreadable
    have C__law_said := w__law_said (P := l.prog) (w := w) (base := base) (CA := (fun i => List.getD [C0, C1] i 0)) (fun_mk (st := s__law_said) l13 c13 k13) (PySem.W.mg_of X G a13) T hsb C_read_runX B_Unreadable N_PartError X_Unreadable_Unreadable X_Unreadable_PartError
    have C__law_asked_right := w__law_asked_right (P := l.prog) (w := w) (base := base) (CA := (fun i => List.getD [C0, C1] i 0)) (fun_mk (st := s__law_asked_right) l14 c14 k14) (PySem.W.mg_of X G a14) T hsb C__law_run_in C__law_said
    have C__law_odd_text := w__law_odd_text (P := l.prog) (w := w) (base := base) (CA := (fun i => List.getD [C0, C1] i 0)) (fun_mk (st := s__law_odd_text) l15 c15 k15) (PySem.W.mg_of X G a15) T hsb C__law_run_text C__law_draw C__law_is_number
    have C__law_spoiled := w__law_spoiled (P := l.prog) (w := w) (base := base) (CA := (fun i => List.getD [C0, C1] i 0)) (fun_mk (st := s__law_spoiled) l16 c16 k16) (PySem.W.mg_of X G a16) T hsb C__law_draw
    have C__law_right := w__law_right (P := l.prog) (w := w) (base := base) (CA := (fun i => List.getD [C0, C1] i 0)) (fun_mk (st := s__law_right) l17 c17 k17) (PySem.W.mg_of X G a17) T hsb C__law_draw C__law_wild C__law_run_text C__law_spoiled C__law_asked_right C__law_odd_text
    have C__law_well := w__law_well (P := l.prog) (w := w) (base := base) (CA := (fun i => List.getD [C0, C1] i 0)) (fun_mk (st := s__law_well) l18 c18 k18) (PySem.W.mg_of X G a18) T hsb 
    exact wF_law (CA := (fun i => List.getD [C0, C1] i 0)) (fun_mk (st := s_law) l19 c19 k19) T hsb C__law_well C__law_right
theorem walk {l : PySem.W.OpenLaw} {q : Program} {loose : List Str} {XP : (Str → Option Value) → Heap → Prop} {YP : World → Heap → Prop} {d : DefRec} {K : Params → PySem.W.Frag} (hi : importsNone q = true) (hn : l.most = some 63) (hdf : d.params.defaults = [])
    (hY : ∀ (w : World) (h : Heap), YP w h → (K w.params).In h)
    (F : ∀ (w : World) (mg : Str → Option Value) (fa : Addr) (h : Heap), (K w.params).In h → h.Ns mainGlobals mg → mg d.name = some (.ref fa) →
      ∃ (fd : FuncData) (CA : Nat → Addr) (f : FM), (∀ (s : Shared) (u : Value), BindsTo s fd ⟨[u], []⟩ [("script", u)]) ∧
        (∀ base : Heap, (K w.params).In base → base.Ns mainGlobals mg → (∃ mm, base.Ns sysModules mm) → FnG l.prog w (K w.params) mg base CX0 7 fa fd ["script"] (spI ⟨K w.params, CA⟩ 1 f)) ∧
        ∀ ns : List Int, ns.length ≤ 63 → ∃ M', f [.scr ns] ⟨fun _ => none, 0⟩ = some (.val (.bl true), M')) : PySem.W.WalkO q loose XP YP l.row.toRowW d [] (fun f vs => PySem.call f vs) :=
  walkG (n := 63) (k := 7) (x := "script") hi hn (by decide) hdf ⟨rfl, by decide, by decide⟩ hY F
end Lw
open PySem PySem.W PyProof.Rows
set_option maxRecDepth 100000 in
set_option maxHeartbeats 0 in
theorem PySem.Challenge.cw_paidinparts_k55_texts_of_no_deeds_holds : PySem.Challenge.rw_paidinparts_k55_texts_of_no_deeds.Holds := by
  w_on; o_law; k_head; (case hw => w_witness2)
  k_fill
  refine Lw.walk (l := PySem.Challenge.rw_paidinparts_k55_texts_of_no_deeds) (by rfl) rfl rfl (fun w h Y => PySem.W.kIn_of Y) ?F
  case F =>
    intro w mg fa h KX G hmg
    refine' Lw.all_mk KX G hmg ?fct0 ?fct1 ?fct2 ?fct3 ?fct4 ?fct5 ?fct6 ?fct7 ?fct8 ?fct9 ?fct10 ?fct11 ?fct12 ?fct13 ?fct14 ?fct15 ?fct16 ?fct17 ?fct18 ?fct19 ?fct20 ?fct21 ?fct22 ?fct23 ?fct24 ?fct25 ?fct26 ?fct27 ?fct28 ?fct29 ?fct30 ?fct31 ?fct32 ?fct33 ?fct34 ?fct35 ?fct36 ?fct37 ?fct38 ?fct39 ?fct40 ?fct41 ?fct42 ?fct43 ?fct44 ?fct45 ?fct46 ?fct47 ?fct48 ?fct49 ?fct50 ?fct51 ?fct52 ?fct53 ?fct54 ?fct55 ?fct56 ?fct57 ?fct58 ?fct59 ?fct60 ?fct61 ?fct62 ?fct63 ?fct64 ?fct65 ?fct66 ?fct67 ?fct68 ?fct69 ?fct70 ?fct71 ?fct72 ?fct73 ?fct74 ?fct75 ?fct76 ?fct77 ?fct78 ?fct79 ?fct80 ?fct81 ?fct82 ?fct83 ?fct84 ?fct85 ?fct86 ?fct87 ?fct88 ?fct89 ?fct90 ?fct91 ?fct92 ?fct93 ?fct94 ?fct95 ?fct96 ?fct97 ?fct98 ?fct99 ?fct100 ?fct101 ?fct102 ?fct103 ?fct104 ?fct105 ?fct106 ?fct107 ?fct108 ?fct109 ?fct110 ?fct111 ?fct112 Lw.lawOk
    (case fct0 => k_is)
    (case fct1 => k_is)
    (case fct2 => k_is)
    (case fct3 => k_is)
    (case fct4 => k_is)
    (case fct5 => k_is)
    (case fct6 => k_is)
    (case fct7 => k_is)
    (case fct8 => exact ⟨_, _, _, _, _, _, _, _, _, _, _, _, _, _, _, by k_is, by rfl⟩)
    (case fct9 => k_is)
    (case fct10 => k_is)
    (case fct11 => k_is)
    (case fct12 => k_is)
    (case fct13 => k_is)
    (case fct14 => k_is)
    (case fct15 => k_is)
    (case fct16 => k_is)
    (case fct17 => k_is)
    (case fct18 => k_is)
    (case fct19 => k_is)
    (case fct20 => k_is)
    (case fct21 => k_is)
    (case fct22 => k_is)
    (case fct23 => k_is)
    (case fct24 => k_is)
    (case fct25 => k_is)
    (case fct26 => k_is)
    (case fct27 => k_is)
    (case fct28 => k_is)
    (case fct29 => k_is)
    (case fct30 => k_is)
    (case fct31 => k_is)
    (case fct32 => k_is)
    (case fct33 => k_is)
    (case fct34 => k_is)
    (case fct35 => k_is)
    (case fct36 => k_is)
    (case fct37 => k_is)
    (case fct38 => k_is)
    (case fct39 => k_is)
    (case fct40 => k_is)
    (case fct41 => k_is)
    (case fct42 => k_is)
    (case fct43 => k_is)
    (case fct44 => k_is)
    (case fct45 => k_is)
    (case fct46 => k_is)
    (case fct47 => k_is)
    (case fct48 => k_is)
    (case fct49 => k_is)
    (case fct50 => k_is)
    (case fct51 => k_is)
    (case fct52 => k_is)
    (case fct53 => k_is)
    (case fct54 => k_is)
    (case fct55 => k_is)
    (case fct56 => k_is)
    (case fct57 => k_is)
    (case fct58 => k_is)
    (case fct59 => k_is)
    (case fct60 => k_is)
    (case fct61 => k_is)
    (case fct62 => k_is)
    (case fct63 => k_is)
    (case fct64 => k_is)
    (case fct65 => k_is)
    (case fct66 => k_is)
    (case fct67 => k_is)
    (case fct68 => k_is)
    (case fct69 => k_is)
    (case fct70 => k_is)
    (case fct71 => k_is)
    (case fct72 => k_is)
    (case fct73 => k_is)
    (case fct74 => k_is)
    (case fct75 => k_is)
    (case fct76 => k_is)
    (case fct77 => k_is)
    (case fct78 => k_is)
    (case fct79 => k_is)
    (case fct80 => k_is)
    (case fct81 => k_is)
    (case fct82 => k_is)
    (case fct83 => k_is)
    (case fct84 => k_is)
    (case fct85 => k_is)
    (case fct86 => k_is)
    (case fct87 => k_is)
    (case fct88 => k_is)
    (case fct89 => k_is)
    (case fct90 => k_is)
    (case fct91 => k_is)
    (case fct92 => k_is)
    (case fct93 => k_is)
    (case fct94 => k_is)
    (case fct95 => k_is)
    (case fct96 => k_is)
    (case fct97 => k_is)
    (case fct98 => k_is)
    (case fct99 => k_is)
    (case fct100 => k_is)
    (case fct101 => k_is)
    (case fct102 => k_is)
    (case fct103 => k_is)
    (case fct104 => k_is)
    (case fct105 => k_is)
    (case fct106 => k_is)
    (case fct107 => k_is)
    (case fct108 => k_is)
    (case fct109 => k_is)
    (case fct110 => k_is)
    (case fct111 => k_is)
    (case fct112 => k_is)
