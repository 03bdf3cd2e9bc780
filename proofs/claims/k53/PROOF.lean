import PyProof.Rows.All
import Wide.All
import OpenK.AllK
import Wide.FinOn
import HandS.ForMost
import HandS.RaiseMore
import HandS.Wide
import PyProof.ReprRoads
import PyProof.Rows.RuleB_pow
import KE.IntTextLaws
import PySem.Challenge.RW_paidinparts_k53_texts_of_deeds
set_option Elab.async false
set_option linter.all false
set_option maxRecDepth 100000
set_option maxHeartbeats 4000000
namespace PV
open PySem L2

/-! ### values without addresses -/
inductive Va where
  | non | bl (b : Bool) | int (i : Int) | str (x : Str)
  | lst (l : List Va) | tup (l : List Va) | dic (l : List (Key × Va))
  | cel (n : Nat) | scr (l : List Int)
inductive Cell where
  | lst (l : List Va) | dic (l : List (Key × Va)) | ins (c : Nat) (fs : List (Str × Va))
structure Store where
  c : Nat → Option Cell
  nx : Nat
def Store.put (M : Store) (n : Nat) (x : Cell) : Store := ⟨fun m => if m = n then some x else M.c m, M.nx⟩
def Store.del (M : Store) (n : Nat) : Store := ⟨fun m => if m = n then none else M.c m, M.nx⟩
def Store.new (M : Store) (x : Cell) : Store := ⟨fun m => if m = M.nx then some x else M.c m, M.nx + 1⟩
structure Sig where
  K : PySem.W.Frag
  CA : Nat → Addr

mutual
inductive VR (G : Sig) (R : Hp) (ρ : List Addr) : Va → V → Prop
  | non : VR G R ρ .non .non
  | bl (b : Bool) : VR G R ρ (.bl b) (.bl b)
  | int (i : Int) : VR G R ρ (.int i) (.int i)
  | str (x : Str) : VR G R ρ (.str x) (.str x)
  | lst {a : Addr} {l : List Va} {vs : List V} : R a = some (.lst vs) → l.length ≤ sizeLine → VRs G R ρ l vs → VR G R ρ (.lst l) (.ref a)
  | tup {a : Addr} {l : List Va} {vs : List V} : R a = some (.tup vs) → l.length ≤ sizeLine → VRs G R ρ l vs → VR G R ρ (.tup l) (.ref a)
  | dic {a : Addr} {l : List (Key × Va)} {vs : List (Key × V)} : R a = some (.dK vs) → l.length ≤ sizeLine → VRk G R ρ l vs → VR G R ρ (.dic l) (.ref a)
  | cel {n : Nat} {a : Addr} : ρ[n]? = some a → VR G R ρ (.cel n) (.ref a)
  | scr {a : Addr} {l : List Int} : SqL G.K R a (l.map V.int) → l.length ≤ sizeLine → VR G R ρ (.scr l) (.ref a)
inductive VRs (G : Sig) (R : Hp) (ρ : List Addr) : List Va → List V → Prop
  | nil : VRs G R ρ [] []
  | cons {x : Va} {v : V} {l : List Va} {vs : List V} : VR G R ρ x v → VRs G R ρ l vs → VRs G R ρ (x :: l) (v :: vs)
inductive VRk (G : Sig) (R : Hp) (ρ : List Addr) : List (Key × Va) → List (Key × V) → Prop
  | nil : VRk G R ρ [] []
  | cons {k : Key} {x : Va} {v : V} {l : List (Key × Va)} {vs : List (Key × V)} : VR G R ρ x v → VRk G R ρ l vs → VRk G R ρ ((k, x) :: l) ((k, v) :: vs)
end
inductive VRf (G : Sig) (R : Hp) (ρ : List Addr) : List (Str × Va) → List (Str × V) → Prop
  | nil : VRf G R ρ [] []
  | cons {k : Str} {x : Va} {v : V} {l : List (Str × Va)} {vs : List (Str × V)} : VR G R ρ x v → VRf G R ρ l vs → VRf G R ρ ((k, x) :: l) ((k, v) :: vs)

def CelR (G : Sig) (R : Hp) (ρ : List Addr) (H : Hp) (a : Addr) : Cell → Prop
  | .lst l => ∃ vs, H a = some (.lst vs) ∧ l.length ≤ sizeLine ∧ VRs G R ρ l vs
  | .dic l => ∃ vs, H a = some (.dK vs) ∧ l.length ≤ sizeLine ∧ VRk G R ρ l vs
  | .ins c l => ∃ dx vs, H a = some (.ins (G.CA c) dx vs) ∧ VRf G R ρ l vs

structure Wd (G : Sig) (R : Hp) (ρ : List Addr) (M : Store) (H : Hp) : Prop where
  sub : ∀ a o, R a = some o → H a = some o
  len : ρ.length = M.nx
  cel : ∀ (n : Nat) (x : Cell), M.c n = some x → ∃ a, ρ[n]? = some a ∧ R a = none ∧ CelR G R ρ H a x
  inj : ∀ (n m : Nat) (a : Addr) (x y : Cell), M.c n = some x → M.c m = some y → ρ[n]? = some a → ρ[m]? = some a → n = m
  al : ∀ a, a ∈ ρ → H a ≠ none

structure Ext (R : Hp) (ρ : List Addr) (H : Hp) (R' : Hp) (ρ' : List Addr) (H' : Hp) : Prop where
  reg : ∀ a o, R a = some o → R' a = some o
  cls : ∃ τ, ρ' = ρ ++ τ ∧ ∀ a ∈ τ, H a = none
  keep : ∀ a o, H a = some o → a ∉ ρ → H' a = some o
  dom : ∀ a, H a ≠ none → H' a ≠ none
  nreg : ∀ a, R a = none → R' a ≠ none → H a = none ∨ a ∈ ρ

theorem Ext.refl {R : Hp} {ρ : List Addr} {H : Hp} : Ext R ρ H R ρ H := ⟨fun _ _ h => h, ⟨[], by simp, by simp⟩, fun _ _ h _ => h, fun _ h => h, fun _ h n => absurd h n⟩
theorem Ext.trans {R R1 R2 : Hp} {ρ ρ1 ρ2 : List Addr} {H H1 H2 : Hp} (a : Ext R ρ H R1 ρ1 H1) (b : Ext R1 ρ1 H1 R2 ρ2 H2) : Ext R ρ H R2 ρ2 H2 := by
  obtain ⟨τ, e1, f1⟩ := a.cls
  obtain ⟨τ', e2, f2⟩ := b.cls
  refine ⟨fun x o h => b.reg x o (a.reg x o h), ⟨τ ++ τ', by rw [e2, e1, List.append_assoc], fun x hx => ?_⟩, fun x o h n => ?_, fun x h => b.dom x (a.dom x h), fun x h n => ?_⟩
  · rcases List.mem_append.mp hx with h | h
    · exact f1 x h
    · by_cases q : H x = none
      · exact q
      · exact absurd (f2 x h) (a.dom x q)
  · refine b.keep x o (a.keep x o h n) fun hm => ?_
    rw [e1] at hm
    rcases List.mem_append.mp hm with z | z
    · exact n z
    · rw [f1 x z] at h
      cases h
  · by_cases q : R1 x = none
    · rcases b.nreg x q n with z | z
      · left
        by_cases y : H x = none
        · exact y
        · exact absurd z (a.dom x y)
      · rw [e1] at z
        rcases List.mem_append.mp z with z | z
        · exact .inr z
        · exact .inl (f1 x z)
    · exact a.nreg x h q
theorem Ext.get {R R' : Hp} {ρ ρ' : List Addr} {H H' : Hp} (e : Ext R ρ H R' ρ' H') {n : Nat} {a : Addr} (h : ρ[n]? = some a) : ρ'[n]? = some a := by
  obtain ⟨τ, q, _⟩ := e.cls
  rw [q, List.getElem?_append_left (List.getElem?_eq_some_iff.mp h).1]
  exact h

/-- what a datum leans on only grows -/
structure Gr (R : Hp) (ρ : List Addr) (R' : Hp) (ρ' : List Addr) : Prop where
  reg : ∀ a o, R a = some o → R' a = some o
  get : ∀ (n : Nat) (a : Addr), ρ[n]? = some a → ρ'[n]? = some a
theorem Ext.gr {R R' : Hp} {ρ ρ' : List Addr} {H H' : Hp} (e : Ext R ρ H R' ρ' H') : Gr R ρ R' ρ' := ⟨e.reg, fun _ _ h => e.get h⟩
theorem Gr.refl {R : Hp} {ρ : List Addr} : Gr R ρ R ρ := ⟨fun _ _ h => h, fun _ _ h => h⟩
theorem Gr.trans {R R1 R2 : Hp} {ρ ρ1 ρ2 : List Addr} (a : Gr R ρ R1 ρ1) (b : Gr R1 ρ1 R2 ρ2) : Gr R ρ R2 ρ2 := ⟨fun x o h => b.reg x o (a.reg x o h), fun n x h => b.get n x (a.get n x h)⟩
theorem sqL_mono {K : PySem.W.Frag} {R R' : Hp} (h : ∀ a o, R a = some o → R' a = some o) {a : Addr} {vs : List V} (q : SqL K R a vs) : SqL K R' a vs := by
  rcases q with (q | ⟨o, q⟩) | q
  · exact .inl (.inl (h _ _ q))
  · exact .inl (.inr ⟨o, h _ _ q⟩)
  · exact .inr q

section
variable {G : Sig} {R R' : Hp} {ρ ρ' : List Addr}
mutual
theorem VR.mono (g : Gr R ρ R' ρ') : ∀ {x : Va} {v : V}, VR G R ρ x v → VR G R' ρ' x v
  | _, _, .non => .non
  | _, _, .bl b => .bl b
  | _, _, .int i => .int i
  | _, _, .str x => .str x
  | _, _, .lst h z r => .lst (g.reg _ _ h) z (VRs.mono g r)
  | _, _, .tup h z r => .tup (g.reg _ _ h) z (VRs.mono g r)
  | _, _, .dic h z r => .dic (g.reg _ _ h) z (VRk.mono g r)
  | _, _, .cel h => .cel (g.get _ _ h)
  | _, _, .scr h z => .scr (sqL_mono g.reg h) z
theorem VRs.mono (g : Gr R ρ R' ρ') : ∀ {l : List Va} {vs : List V}, VRs G R ρ l vs → VRs G R' ρ' l vs
  | _, _, .nil => .nil
  | _, _, .cons h t => .cons (VR.mono g h) (VRs.mono g t)
theorem VRk.mono (g : Gr R ρ R' ρ') : ∀ {l : List (Key × Va)} {vs : List (Key × V)}, VRk G R ρ l vs → VRk G R' ρ' l vs
  | _, _, .nil => .nil
  | _, _, .cons h t => .cons (VR.mono g h) (VRk.mono g t)
end
theorem VRf.mono (g : Gr R ρ R' ρ') : ∀ {l : List (Str × Va)} {vs : List (Str × V)}, VRf G R ρ l vs → VRf G R' ρ' l vs
  | _, _, .nil => .nil
  | _, _, .cons h t => .cons (VR.mono g h) (VRf.mono g t)
theorem VRs.length : ∀ {l : List Va} {vs : List V}, VRs G R ρ l vs → l.length = vs.length
  | _, _, .nil => rfl
  | _, _, .cons _ t => by simp [VRs.length t]
theorem VRk.length : ∀ {l : List (Key × Va)} {vs : List (Key × V)}, VRk G R ρ l vs → l.length = vs.length
  | _, _, .nil => rfl
  | _, _, .cons _ t => by simp [VRk.length t]
theorem VRs.get : ∀ {l : List Va} {vs : List V} {i : Nat} {x : Va}, VRs G R ρ l vs → l[i]? = some x → ∃ v, vs[i]? = some v ∧ VR G R ρ x v
  | _, _, _, _, .nil, e => by simp at e
  | _, _, 0, _, .cons h _, e => by simp at e; subst e; exact ⟨_, rfl, h⟩
  | _, _, i + 1, x, .cons _ t, e => by
    obtain ⟨v, h1, h2⟩ := VRs.get (i := i) (x := x) t (by simpa using e)
    exact ⟨v, by simpa using h1, h2⟩
theorem VRs.getV : ∀ {l : List Va} {vs : List V} {i : Nat} {v : V}, VRs G R ρ l vs → vs[i]? = some v → ∃ x, l[i]? = some x ∧ VR G R ρ x v
  | _, _, _, _, .nil, e => by simp at e
  | _, _, 0, _, .cons h _, e => by simp at e; subst e; exact ⟨_, rfl, h⟩
  | _, _, i + 1, x, .cons _ t, e => by
    obtain ⟨v, h1, h2⟩ := VRs.getV (i := i) (v := x) t (by simpa using e)
    exact ⟨v, by simpa using h1, h2⟩
theorem VRs.set {x : Va} {v : V} (r : VR G R ρ x v) : ∀ {l : List Va} {vs : List V} (i : Nat), VRs G R ρ l vs → VRs G R ρ (l.set i x) (vs.set i v)
  | _, _, _, .nil => .nil
  | _, _, 0, .cons _ t => .cons r t
  | _, _, i + 1, .cons q t => .cons q (VRs.set r i t)
theorem VRs.append : ∀ {l m : List Va} {us vs : List V}, VRs G R ρ l us → VRs G R ρ m vs → VRs G R ρ (l ++ m) (us ++ vs)
  | _, _, _, _, .nil, s => s
  | _, _, _, _, .cons r t, s => .cons r (VRs.append t s)
theorem VRs.take : ∀ {l : List Va} {vs : List V} (n : Nat), VRs G R ρ l vs → VRs G R ρ (l.take n) (vs.take n)
  | _, _, 0, _ => .nil
  | _, _, _ + 1, .nil => .nil
  | _, _, n + 1, .cons r t => .cons r (VRs.take n t)
theorem VRs.drop : ∀ {l : List Va} {vs : List V} (n : Nat), VRs G R ρ l vs → VRs G R ρ (l.drop n) (vs.drop n)
  | _, _, 0, r => r
  | _, _, _ + 1, .nil => .nil
  | _, _, n + 1, .cons _ t => VRs.drop n t
theorem VRs.reverse : ∀ {l : List Va} {vs : List V}, VRs G R ρ l vs → VRs G R ρ l.reverse vs.reverse
  | _, _, .nil => .nil
  | _, _, .cons r t => by
    rw [List.reverse_cons, List.reverse_cons]
    exact VRs.append (VRs.reverse t) (.cons r .nil)
theorem VRs.eraseIdx : ∀ {l : List Va} {vs : List V} (n : Nat), VRs G R ρ l vs → VRs G R ρ (l.eraseIdx n) (vs.eraseIdx n)
  | _, _, _, .nil => .nil
  | _, _, 0, .cons _ t => t
  | _, _, n + 1, .cons r t => .cons r (VRs.eraseIdx n t)
theorem VRs.dropLast : ∀ {l : List Va} {vs : List V}, VRs G R ρ l vs → VRs G R ρ l.dropLast vs.dropLast
  | _, _, .nil => .nil
  | _, _, .cons r .nil => .nil
  | _, _, .cons r (.cons q t) => .cons r (VRs.dropLast (.cons q t))
theorem VRs.ints : ∀ (ns : List Int), VRs G R ρ (ns.map Va.int) (ns.map V.int)
  | [] => .nil
  | n :: ns => .cons (.int n) (VRs.ints ns)
end

/-! ### the slots -/
abbrev SL := List (Option Va)
structure SR (G : Sig) (R : Hp) (ρ : List Addr) (s : SL) (σ : St) : Prop where
  len : s.length = σ.length
  at_ : ∀ (i : Nat) (x : Va), s[i]? = some (some x) → ∃ v, σ[i]? = some (some v) ∧ VR G R ρ x v
theorem SR.mono {G : Sig} {R R' : Hp} {ρ ρ' : List Addr} (g : Gr R ρ R' ρ') {s : SL} {σ : St} (h : SR G R ρ s σ) : SR G R' ρ' s σ :=
  ⟨h.len, fun i x e => let ⟨v, a, b⟩ := h.at_ i x e; ⟨v, a, b.mono g⟩⟩
theorem SR.set {G : Sig} {R : Hp} {ρ : List Addr} {s : SL} {σ : St} (h : SR G R ρ s σ) (i : Nat) {x : Va} {v : V} (r : VR G R ρ x v) : SR G R ρ (s.set i (some x)) (σ.set i (some v)) := by
  refine ⟨by simp [h.len], fun j y e => ?_⟩
  by_cases hij : i = j
  · subst hij
    rw [List.getElem?_set] at e ⊢
    by_cases hl : i < s.length
    · simp [hl] at e
      subst e
      exact ⟨v, by simp [h.len ▸ hl], r⟩
    · simp [hl] at e
  · rw [List.getElem?_set_ne hij] at e ⊢
    exact h.at_ j y e
theorem SR.unset {G : Sig} {R : Hp} {ρ : List Addr} {s : SL} {σ : St} (h : SR G R ρ s σ) (i : Nat) (q : Option V) : SR G R ρ (s.set i none) (σ.set i q) := by
  refine ⟨by simp [h.len], fun j y e => ?_⟩
  by_cases hij : i = j
  · subst hij
    rw [List.getElem?_set] at e
    by_cases hl : i < s.length
    · simp [hl] at e
    · simp [hl] at e
  · rw [List.getElem?_set_ne hij] at e ⊢
    exact h.at_ j y e

/-! ### what comes out -/
inductive Out where
  | val (v : Va) | exc (c : Nat) (v : Va)
abbrev Res := Option (Out × Store)
abbrev SE := SL → Store → Res
def bindO (r : Res) (k : Va → Store → Res) : Res := match r with
  | none => none
  | some (.val v, M) => k v M
  | some (.exc c v, M) => some (.exc c v, M)
@[simp] theorem bindO_val (v : Va) (M : Store) (k : Va → Store → Res) : bindO (some (.val v, M)) k = k v M := rfl
@[simp] theorem bindO_exc (c : Nat) (v : Va) (M : Store) (k : Va → Store → Res) : bindO (some (.exc c v, M)) k = some (.exc c v, M) := rfl
@[simp] theorem bindO_none (k : Va → Store → Res) : bindO none k = none := rfl
theorem bindO_assoc (r : Res) (k k' : Va → Store → Res) : bindO (bindO r k) k' = bindO r fun v M => bindO (k v M) k' := by
  rcases r with _ | ⟨_ | _, _⟩ <;> rfl

def PostX (G : Sig) (R : Hp) (ρ : List Addr) (H : Hp) (M : Store) (E : XK) (c : Nat) (x : Va) : Prop :=
  ∀ R' ρ' H' d v, Ext R ρ H R' ρ' H' → Wd G R' ρ' M H' → H' d = some (.xd [("value", v)]) → VR G R' ρ' x v → E (.ref (G.CA c)) (some d) H'
/-- the end, for a value -/
def Gives (G : Sig) (R : Hp) (ρ : List Addr) (H : Hp) (M : Store) (x : Va) (Q : VK) : Prop :=
  ∀ R' ρ' H' v, Ext R ρ H R' ρ' H' → Wd G R' ρ' M H' → VR G R' ρ' x v → Q v H'
def Post (G : Sig) (R : Hp) (ρ : List Addr) (H : Hp) (r : Res) (Q : VK) (E : XK) : Prop := match r with
  | none => False
  | some (.val x, M) => Gives G R ρ H M x Q
  | some (.exc c x, M) => PostX G R ρ H M E c x
theorem Post.ext {G : Sig} {R R' : Hp} {ρ ρ' : List Addr} {H H' : Hp} {r : Res} {Q : VK} {E : XK} (e : Ext R ρ H R' ρ' H') (p : Post G R ρ H r Q E) : Post G R' ρ' H' r Q E := by
  rcases r with _ | ⟨x | ⟨c, x⟩, M⟩
  · exact p
  · exact fun R2 ρ2 H2 v e2 w r => p R2 ρ2 H2 v (e.trans e2) w r
  · exact fun R2 ρ2 H2 d v e2 w h r => p R2 ρ2 H2 d v (e.trans e2) w h r
theorem Gives.ext {G : Sig} {R R' : Hp} {ρ ρ' : List Addr} {H H' : Hp} {M : Store} {x : Va} {Q : VK} (e : Ext R ρ H R' ρ' H') (p : Gives G R ρ H M x Q) : Gives G R' ρ' H' M x Q :=
  fun R2 ρ2 H2 v e2 w r => p R2 ρ2 H2 v (e.trans e2) w r

/-- an expression's reading by its value -/
def tE (G : Sig) (E : XK) (ev : SE) : TE := fun σ H Q => ∃ R ρ s M, Wd G R ρ M H ∧ SR G R ρ s σ ∧ Post G R ρ H (ev s M) Q E
/-- an argument list's: the values as a tuple -/
def PostA (G : Sig) (R : Hp) (ρ : List Addr) (H : Hp) (r : Res) (Q : List V → Hp → Prop) (E : XK) : Prop := match r with
  | none => False
  | some (.val (.tup l), M) => ∀ R' ρ' H' vs, Ext R ρ H R' ρ' H' → Wd G R' ρ' M H' → VRs G R' ρ' l vs → Q vs H'
  | some (.val _, _) => False
  | some (.exc c x, M) => PostX G R ρ H M E c x
def tA (G : Sig) (E : XK) (ev : SE) : TA := fun σ H Q => ∃ R ρ s M, Wd G R ρ M H ∧ SR G R ρ s σ ∧ PostA G R ρ H (ev s M) Q E
/-- a test's: a value True or False -/
def PostT (G : Sig) (R : Hp) (ρ : List Addr) (H : Hp) (r : Res) (Q : Bool → Hp → Prop) (E : XK) : Prop := match r with
  | none => False
  | some (.val (.bl b), M) => ∀ R' ρ' H', Ext R ρ H R' ρ' H' → Wd G R' ρ' M H' → Q b H'
  | some (.val _, _) => False
  | some (.exc c x, M) => PostX G R ρ H M E c x
def tT (G : Sig) (E : XK) (ev : SE) : TT := fun σ H Q => ∃ R ρ s M, Wd G R ρ M H ∧ SR G R ρ s σ ∧ PostT G R ρ H (ev s M) Q E
theorem PostX.ext {G : Sig} {R R' : Hp} {ρ ρ' : List Addr} {H H' : Hp} {M : Store} {c : Nat} {x : Va} {E : XK} (e : Ext R ρ H R' ρ' H') (p : PostX G R ρ H M E c x) : PostX G R' ρ' H' M E c x :=
  fun R2 ρ2 H2 d v e2 w h r => p R2 ρ2 H2 d v (e.trans e2) w h r

section
variable {X : Cx} {e : Expr} {es : List Expr} {st : Stmt} {sts : List Stmt}
theorem pe_imp {t t' : TE} (h : PE X e t) (i : ∀ σ H Q, t' σ H Q → t σ H Q) : PE X e t' := ⟨fun p s σ H Q I q => h.run p s σ H Q I (i σ H Q q)⟩
theorem pt_imp {t t' : TT} (h : PT X e t) (i : ∀ σ H Q, t' σ H Q → t σ H Q) : PT X e t' := ⟨fun p s σ H Q I q => h.run p s σ H Q I (i σ H Q q)⟩
theorem pw_imp {t t' : TT} (h : PW X e t) (i : ∀ σ H Q, t' σ H Q → t σ H Q) : PW X e t' := ⟨fun w p s σ H Q I q => h.run w p s σ H Q I (i σ H Q q)⟩
theorem pa_imp {t t' : TA} (h : PA X es t) (i : ∀ σ H Q, t' σ H Q → t σ H Q) : PA X es t' := ⟨fun w p s σ H Q I q => h.run w p s σ H Q I (i σ H Q q)⟩
theorem ps_imp {t t' : TS} (h : PS X st t) (i : ∀ D σ H, t' D σ H → t D σ H) : PS X st t' := ⟨fun p s σ H D I q => h.run p s σ H D I (i D σ H q)⟩
theorem pss_imp {t t' : TS} (h : PSs X sts t) (i : ∀ D σ H, t' D σ H → t D σ H) : PSs X sts t' := ⟨fun p s σ H D I q => h.run p s σ H D I (i D σ H q)⟩
theorem pi_imp {tg : Expr} {t t' : TI} (h : PI X tg e t) (i : ∀ σ H Q, t' σ H Q → t σ H Q) : PI X tg e t' := ⟨fun p s σ H Q I q => h.run p s σ H Q I (i σ H Q q)⟩
end

section
variable {G : Sig} {E : XK} {σ : St} {H : Hp}
/-- first a, then what hangs on its value -/
theorem tE_bind {ea : SE} {k : Va → SE} {P : SE → St → Hp → Prop} {Q' : VK}
    (h : ∃ R ρ s M, Wd G R ρ M H ∧ SR G R ρ s σ ∧ ∃ r, r = bindO (ea s M) (fun v M1 => k v s M1) ∧ r ≠ none ∧
      (∀ c x M', r = some (.exc c x, M') → PostX G R ρ H M' E c x) ∧
      (∀ va M1, ea s M = some (.val va, M1) → ∀ R' ρ' H' v, Ext R ρ H R' ρ' H' → Wd G R' ρ' M1 H' → VR G R' ρ' va v → Q' v H')) : tE G E ea σ H Q' := by
  obtain ⟨R, ρ, s, M, w, sr, r, er, hn, hx, hv⟩ := h
  refine ⟨R, ρ, s, M, w, sr, ?_⟩
  rcases q : ea s M with _ | ⟨x | ⟨c, x⟩, M1⟩
  · rw [q] at er
    exact absurd er hn
  · exact fun R' ρ' H' v => hv x M1 q R' ρ' H' v
  · rw [q] at er
    exact hx c x M1 er
theorem bindE {ea : SE} {k : Va → SE} {Q Q' : VK} (h : tE G E (fun s M => bindO (ea s M) fun v M1 => k v s M1) σ H Q)
    (hk : ∀ R ρ s M H1 va v, Wd G R ρ M H1 → SR G R ρ s σ → VR G R ρ va v → Post G R ρ H1 (k va s M) Q E → Q' v H1) : tE G E ea σ H Q' := by
  obtain ⟨R, ρ, s, M, w, sr, p⟩ := h
  refine ⟨R, ρ, s, M, w, sr, ?_⟩
  show Post G R ρ H (ea s M) Q' E
  replace p : Post G R ρ H (bindO (ea s M) fun v M1 => k v s M1) Q E := p
  rcases q : ea s M with _ | ⟨x | ⟨c, x⟩, M1⟩ <;> rw [q] at p
  · exact p
  · exact fun R' ρ' H' v e w' r => hk R' ρ' s M1 H' x v w' (sr.mono e.gr) r (p.ext e)
  · exact p
theorem bindEA {ea : SE} {k : Va → SE} {Q : List V → Hp → Prop} {Q' : VK} (h : tA G E (fun s M => bindO (ea s M) fun v M1 => k v s M1) σ H Q)
    (hk : ∀ R ρ s M H1 va v, Wd G R ρ M H1 → SR G R ρ s σ → VR G R ρ va v → PostA G R ρ H1 (k va s M) Q E → Q' v H1) : tE G E ea σ H Q' := by
  obtain ⟨R, ρ, s, M, w, sr, p⟩ := h
  refine ⟨R, ρ, s, M, w, sr, ?_⟩
  show Post G R ρ H (ea s M) Q' E
  replace p : PostA G R ρ H (bindO (ea s M) fun v M1 => k v s M1) Q E := p
  rcases q : ea s M with _ | ⟨x | ⟨c, x⟩, M1⟩ <;> rw [q] at p
  · exact p
  · refine fun R' ρ' H' v e w' r => hk R' ρ' s M1 H' x v w' (sr.mono e.gr) r ?_
    rw [bindO_val] at p
    rcases z : k x s M1 with _ | ⟨y | ⟨c, y⟩, M2⟩ <;> rw [z] at p
    · exact p
    · cases y <;> first | exact p | skip
      exact fun R2 ρ2 H2 vs e2 w2 r2 => p R2 ρ2 H2 vs (e.trans e2) w2 r2
    · exact PostX.ext e p
  · exact p
end
end PV

set_option Elab.async false
set_option linter.all false
set_option maxRecDepth 100000
set_option maxHeartbeats 4000000
namespace PV
open PySem L2

section
variable {G : Sig} {R R' : Hp} {ρ ρ' : List Addr} {M : Store} {H : Hp} {p a : Addr} {o : HO}
theorem Wd.nonR (w : Wd G R ρ M H) (h : H a = none) : R a = none := by
  cases q : R a with
  | none => rfl
  | some x => rw [w.sub a x q] at h; cases h
theorem celR_mono {x : Cell} {H' : Hp} (g : Gr R ρ R' ρ') (h : CelR G R ρ H a x) (e : ∀ u, H a = some u → H' a = some u) : CelR G R' ρ' H' a x := by
  cases x with
  | lst l => obtain ⟨vs, h1, h2, h3⟩ := h; exact ⟨vs, e _ h1, h2, h3.mono g⟩
  | dic l => obtain ⟨vs, h1, h2, h3⟩ := h; exact ⟨vs, e _ h1, h2, h3.mono g⟩
  | ins c l => obtain ⟨dx, vs, h1, h3⟩ := h; exact ⟨dx, vs, e _ h1, h3.mono g⟩
theorem celR_some {x : Cell} (h : CelR G R ρ H a x) : H a ≠ none := by
  cases x with
  | lst l => obtain ⟨vs, h1, h2⟩ := h; rw [h1]; simp
  | dic l => obtain ⟨vs, h1, h2⟩ := h; rw [h1]; simp
  | ins c l => obtain ⟨dx, vs, h1, h2⟩ := h; rw [h1]; simp
/-- the heap alone grows -/
theorem Wd.heap {H' : Hp} (w : Wd G R ρ M H) (k : ∀ a o, H a = some o → H' a = some o) : Wd G R ρ M H' :=
  ⟨fun a o h => k a o (w.sub a o h), w.len, fun n x h => let ⟨a, e, r, c⟩ := w.cel n x h; ⟨a, e, r, celR_mono Gr.refl c fun u q => k _ _ q⟩, w.inj, fun a h n => by
    cases q : H a with
    | none => exact w.al a h q
    | some o => rw [k a o q] at n; cases n⟩
theorem alloc_frz (w : Wd G R ρ M H) (hp : H p = none) : Ext R ρ H (upd R p o) ρ (upd H p o) ∧ Wd G (upd R p o) ρ M (upd H p o) := by
  have kR : ∀ a u, R a = some u → upd R p o a = some u := fun a u h => by rw [upd_ne (ne_of_none (w.sub a u h) hp)]; exact h
  have kH : ∀ a u, H a = some u → upd H p o a = some u := fun a u h => by rw [upd_ne (ne_of_none h hp)]; exact h
  refine ⟨⟨kR, ⟨[], by simp, by simp⟩, fun a u h _ => kH a u h, fun a h => ?_, fun a h n => ?_⟩, ⟨fun a u h => ?_, w.len, fun n x h => ?_, w.inj, fun a h n => ?_⟩⟩
  · cases q : H a with
    | none => exact absurd q h
    | some u => rw [kH a u q]; simp
  · by_cases e : a = p
    · subst e; exact .inl hp
    · rw [upd_ne e] at n; exact absurd h n
  · by_cases e : a = p
    · subst e; rw [upd_same] at h ⊢; exact h
    · rw [upd_ne e] at h ⊢; exact w.sub a u h
  · obtain ⟨a, e, r, c⟩ := w.cel n x h
    have ne : a ≠ p := fun z => celR_some c (by rw [z]; exact hp)
    exact ⟨a, e, by rw [upd_ne ne]; exact r, celR_mono ⟨kR, fun _ _ q => q⟩ c fun u q => kH _ _ q⟩
  · cases q : H a with
    | none => exact w.al a h q
    | some o => rw [kH a o q] at n; cases n
theorem alloc_cel {x : Cell} (w : Wd G R ρ M H) (hp : H p = none) (hx : CelR G R ρ (upd H p o) p x) : Ext R ρ H R (ρ ++ [p]) (upd H p o) ∧ Wd G R (ρ ++ [p]) (M.new x) (upd H p o) ∧ (ρ ++ [p])[M.nx]? = some p := by
  have kH : ∀ a u, H a = some u → upd H p o a = some u := fun a u h => by rw [upd_ne (ne_of_none h hp)]; exact h
  have gr : Gr R ρ R (ρ ++ [p]) := ⟨fun _ _ h => h, fun n a h => by rw [List.getElem?_append_left (List.getElem?_eq_some_iff.mp h).1]; exact h⟩
  have gp : (ρ ++ [p])[M.nx]? = some p := by rw [← w.len]; simp
  have bnd : ∀ n y, M.c n = some y → ∃ b, ρ[n]? = some b ∧ b ≠ p ∧ n ≠ M.nx := fun n y h => by
    obtain ⟨b, e, r, c⟩ := w.cel n y h
    refine ⟨b, e, fun z => celR_some c (by rw [z]; exact hp), fun z => ?_⟩
    have := (List.getElem?_eq_some_iff.mp e).1
    have := w.len
    omega
  refine ⟨⟨fun _ _ h => h, ⟨[p], rfl, fun b hb => by rw [List.mem_singleton.mp hb]; exact hp⟩, fun a u h _ => kH a u h, fun a h => ?_, fun a h n => absurd h n⟩, ⟨fun a u h => kH a u (w.sub a u h), by simp [Store.new, w.len], fun n y h => ?_, fun n m b y z h1 h2 e1 e2 => ?_, fun a h n => ?_⟩, gp⟩
  · cases q : H a with
    | none => exact absurd q h
    | some u => rw [kH a u q]; simp
  · by_cases e : n = M.nx
    · subst e
      have h' : (if M.nx = M.nx then some x else M.c M.nx) = some y := h
      rw [if_pos rfl] at h'
      cases h'
      exact ⟨p, gp, w.nonR hp, celR_mono gr hx fun u q => q⟩
    · have h' : (if n = M.nx then some x else M.c n) = some y := h
      rw [if_neg e] at h'
      obtain ⟨b, e1, r, c⟩ := w.cel n y h'
      exact ⟨b, gr.get n b e1, r, celR_mono gr c fun u q => kH _ _ q⟩
  · have h1' : (if n = M.nx then some x else M.c n) = some y := h1
    have h2' : (if m = M.nx then some x else M.c m) = some z := h2
    by_cases q1 : n = M.nx <;> by_cases q2 : m = M.nx
    · rw [q1, q2]
    · rw [if_neg q2] at h2'
      obtain ⟨b', e', ne, _⟩ := bnd m z h2'
      rw [gr.get m b' e'] at e2
      cases e2
      rw [q1, gp] at e1
      cases e1
      exact absurd rfl ne
    · rw [if_neg q1] at h1'
      obtain ⟨b', e', ne, _⟩ := bnd n y h1'
      rw [gr.get n b' e'] at e1
      cases e1
      rw [q2, gp] at e2
      cases e2
      exact absurd rfl ne
    · rw [if_neg q1] at h1'
      rw [if_neg q2] at h2'
      obtain ⟨b1, e1', _⟩ := bnd n y h1'
      obtain ⟨b2, e2', _⟩ := bnd m z h2'
      rw [gr.get n b1 e1'] at e1
      rw [gr.get m b2 e2'] at e2
      cases e1
      cases e2
      exact w.inj n m b y z h1' h2' e1' e2'
  · rcases List.mem_append.mp h with h | h
    · cases q : H a with
      | none => exact w.al a h q
      | some o => rw [kH a o q] at n; cases n
    · rw [List.mem_singleton.mp h, upd_same] at n
      cases n
theorem write_cel {n : Nat} {x y : Cell} (w : Wd G R ρ M H) (hn : M.c n = some x) (ha : ρ[n]? = some a) (hy : CelR G R ρ (upd H a o) a y) : Ext R ρ H R ρ (upd H a o) ∧ Wd G R ρ (M.put n y) (upd H a o) := by
  obtain ⟨a', e', ra, ca⟩ := w.cel n x hn
  rw [ha] at e'
  cases e'
  refine ⟨⟨fun _ _ h => h, ⟨[], by simp, by simp⟩, fun b u h nb => ?_, fun b h => ?_, fun b h n => absurd h n⟩, ⟨fun b u h => ?_, w.len, fun m z h => ?_, fun m k b y' z h1 h2 e1 e2 => ?_, fun b h n => ?_⟩⟩
  · rw [upd_ne]
    · exact h
    · rintro rfl
      exact nb (List.mem_of_getElem? ha)
  · by_cases e : b = a
    · subst e; rw [upd_same]; simp
    · rw [upd_ne e]; exact h
  · rw [upd_ne]
    · exact w.sub b u h
    · rintro rfl
      rw [ra] at h
      cases h
  · have h' : (if m = n then some y else M.c m) = some z := h
    by_cases e : m = n
    · subst e
      rw [if_pos rfl] at h'
      cases h'
      exact ⟨a, ha, ra, hy⟩
    · rw [if_neg e] at h'
      obtain ⟨b, e1, r, c⟩ := w.cel m z h'
      have ne : b ≠ a := fun q => e (w.inj m n a z x h' hn (q ▸ e1) ha)
      exact ⟨b, e1, r, celR_mono Gr.refl c fun u q => by rw [upd_ne ne]; exact q⟩
  · have h1' : (if m = n then some y else M.c m) = some y' := h1
    have h2' : (if k = n then some y else M.c k) = some z := h2
    have f : ∀ j w', (if j = n then some y else M.c j) = some w' → ∃ w'', M.c j = some w'' := fun j w' q => by
      by_cases e : j = n
      · subst e; exact ⟨x, hn⟩
      · rw [if_neg e] at q; exact ⟨_, q⟩
    obtain ⟨u1, f1⟩ := f m y' h1'
    obtain ⟨u2, f2⟩ := f k z h2'
    exact w.inj m k b u1 u2 f1 f2 e1 e2
  · by_cases e : b = a
    · subst e; rw [upd_same] at n; cases n
    · rw [upd_ne e] at n; exact w.al b h n
theorem freeze_cel {n : Nat} {x : Cell} (w : Wd G R ρ M H) (hn : M.c n = some x) (ha : ρ[n]? = some a) (ho : H a = some o) : Ext R ρ H (upd R a o) ρ H ∧ Wd G (upd R a o) ρ (M.del n) H := by
  obtain ⟨a', e', ra, ca⟩ := w.cel n x hn
  rw [ha] at e'
  cases e'
  have kR : ∀ b u, R b = some u → upd R a o b = some u := fun b u h => by
    rw [upd_ne]
    · exact h
    · rintro rfl
      rw [ra] at h
      cases h
  have f : ∀ j w', (M.del n).c j = some w' → j ≠ n ∧ M.c j = some w' := fun j w' q => by
    have q' : (if j = n then Option.none else M.c j) = some w' := q
    by_cases e : j = n
    · rw [if_pos e] at q'; cases q'
    · rw [if_neg e] at q'; exact ⟨e, q'⟩
  refine ⟨⟨kR, ⟨[], by simp, by simp⟩, fun b u h _ => h, fun b h => h, fun b h n => ?_⟩, ⟨fun b u h => ?_, w.len, fun m z h => ?_, fun m k b y' z h1 h2 e1 e2 => ?_, w.al⟩⟩
  · by_cases e : b = a
    · subst e; exact .inr (List.mem_of_getElem? ha)
    · rw [upd_ne e] at n; exact absurd h n
  · by_cases e : b = a
    · subst e; rw [upd_same] at h; rw [ho]; exact h
    · rw [upd_ne e] at h; exact w.sub b u h
  · obtain ⟨nm, h'⟩ := f m z h
    obtain ⟨b, e1, r, c⟩ := w.cel m z h'
    have ne : b ≠ a := fun q => nm (w.inj m n a z x h' hn (q ▸ e1) ha)
    exact ⟨b, e1, by rw [upd_ne ne]; exact r, celR_mono ⟨kR, fun _ _ q => q⟩ c fun u q => q⟩
  · exact w.inj m k b y' z (f m y' h1).2 (f k z h2).2 e1 e2
end

/-! ### reading lists, tuples, dicts -/
def lstOf (M : Store) : Va → Option (List Va)
  | .lst l => some l
  | .scr l => some (l.map Va.int)
  | .cel n => match M.c n with
    | some (.lst l) => some l
    | _ => none
  | _ => none
/-- a list that is no script -/
def ownOf (M : Store) : Va → Option (List Va)
  | .lst l => some l
  | .cel n => match M.c n with
    | some (.lst l) => some l
    | _ => none
  | _ => none
def tupOf : Va → Option (List Va)
  | .tup l => some l
  | _ => none
def seqOf (M : Store) (x : Va) : Option (List Va) := match x with
  | .tup l => some l
  | _ => lstOf M x
def dicOf (M : Store) : Va → Option (List (Key × Va))
  | .dic l => some l
  | .cel n => match M.c n with
    | some (.dic l) => some l
    | _ => none
  | _ => none
section
variable {G : Sig} {R R' : Hp} {ρ ρ' : List Addr} {M : Store} {H : Hp} {x : Va} {v : V}
theorem own_read {l : List Va} (w : Wd G R ρ M H) (r : VR G R ρ x v) (h : ownOf M x = some l) : ∃ a vs, v = .ref a ∧ H a = some (.lst vs) ∧ VRs G R ρ l vs ∧ l.length ≤ sizeLine := by
  cases r with
  | lst e z q => cases h; exact ⟨_, _, rfl, w.sub _ _ e, q, z⟩
  | @cel n _ e =>
    replace h : (match M.c n with | some (.lst l) => some l | _ => none) = some l := h
    split at h
    · rename_i q1 q2
      cases h
      obtain ⟨a, e1, _, vs, e2, z, q⟩ := w.cel _ _ q2
      rw [e] at e1
      cases e1
      exact ⟨_, vs, rfl, e2, q, z⟩
    · cases h
  | _ => cases h
theorem lst_read {l : List Va} (w : Wd G R ρ M H) (r : VR G R ρ x v) (h : lstOf M x = some l) : ∃ a vs, v = .ref a ∧ SqL G.K H a vs ∧ VRs G R ρ l vs ∧ l.length ≤ sizeLine := by
  cases r with
  | lst e z q => cases h; exact ⟨_, _, rfl, .of (w.sub _ _ e), q, z⟩
  | cel e =>
    have h' : ownOf M (.cel _) = some l := h
    obtain ⟨a, vs, e1, e2, q, z⟩ := own_read w (.cel e) h'
    exact ⟨a, vs, e1, .of e2, q, z⟩
  | scr e z => cases h; exact ⟨_, _, rfl, sqL_mono w.sub e, VRs.ints _, by rw [List.length_map]; exact z⟩
  | _ => cases h
theorem tup_read {l : List Va} (w : Wd G R ρ M H) (r : VR G R ρ x v) (h : tupOf x = some l) : ∃ a vs, v = .ref a ∧ H a = some (.tup vs) ∧ VRs G R ρ l vs ∧ l.length ≤ sizeLine := by
  cases r with
  | tup e z q => cases h; exact ⟨_, _, rfl, w.sub _ _ e, q, z⟩
  | _ => cases h
theorem dic_read {l : List (Key × Va)} (w : Wd G R ρ M H) (r : VR G R ρ x v) (h : dicOf M x = some l) : ∃ a vs, v = .ref a ∧ H a = some (.dK vs) ∧ VRk G R ρ l vs ∧ l.length ≤ sizeLine := by
  cases r with
  | dic e z q => cases h; exact ⟨_, _, rfl, w.sub _ _ e, q, z⟩
  | @cel n _ e =>
    replace h : (match M.c n with | some (.dic l) => some l | _ => none) = some l := h
    split at h
    · rename_i q1 q2
      cases h
      obtain ⟨a, e1, _, vs, e2, z, q⟩ := w.cel _ _ q2
      rw [e] at e1
      cases e1
      exact ⟨_, vs, rfl, e2, q, z⟩
    · cases h
  | _ => cases h
/-- either -/
theorem seq_read {l : List Va} (w : Wd G R ρ M H) (r : VR G R ρ x v) (h : seqOf M x = some l) : ∃ a vs, v = .ref a ∧ (SqL G.K H a vs ∨ SqT G.K H a vs) ∧ VRs G R ρ l vs ∧ l.length ≤ sizeLine := by
  cases x with
  | tup l' =>
    obtain ⟨a, vs, e1, e2, q, z⟩ := tup_read w r h
    exact ⟨a, vs, e1, .inr (.of e2), q, z⟩
  | _ =>
    obtain ⟨a, vs, e1, e2, q, z⟩ := lst_read w r h
    exact ⟨a, vs, e1, .inl e2, q, z⟩
end

/-! ### from one part to the next -/
section
variable {G : Sig} {E : XK} {σ : St} {H : Hp} {R : Hp} {ρ : List Addr} {s : SL} {M : Store}
theorem stepE {ea : SE} {k : Va → Store → Res} {Q Q' : VK} (w : Wd G R ρ M H) (sr : SR G R ρ s σ) (p : Post G R ρ H (bindO (ea s M) k) Q E)
    (hk : ∀ R' ρ' M' H' va v, Ext R ρ H R' ρ' H' → Wd G R' ρ' M' H' → SR G R' ρ' s σ → VR G R' ρ' va v → Post G R' ρ' H' (k va M') Q E → Q' v H') : tE G E ea σ H Q' := by
  refine ⟨R, ρ, s, M, w, sr, ?_⟩
  rcases q : ea s M with _ | ⟨x | ⟨c, x⟩, M1⟩ <;> rw [q] at p
  · exact p
  · exact fun R' ρ' H' v e w' r => hk R' ρ' M1 H' x v e w' (sr.mono e.gr) r (p.ext e)
  · exact p
theorem stepA {ea : SE} {k : List Va → Store → Res} {Q : VK} {Q' : List V → Hp → Prop} (w : Wd G R ρ M H) (sr : SR G R ρ s σ)
    (p : Post G R ρ H (bindO (ea s M) fun t M1 => match t with | .tup l => k l M1 | _ => none) Q E)
    (hk : ∀ R' ρ' M' H' l vs, Ext R ρ H R' ρ' H' → Wd G R' ρ' M' H' → SR G R' ρ' s σ → VRs G R' ρ' l vs → Post G R' ρ' H' (k l M') Q E → Q' vs H') : tA G E ea σ H Q' := by
  refine ⟨R, ρ, s, M, w, sr, ?_⟩
  rcases q : ea s M with _ | ⟨x | ⟨c, x⟩, M1⟩ <;> rw [q] at p
  · exact p
  · cases x <;> first | exact p | skip
    exact fun R' ρ' H' vs e w' r => hk R' ρ' M1 H' _ vs e w' (sr.mono e.gr) r (Post.ext e p)
  · exact p
theorem stepT {ea : SE} {k : Bool → Store → Res} {Q : VK} {Q' : Bool → Hp → Prop} (w : Wd G R ρ M H) (sr : SR G R ρ s σ)
    (p : Post G R ρ H (bindO (ea s M) fun t M1 => match t with | .bl b => k b M1 | _ => none) Q E)
    (hk : ∀ R' ρ' M' H' b, Ext R ρ H R' ρ' H' → Wd G R' ρ' M' H' → SR G R' ρ' s σ → Post G R' ρ' H' (k b M') Q E → Q' b H') : tT G E ea σ H Q' := by
  refine ⟨R, ρ, s, M, w, sr, ?_⟩
  rcases q : ea s M with _ | ⟨x | ⟨c, x⟩, M1⟩ <;> rw [q] at p
  · exact p
  · cases x <;> first | exact p | skip
    exact fun R' ρ' H' e w' => hk R' ρ' M1 H' _ e w' (sr.mono e.gr) (Post.ext e p)
  · exact p
end

/-! ### the forms of expressions -/
def evVar (i : Nat) : SE := fun s M => match s[i]? with
  | some (some v) => some (.val v, M)
  | _ => none
def evC (v : Va) : SE := fun _ M => some (.val v, M)
def ev1 (g : Store → Va → Option Va) (ea : SE) : SE := fun s M => bindO (ea s M) fun va M1 => match g M1 va with
  | some r => some (.val r, M1)
  | none => none
def ev2 (g : Store → Va → Va → Option Va) (ea eb : SE) : SE := fun s M => bindO (ea s M) fun va M1 => bindO (eb s M1) fun vb M2 => match g M2 va vb with
  | some r => some (.val r, M2)
  | none => none
def evNil : SE := fun _ M => some (.val (.tup []), M)
def evCons (e r : SE) : SE := fun s M => bindO (e s M) fun v M1 => bindO (r s M1) fun t M2 => match t with
  | .tup l => some (.val (.tup (v :: l)), M2)
  | _ => none
/-- with a list of arguments -/
def evL (k : List Va → Store → Res) (ea : SE) : SE := fun s M => bindO (ea s M) fun t M1 => match t with
  | .tup l => k l M1
  | _ => none
def kTup (l : List Va) (M : Store) : Res := if l.length ≤ sizeLine then some (.val (.tup l), M) else none
def kLst (l : List Va) (M : Store) : Res := if l.length ≤ sizeLine then some (.val (.lst l), M) else none
def kNew (l : List Va) (M : Store) : Res := if l.length ≤ sizeLine then some (.val (.cel M.nx), M.new (.lst l)) else none
def kPure (g : Store → List Va → Option Va) (l : List Va) (M : Store) : Res := match g M l with
  | some r => some (.val r, M)
  | none => none
/-- a method: the object, then the arguments -/
def evM (k : Va → List Va → Store → Res) (eo ea : SE) : SE := fun s M => bindO (eo s M) fun o M1 => bindO (ea s M1) fun t M2 => match t with
  | .tup l => k o l M2
  | _ => none
def evIf (t a b : SE) : SE := fun s M => bindO (t s M) fun c M1 => match c with
  | .bl true => a s M1
  | .bl false => b s M1
  | _ => none
def evAnd (a b : SE) : SE := fun s M => bindO (a s M) fun c M1 => match c with
  | .bl true => b s M1
  | .bl false => some (.val (.bl false), M1)
  | _ => none
def evOr (a b : SE) : SE := fun s M => bindO (a s M) fun c M1 => match c with
  | .bl true => some (.val (.bl true), M1)
  | .bl false => b s M1
  | _ => none
def evNot (a : SE) : SE := fun s M => bindO (a s M) fun c M1 => match c with
  | .bl b => some (.val (.bl (!b)), M1)
  | _ => none
/-- a list cell becomes a datum -/
def frzO (r : Res) : Res := match r with
  | some (.val (.cel n), M) => match M.c n with
    | some (.lst l) => some (.val (.lst l), M.del n)
    | some (.dic l) => some (.val (.dic l), M.del n)
    | _ => some (.val (.cel n), M)
  | r => r
def evFrz (a : SE) : SE := fun s M => frzO (a s M)
/-- a chain of two comparisons -/
def evChain (g g' : Store → Va → Va → Option Va) (ea eb ec : SE) : SE := fun s M => bindO (ea s M) fun va M1 => bindO (eb s M1) fun vb M2 => match g M2 va vb with
  | some (.bl true) => bindO (ec s M2) fun vc M3 => match g' M3 vb vc with
    | some (.bl b) => some (.val (.bl b), M3)
    | _ => none
  | some (.bl false) => some (.val (.bl false), M2)
  | _ => none

/-! ### what an operation, a call, a method gives -/
def Op1 (G : Sig) (r : V → Hp → VK → Prop) (g : Store → Va → Option Va) : Prop := ∀ R ρ M H x va res (Q : VK), Wd G R ρ M H → VR G R ρ va x → g M va = some res → Gives G R ρ H M res Q → r x H Q
def Op2 (G : Sig) (r : R2) (g : Store → Va → Va → Option Va) : Prop := ∀ R ρ M H x y va vb res (Q : VK), Wd G R ρ M H → VR G R ρ va x → VR G R ρ vb y → g M va vb = some res → Gives G R ρ H M res Q → r x y H Q
def OpL (G : Sig) (r : List V → Hp → VK → Prop) (k : List Va → Store → Res) : Prop := ∀ R ρ M H xs l (Q : VK) (E : XK), Wd G R ρ M H → VRs G R ρ l xs → Post G R ρ H (k l M) Q E → r xs H Q
def OpM (G : Sig) (T : String) (r : V → List V → Hp → VK → Prop) (k : Va → List Va → Store → Res) : Prop := ∀ R ρ M H x xs o l (Q : VK) (E : XK), Wd G R ρ M H → VR G R ρ o x → VRs G R ρ l xs → Post G R ρ H (k o l M) Q E → r x xs H Q
/-- the object's type is right -/
def TyM (G : Sig) (T : String) (k : Va → List Va → Store → Res) : Prop := ∀ R ρ M H x o, Wd G R ρ M H → VR G R ρ o x → (∀ l M', k o l M' = none) ∨ tyV G.K T x H
theorem gives_now {G : Sig} {R : Hp} {ρ : List Addr} {M : Store} {H : Hp} {x : Va} {v : V} {Q : VK} (w : Wd G R ρ M H) (r : VR G R ρ x v) (g : Gives G R ρ H M x Q) : Q v H := g R ρ H v Ext.refl w r
theorem gives_tup {G : Sig} {R : Hp} {ρ : List Addr} {M : Store} {H : Hp} {l : List Va} {vs : List V} {p : Addr} {Q : VK} (w : Wd G R ρ M H) (r : VRs G R ρ l vs) (z : l.length ≤ sizeLine) (g : Gives G R ρ H M (.tup l) Q) (hp : H p = none) : Q (.ref p) (upd H p (.tup vs)) := by
  obtain ⟨e, w'⟩ := alloc_frz (o := .tup vs) w hp
  exact g _ _ _ _ e w' (.tup upd_same z (r.mono e.gr))
theorem gives_lst {G : Sig} {R : Hp} {ρ : List Addr} {M : Store} {H : Hp} {l : List Va} {vs : List V} {p : Addr} {Q : VK} (w : Wd G R ρ M H) (r : VRs G R ρ l vs) (z : l.length ≤ sizeLine) (g : Gives G R ρ H M (.lst l) Q) (hp : H p = none) : Q (.ref p) (upd H p (.lst vs)) := by
  obtain ⟨e, w'⟩ := alloc_frz (o := .lst vs) w hp
  exact g _ _ _ _ e w' (.lst upd_same z (r.mono e.gr))
theorem gives_dic {G : Sig} {R : Hp} {ρ : List Addr} {M : Store} {H : Hp} {l : List (Key × Va)} {vs : List (Key × V)} {p : Addr} {Q : VK} (w : Wd G R ρ M H) (r : VRk G R ρ l vs) (z : l.length ≤ sizeLine) (g : Gives G R ρ H M (.dic l) Q) (hp : H p = none) : Q (.ref p) (upd H p (.dK vs)) := by
  obtain ⟨e, w'⟩ := alloc_frz (o := .dK vs) w hp
  exact g _ _ _ _ e w' (.dic upd_same z (r.mono e.gr))
theorem gives_new {G : Sig} {R : Hp} {ρ : List Addr} {M : Store} {H : Hp} {l : List Va} {vs : List V} {p : Addr} {Q : VK} (w : Wd G R ρ M H) (r : VRs G R ρ l vs) (z : l.length ≤ sizeLine) (g : Gives G R ρ H (M.new (.lst l)) (.cel M.nx) Q) (hp : H p = none) : Q (.ref p) (upd H p (.lst vs)) := by
  obtain ⟨e, w', h⟩ := alloc_cel (o := .lst vs) (x := .lst l) w hp ⟨vs, upd_same, z, r⟩
  exact g _ _ _ _ e w' (.cel h)

section
variable {X : Cx} {G : Sig} {E : XK} {a b c : Expr} {es : List Expr} {ea eb ec : SE} {pos : Pos}
theorem qv (i : Nat) {x : Str} (hN : X.N[i]? = some x := by rfl) (hv : Vis X.env.scope x := by first | exact Or.inl rfl | exact Or.inr (Or.inl rfl) | exact Or.inr (Or.inr rfl)) (hd : (x == ("__debug__" : Str)) = false := by decide)
    (hcd : (x == ("__classdict__" : Str)) = false := by decide) : PE X (.Name x pos) (tE G E (evVar i)) := by
  refine pe_imp (pe_var hN hv hd hcd) fun σ H Q ⟨R, ρ, s, M, w, sr, p⟩ => ?_
  unfold evVar at p
  rcases q : s[i]? with _ | _ | v <;> rw [q] at p
  · exact False.elim p
  · exact False.elim p
  · obtain ⟨u, h1, h2⟩ := sr.at_ i v q
    exact ⟨u, h1, gives_now w h2 p⟩
theorem qc_int {i j} : PE X (.Constant (.int i) j pos) (tE G E (evC (.int i))) := pe_imp pe_int fun σ H Q ⟨R, ρ, s, M, w, sr, p⟩ => gives_now w (.int i) p
theorem qc_bl {i j} : PE X (.Constant (.bool i) j pos) (tE G E (evC (.bl i))) := pe_imp pe_bl fun σ H Q ⟨R, ρ, s, M, w, sr, p⟩ => gives_now w (.bl i) p
theorem qc_str {i j} : PE X (.Constant (.str i) j pos) (tE G E (evC (.str i))) := pe_imp pe_str fun σ H Q ⟨R, ρ, s, M, w, sr, p⟩ => gives_now w (.str i) p
theorem qc_non {j} : PE X (.Constant .none j pos) (tE G E (evC .non)) := pe_imp pe_non fun σ H Q ⟨R, ρ, s, M, w, sr, p⟩ => gives_now w .non p
/-- a module's constant: a text or an int -/
theorem qg_str {x z : Str} {t : Tok} (hg : Gl X x) (hm : X.mg x = some (.str z t)) (hd : (x == ("__debug__" : Str)) = false := by decide) : PE X (.Name x pos) (tE G E (evC (.str z))) :=
  pe_imp (pe_glob (v := .str z) hg hm ⟨t, rfl⟩ hd) fun σ H Q ⟨R, ρ, s, M, w, sr, p⟩ => gives_now w (.str z) p
theorem qg_int {x : Str} {z : Int} {t : Tok} (hg : Gl X x) (hm : X.mg x = some (.int z t)) (hd : (x == ("__debug__" : Str)) = false := by decide) : PE X (.Name x pos) (tE G E (evC (.int z))) :=
  pe_imp (pe_glob (v := .int z) hg hm ⟨t, rfl⟩ hd) fun σ H Q ⟨R, ρ, s, M, w, sr, p⟩ => gives_now w (.int z) p

theorem qg_strE {x z : Str} (hg : Gl X x) (hm : ∃ t, X.mg x = some (.str z t)) (hd : (x == ("__debug__" : Str)) = false := by decide) : PE X (.Name x pos) (tE G E (evC (.str z))) := by
  obtain ⟨t, h⟩ := hm
  exact qg_str hg h hd
theorem qg_intE {x : Str} {z : Int} (hg : Gl X x) (hm : ∃ t, X.mg x = some (.int z t)) (hd : (x == ("__debug__" : Str)) = false := by decide) : PE X (.Name x pos) (tE G E (evC (.int z))) := by
  obtain ⟨t, h⟩ := hm
  exact qg_int hg h hd
theorem two {r : R2} {g : Store → Va → Va → Option Va} (hs : Op2 G r g) {σ : St} {H : Hp} {Q : VK} (h : tE G E (ev2 g ea eb) σ H Q) : tOp r (tE G E ea) (tE G E eb) σ H Q := by
  obtain ⟨R, ρ, s, M, w, sr, p⟩ := h
  refine stepE w sr p fun R1 ρ1 M1 H1 va v e1 w1 sr1 r1 p1 => ?_
  refine stepE w1 sr1 p1 fun R2 ρ2 M2 H2 vb u e2 w2 sr2 r2 p2 => ?_
  cases q : g M2 va vb with
  | none => rw [q] at p2; exact False.elim p2
  | some res => rw [q] at p2; exact hs R2 ρ2 M2 H2 v u va vb res Q w2 (r1.mono e2.gr) r2 q p2
theorem q_op {op : Operator} {r : R2} {g : Store → Va → Va → Option Va} (ho : OpR X (binaryOp op) r) (hs : Op2 G r g) (ha : PE X a (tE G E ea)) (hb : PE X b (tE G E eb)) : PE X (.BinOp a op b pos) (tE G E (ev2 g ea eb)) :=
  pe_imp (pe_op ho ha hb) fun σ H Q h => two hs h
theorem q_cmp {op : CmpOp} {r : R2} {g : Store → Va → Va → Option Va} (ho : OpR X (compareOp op) r) (hs : Op2 G r g) (ha : PE X a (tE G E ea)) (hb : PE X b (tE G E eb)) (hm : behindInMarks op b = false) : PE X (.Compare a [op] [b] pos) (tE G E (ev2 g ea eb)) :=
  pe_imp (pe_cmpR ho ha hb hm) fun σ H Q h => two hs h
theorem q_ix {r : R2} {g : Store → Va → Va → Option Va} (ho : IxR X r) (hs : Op2 G r g) (ha : PE X a (tE G E ea)) (hb : PE X b (tE G E eb)) (hm : PlainIx b := by exact fun _ _ => rfl) : PE X (.Subscript a b pos) (tE G E (ev2 g ea eb)) :=
  pe_imp (pe_ix ho ha hb hm) fun σ H Q h => two hs h
theorem q_un {op : UnaryOp} {r : V → Hp → VK → Prop} {g : Store → Va → Option Va} (ho : UnR X (unaryOp op) r) (hs : Op1 G r g) (ha : PE X a (tE G E ea)) : PE X (.UnaryOp op a pos) (tE G E (ev1 g ea)) :=
  pe_imp (pe_un ho ha) fun σ H Q ⟨R, ρ, s, M, w, sr, p⟩ => stepE w sr p fun R1 ρ1 M1 H1 va v e1 w1 sr1 r1 p1 => by
    cases q : g M1 va with
    | none => rw [q] at p1; exact False.elim p1
    | some res => rw [q] at p1; exact hs R1 ρ1 M1 H1 v va res Q w1 r1 q p1

/-! #### arguments, displays -/
theorem qa_nil : PA X [] (tA G E evNil) := pa_imp pa_nil fun σ H Q ⟨R, ρ, s, M, w, sr, p⟩ => p R ρ H [] Ext.refl w .nil
theorem qa_cons (ha : PE X a (tE G E ea)) (hr : PA X es (tA G E eb)) (hs : starEach (a :: es) X.env = (false, eval a X.env) :: starEach es X.env := by rfl) : PA X (a :: es) (tA G E (evCons ea eb)) :=
  pa_imp (pa_cons ha hr hs) fun σ H Q ⟨R, ρ, s, M, w, sr, p⟩ => by
    refine ⟨R, ρ, s, M, w, sr, ?_⟩
    replace p : PostA G R ρ H (bindO (ea s M) fun v M1 => bindO (eb s M1) fun t M2 => match t with | .tup l => some (.val (.tup (v :: l)), M2) | _ => none) Q E := p
    rcases q : ea s M with _ | ⟨x | ⟨c, x⟩, M1⟩ <;> rw [q] at p
    · exact p
    · intro R1 ρ1 H1 v e1 w1 r1
      refine ⟨R1, ρ1, s, M1, w1, sr.mono e1.gr, ?_⟩
      rw [bindO_val] at p
      rcases q2 : eb s M1 with _ | ⟨y | ⟨c, y⟩, M2⟩ <;> rw [q2] at p
      · exact p
      · cases y <;> first | exact p | skip
        intro R2 ρ2 H2 vs e2 w2 r2
        exact p R2 ρ2 H2 (v :: vs) (e1.trans e2) w2 (.cons (r1.mono e2.gr) r2)
      · exact PostX.ext e1 p
    · exact p
theorem q_tup {k} (h : PA X es (tA G E ea)) : PE X (.Tuple es k pos) (tE G E (evL kTup ea)) :=
  pe_imp (pe_tup h) fun σ H Q ⟨R, ρ, s, M, w, sr, p⟩ => stepA w sr p fun R1 ρ1 M1 H1 l vs e1 w1 sr1 r1 p1 => by
    unfold kTup at p1
    split at p1
    · rename_i hz
      exact ⟨by rw [← r1.length]; exact hz, fun q hq => gives_tup w1 r1 hz p1 hq⟩
    · exact False.elim p1
theorem q_lst (h : PA X es (tA G E ea)) : PE X (.List es pos) (tE G E (evL kLst ea)) :=
  pe_imp (pe_lst h) fun σ H Q ⟨R, ρ, s, M, w, sr, p⟩ => stepA w sr p fun R1 ρ1 M1 H1 l vs e1 w1 sr1 r1 p1 => by
    unfold kLst at p1
    split at p1
    · rename_i hz
      exact ⟨by rw [← r1.length]; exact hz, fun q hq => gives_lst w1 r1 hz p1 hq⟩
    · exact False.elim p1
/-- a list that will change -/
theorem q_lstC (h : PA X es (tA G E ea)) : PE X (.List es pos) (tE G E (evL kNew ea)) :=
  pe_imp (pe_lst h) fun σ H Q ⟨R, ρ, s, M, w, sr, p⟩ => stepA w sr p fun R1 ρ1 M1 H1 l vs e1 w1 sr1 r1 p1 => by
    unfold kNew at p1
    split at p1
    · rename_i hz
      exact ⟨by rw [← r1.length]; exact hz, fun q hq => gives_new w1 r1 hz p1 hq⟩
    · exact False.elim p1
theorem q_frz (h : PE X a (tE G E ea)) : PE X a (tE G E (evFrz ea)) :=
  pe_imp h fun σ H Q ⟨R, ρ, s, M, w, sr, p⟩ => by
    refine ⟨R, ρ, s, M, w, sr, ?_⟩
    unfold evFrz at p
    rcases q : ea s M with _ | ⟨x | ⟨c, x⟩, M1⟩ <;> rw [q] at p
    · exact p
    · cases x <;> first | exact p | skip
      rename_i n
      unfold frzO at p
      dsimp only at p
      cases q2 : M1.c n with
      | none => rw [q2] at p; exact p
      | some y =>
        rw [q2] at p
        cases y with
        | ins c l => exact p
        | lst l =>
          intro R1 ρ1 H1 v e1 w1 r1
          obtain ⟨b, eb, rb, vs, hb, z, rv⟩ := w1.cel n _ q2
          cases r1 with
          | cel e' =>
            rw [e'] at eb
            cases eb
            obtain ⟨e2, w2⟩ := freeze_cel w1 q2 e' hb
            exact p _ _ _ _ (e1.trans e2) w2 (.lst upd_same z (rv.mono e2.gr))
        | dic l =>
          intro R1 ρ1 H1 v e1 w1 r1
          obtain ⟨b, eb, rb, vs, hb, z, rv⟩ := w1.cel n _ q2
          cases r1 with
          | cel e' =>
            rw [e'] at eb
            cases eb
            obtain ⟨e2, w2⟩ := freeze_cel w1 q2 e' hb
            exact p _ _ _ _ (e1.trans e2) w2 (.dic upd_same z (rv.mono e2.gr))
    · exact p

/-! #### calls of what is built in -/
variable {x : Str} {p' : Pos} {id T : String} {r : List V → Hp → VK → Prop} {k : List Va → Store → Res}
theorem q_callB (hc : CallR X (.builtin id) r) (hs : OpL G r k) (hg : Gl X x) (hm : X.mg x = none) (hv : bootBuiltins x = some (.builtin id)) (ha : PA X (a :: es) (tA G E ea)) (hn : x ≠ "__name__" := by decide) (hdb : (x == ("__debug__" : Str)) = false := by decide)
    (he : starEach (a :: es) X.env = (false, eval a X.env) :: starEach es X.env := by rfl) (hpl : (backTo pos (starEach es X.env)).any (·.1) = false := by rfl) : PE X (.Call (.Name x p') (a :: es) [] pos) (tE G E (evL k ea)) :=
  pe_imp (pe_callB hc hg hm hv ha hn hdb he hpl) fun σ H Q ⟨R, ρ, s, M, w, sr, p⟩ => stepA w sr p fun R1 ρ1 M1 H1 l vs e1 w1 sr1 r1 p1 => hs R1 ρ1 M1 H1 vs l Q E w1 r1 p1
theorem q_callTy (hc : CallR X (.type T) r) (hs : OpL G r k) (hg : Gl X x) (hm : X.mg x = none) (hv : bootBuiltins x = some (.type T)) (ha : PA X (a :: es) (tA G E ea)) (hn : x ≠ "__name__" := by decide) (hdb : (x == ("__debug__" : Str)) = false := by decide)
    (he : starEach (a :: es) X.env = (false, eval a X.env) :: starEach es X.env := by rfl) (hpl : (backTo pos (starEach es X.env)).any (·.1) = false := by rfl) : PE X (.Call (.Name x p') (a :: es) [] pos) (tE G E (evL k ea)) :=
  pe_imp (pe_callTy hc hg hm hv ha hn hdb he hpl) fun σ H Q ⟨R, ρ, s, M, w, sr, p⟩ => stepA w sr p fun R1 ρ1 M1 H1 l vs e1 w1 sr1 r1 p1 => hs R1 ρ1 M1 H1 vs l Q E w1 r1 p1

/-! #### tests -/
theorem toT {σ : St} {H : Hp} {Q : Bool → Hp → Prop} (h : tT G E ea σ H Q) : tE G E ea σ H fun x H1 => ∃ k, x = .bl k ∧ Q k H1 := by
  obtain ⟨R, ρ, s, M, w, sr, p⟩ := h
  refine ⟨R, ρ, s, M, w, sr, ?_⟩
  rcases q : ea s M with _ | ⟨x | ⟨c, x⟩, M1⟩ <;> rw [q] at p
  · exact p
  · cases x <;> first | exact False.elim p | skip
    intro R1 ρ1 H1 v e1 w1 r1
    cases r1
    exact ⟨_, rfl, p R1 ρ1 H1 e1 w1⟩
  · exact p
theorem qt_cmp {op : CmpOp} {r : R2} {g : Store → Va → Va → Option Va} (ho : OpR X (compareOp op) r) (hs : Op2 G r g) (ha : PE X a (tE G E ea)) (hb : PE X b (tE G E eb)) (hm : behindInMarks op b = false) : PT X (.Compare a [op] [b] pos) (tT G E (ev2 g ea eb)) :=
  pt_imp (pt_cmpR ho ha hb hm) fun σ H Q h => two hs (toT h)
theorem qt_val (ha : PE X a (tE G E ea)) (he : ∀ whole, isTrue a X.env whole = (do let v ← whole; standAt a.pos; holding [v] (truthy v)) := by intro _; rfl) : PT X a (tT G E ea) :=
  pt_imp (pt_val ha he) fun σ H Q h => toT h
def truO (M : Store) : Va → Option Bool
  | .non => some false
  | .bl b => some b
  | .int i => some (i != 0)
  | .str z => if z.length ≤ sizeLine then some ((z.length : Int) != 0) else none
  | .dic l => some (!l.isEmpty)
  | x => (seqOf M x).map fun l => !l.isEmpty
def evTru (a : SE) : SE := ev1 (fun M x => (truO M x).map Va.bl) a
theorem VRs.isEmpty {R : Hp} {ρ : List Addr} : ∀ {l : List Va} {vs : List V}, VRs G R ρ l vs → l.isEmpty = vs.isEmpty
  | _, _, .nil => rfl
  | _, _, .cons _ _ => rfl
theorem VRk.isEmpty {R : Hp} {ρ : List Addr} : ∀ {l : List (Key × Va)} {vs : List (Key × V)}, VRk G R ρ l vs → l.isEmpty = vs.isEmpty
  | _, _, .nil => rfl
  | _, _, .cons _ _ => rfl
theorem tru_of {R : Hp} {ρ : List Addr} {M : Store} {H : Hp} {x : Va} {v : V} {k : Bool} (w : Wd G R ρ M H) (r : VR G R ρ x v) (h : truO M x = some k) : TruV G.K v H k := by
  have sq : ∀ l, seqOf M x = some l → k = !l.isEmpty → TruV G.K v H k := fun l h1 h2 => by
    obtain ⟨a, vs, rfl, q, rv, _⟩ := seq_read w r h1
    rw [rv.isEmpty] at h2
    rcases q with q | q
    · exact .inl ⟨vs, q, h2⟩
    · exact .inr (.inl ⟨vs, q, h2⟩)
  have sq' : (seqOf M x).map (fun l => !l.isEmpty) = some k → TruV G.K v H k := fun h => by
    cases q : seqOf M x with
    | none => rw [q] at h; cases h
    | some l => rw [q] at h; cases h; exact sq l q rfl
  cases r with
  | non => cases h; rfl
  | bl b => cases h; rfl
  | int i => cases h; rfl
  | str z =>
    replace h : (if z.length ≤ sizeLine then some ((z.length : Int) != 0) else none) = some k := h
    by_cases hz : z.length ≤ sizeLine
    · rw [if_pos hz] at h; cases h; exact ⟨hz, rfl⟩
    · rw [if_neg hz] at h; cases h
  | dic e z q => cases h; exact .inr (.inr ⟨_, w.sub _ _ e, by rw [q.isEmpty]⟩)
  | lst e z q => exact sq' h
  | tup e z q => exact sq' h
  | cel e => exact sq' h
  | scr e z => exact sq' h
theorem qt_tru (hK : X.K = G.K) (ha : PE X a (tE G E ea)) (he : ∀ whole, isTrue a X.env whole = (do let v ← whole; standAt a.pos; holding [v] (truthy v)) := by intro _; rfl) : PT X a (tT G E (evTru ea)) :=
  pt_imp (pt_truth ha he) fun σ H Q ⟨R, ρ, s, M, w, sr, p⟩ => by
    replace p : PostT G R ρ H (bindO (ea s M) fun va M1 => match (truO M1 va).map Va.bl with | some r => some (.val r, M1) | none => none) Q E := p
    refine ⟨R, ρ, s, M, w, sr, ?_⟩
    rcases q : ea s M with _ | ⟨x | ⟨c, x⟩, M1⟩ <;> rw [q] at p
    · exact p
    · rw [bindO_val] at p
      intro R1 ρ1 H1 v e1 w1 r1
      cases q2 : truO M1 x with
      | none => rw [q2] at p; exact False.elim p
      | some k =>
        rw [q2] at p
        exact ⟨k, by rw [hK]; exact tru_of w1 r1 q2, p R1 ρ1 H1 e1 w1⟩
    · exact p
theorem stepTT {σ : St} {H : Hp} {R : Hp} {ρ : List Addr} {s : SL} {M : Store} {k : Bool → Store → Res} {Q Q' : Bool → Hp → Prop} (w : Wd G R ρ M H) (sr : SR G R ρ s σ)
    (p : PostT G R ρ H (bindO (ea s M) fun t M1 => match t with | .bl b => k b M1 | _ => none) Q E)
    (hk : ∀ R' ρ' M' H' b, Ext R ρ H R' ρ' H' → Wd G R' ρ' M' H' → SR G R' ρ' s σ → PostT G R' ρ' H' (k b M') Q E → Q' b H') : tT G E ea σ H Q' := by
  refine ⟨R, ρ, s, M, w, sr, ?_⟩
  rcases q : ea s M with _ | ⟨x | ⟨c, x⟩, M1⟩ <;> rw [q] at p
  · exact p
  · cases x <;> first | exact p | skip
    rename_i b
    refine fun R' ρ' H' e w' => hk R' ρ' M1 H' b e w' (sr.mono e.gr) ?_
    replace p : PostT G R ρ H (k b M1) Q E := p
    rcases z : k b M1 with _ | ⟨y | ⟨c, y⟩, M2⟩ <;> rw [z] at p
    · exact p
    · cases y <;> first | exact p | skip
      exact fun R2 ρ2 H2 e2 w2 => p R2 ρ2 H2 (e.trans e2) w2
    · exact PostX.ext e p
  · exact p
theorem and_eq {s : SL} {M : Store} : evAnd ea eb s M = bindO (ea s M) fun t M1 => match t with | .bl b => (fun b M1 => if b = true then eb s M1 else some (.val (.bl false), M1)) b M1 | _ => none := by
  unfold evAnd; congr 1; funext c M1; cases c <;> try rfl
  rename_i b; cases b <;> rfl
theorem or_eq {s : SL} {M : Store} : evOr ea eb s M = bindO (ea s M) fun t M1 => match t with | .bl b => (fun b M1 => if b = true then some (.val (.bl true), M1) else eb s M1) b M1 | _ => none := by
  unfold evOr; congr 1; funext c M1; cases c <;> try rfl
  rename_i b; cases b <;> rfl
theorem if_eq {s : SL} {M : Store} : evIf ec ea eb s M = bindO (ec s M) fun t M1 => match t with | .bl b => (fun b M1 => if b = true then ea s M1 else eb s M1) b M1 | _ => none := by
  unfold evIf; congr 1; funext c M1; cases c <;> try rfl
  rename_i b; cases b <;> rfl
variable {rest : List Expr}
theorem qw_and1 (ha : PT X a (tT G E ea)) : PW X (.BoolOp .And [a] pos) (tT G E ea) := pw_and1 ha
theorem qw_or1 (ha : PT X a (tT G E ea)) : PW X (.BoolOp .Or [a] pos) (tT G E ea) := pw_or1 ha
theorem qw_and (ha : PT X a (tT G E ea)) (hb : PW X (.BoolOp .And (b :: rest) pos) (tT G E eb)) : PW X (.BoolOp .And (a :: b :: rest) pos) (tT G E (evAnd ea eb)) :=
  pw_imp (pw_and ha hb) fun σ H Q ⟨R, ρ, s, M, w, sr, p⟩ => by
    rw [and_eq] at p
    refine stepTT w sr p fun R1 ρ1 M1 H1 b e1 w1 sr1 p1 => ?_
    cases b with
    | true => exact iteT ⟨R1, ρ1, s, M1, w1, sr1, p1⟩
    | false => exact iteF (p1 R1 ρ1 H1 Ext.refl w1)
theorem qw_or (ha : PT X a (tT G E ea)) (hb : PW X (.BoolOp .Or (b :: rest) pos) (tT G E eb)) : PW X (.BoolOp .Or (a :: b :: rest) pos) (tT G E (evOr ea eb)) :=
  pw_imp (pw_or ha hb) fun σ H Q ⟨R, ρ, s, M, w, sr, p⟩ => by
    rw [or_eq] at p
    refine stepTT w sr p fun R1 ρ1 M1 H1 b e1 w1 sr1 p1 => ?_
    cases b with
    | true => exact iteT (p1 R1 ρ1 H1 Ext.refl w1)
    | false => exact iteF ⟨R1, ρ1, s, M1, w1, sr1, p1⟩
theorem qt_pw {e : SE} (h : PW X a (tT G E e)) : PT X a (tT G E e) := h.pt
theorem qt_not (ha : PT X a (tT G E ea)) : PT X (.UnaryOp .Not a pos) (tT G E (evNot ea)) :=
  pt_imp (pt_not ha) fun σ H Q ⟨R, ρ, s, M, w, sr, p⟩ => stepTT (k := fun b M1 => some (.val (.bl (!b)), M1)) w sr p fun R1 ρ1 M1 H1 b e1 w1 sr1 p1 => p1 R1 ρ1 H1 Ext.refl w1
theorem q_if (hc : PT X c (tT G E ec)) (ha : PE X a (tE G E ea)) (hb : PE X b (tE G E eb)) : PE X (.IfExp c a b pos) (tE G E (evIf ec ea eb)) :=
  pe_imp (pe_ifExp hc ha hb) fun σ H Q ⟨R, ρ, s, M, w, sr, p⟩ => by
    rw [if_eq] at p
    refine stepT w sr p fun R1 ρ1 M1 H1 b e1 w1 sr1 p1 => ?_
    cases b with
    | true => exact iteT ⟨R1, ρ1, s, M1, w1, sr1, p1⟩
    | false => exact iteF ⟨R1, ρ1, s, M1, w1, sr1, p1⟩
/-- and, or, not as values (truth values) -/
theorem q_one {op} {e : SE} (h : PE X a (tE G E e)) : PE X (.BoolOp op [a] pos) (tE G E e) := pe_one h
theorem q_and (ha : PE X a (tE G E ea)) (hb : PE X (.BoolOp .And (b :: rest) pos) (tE G E eb)) : PE X (.BoolOp .And (a :: b :: rest) pos) (tE G E (evAnd ea eb)) :=
  pe_imp (pe_and ha hb) fun σ H Q ⟨R, ρ, s, M, w, sr, p⟩ => stepE w sr p fun R1 ρ1 M1 H1 va v e1 w1 sr1 r1 p1 => by
    cases r1 <;> first | exact False.elim p1 | skip
    rename_i b
    refine ⟨b, rfl, ?_⟩
    cases b with
    | true => exact iteT ⟨R1, ρ1, s, M1, w1, sr1, p1⟩
    | false => exact iteF (p1 R1 ρ1 H1 _ Ext.refl w1 (.bl false))
theorem q_or (ha : PE X a (tE G E ea)) (hb : PE X (.BoolOp .Or (b :: rest) pos) (tE G E eb)) : PE X (.BoolOp .Or (a :: b :: rest) pos) (tE G E (evOr ea eb)) :=
  pe_imp (pe_or ha hb) fun σ H Q ⟨R, ρ, s, M, w, sr, p⟩ => stepE w sr p fun R1 ρ1 M1 H1 va v e1 w1 sr1 r1 p1 => by
    cases r1 <;> first | exact False.elim p1 | skip
    rename_i b
    refine ⟨b, rfl, ?_⟩
    cases b with
    | true => exact iteT (p1 R1 ρ1 H1 _ Ext.refl w1 (.bl true))
    | false => exact iteF ⟨R1, ρ1, s, M1, w1, sr1, p1⟩
theorem q_not (ha : PE X a (tE G E ea)) : PE X (.UnaryOp .Not a pos) (tE G E (evNot ea)) :=
  pe_imp (pe_not ha) fun σ H Q ⟨R, ρ, s, M, w, sr, p⟩ => stepE w sr p fun R1 ρ1 M1 H1 va v e1 w1 sr1 r1 p1 => by
    cases r1 <;> first | exact False.elim p1 | skip
    rename_i b
    exact ⟨b, rfl, p1 R1 ρ1 H1 _ Ext.refl w1 (.bl _)⟩
end
end PV

set_option Elab.async false
set_option linter.all false
set_option maxRecDepth 100000
set_option maxHeartbeats 4000000
namespace PV
open PySem L2

/-! ### statements -/
inductive Fl where
  | nx | ret (v : Va) | bk | ct | exc (c : Nat) (v : Va)
abbrev RS := Option (Fl × SL × Store)
abbrev SS := SL → Store → RS
def Nxt (G : Sig) (R : Hp) (ρ : List Addr) (H : Hp) (s : SL) (M : Store) (k : St → Hp → Prop) : Prop :=
  ∀ R' ρ' H' σ', Ext R ρ H R' ρ' H' → Wd G R' ρ' M H' → SR G R' ρ' s σ' → k σ' H'
def PostS (G : Sig) (R : Hp) (ρ : List Addr) (H : Hp) (r : RS) (D : Ends) (E : XK) : Prop := match r with
  | none => False
  | some (.nx, s, M) => Nxt G R ρ H s M D.nx
  | some (.ret x, _, M) => Gives G R ρ H M x D.rt
  | some (.bk, s, M) => Nxt G R ρ H s M D.bk
  | some (.ct, s, M) => Nxt G R ρ H s M D.ct
  | some (.exc c x, _, M) => PostX G R ρ H M E c x
def tS (G : Sig) (E : XK) (es : SS) : TS := fun D σ H => ∃ R ρ s M, Wd G R ρ M H ∧ SR G R ρ s σ ∧ PostS G R ρ H (es s M) D E
section
variable {G : Sig} {E : XK} {σ : St} {H H' : Hp} {R R' : Hp} {ρ ρ' : List Addr} {s : SL} {M : Store} {D : Ends}
theorem Nxt.ext {k : St → Hp → Prop} (e : Ext R ρ H R' ρ' H') (p : Nxt G R ρ H s M k) : Nxt G R' ρ' H' s M k := fun R2 ρ2 H2 σ2 e2 w r => p R2 ρ2 H2 σ2 (e.trans e2) w r
theorem PostS.ext {r : RS} (e : Ext R ρ H R' ρ' H') (p : PostS G R ρ H r D E) : PostS G R' ρ' H' r D E := by
  rcases r with _ | ⟨_ | x | _ | _ | ⟨c, x⟩, s, M⟩
  · exact p
  · exact Nxt.ext e p
  · exact Gives.ext e p
  · exact Nxt.ext e p
  · exact Nxt.ext e p
  · exact PostX.ext e p
theorem nxt_now {k : St → Hp → Prop} (w : Wd G R ρ M H) (sr : SR G R ρ s σ) (p : Nxt G R ρ H s M k) : k σ H := p R ρ H σ Ext.refl w sr
end
/-- first an expression -/
def sE (e : SE) (k : Va → SS) : SS := fun s M => match e s M with
  | none => none
  | some (.val v, M1) => k v s M1
  | some (.exc c v, M1) => some (.exc c v, s, M1)
def sNx : SS := fun s M => some (.nx, s, M)
def sBk : SS := fun s M => some (.bk, s, M)
def sCt : SS := fun s M => some (.ct, s, M)
def sNever : SS := fun _ _ => none
def sRetN : SS := fun s M => some (.ret .non, s, M)
def sRet (e : SE) : SS := sE e fun v s M => some (.ret v, s, M)
def sSet (i : Nat) (e : SE) : SS := sE e fun v s M => some (.nx, s.set i (some v), M)
def sDrop (e : SE) : SS := sE e fun _ s M => some (.nx, s, M)
def sIf (t : SE) (a b : SS) : SS := sE t fun v s M => match v with
  | .bl true => a s M
  | .bl false => b s M
  | _ => none
def sSeq (a b : SS) : SS := fun s M => match a s M with
  | some (.nx, s1, M1) => b s1 M1
  | r => r
/-- an operation in place, a value into a target: what they do to the store -/
abbrev Tgt := Va → SL → Store → Option SL
def tgName (i : Nat) : Tgt := fun v s _ => some (s.set i (some v))
def tgAll : List Tgt → List Va → SL → Store → Option SL
  | [], [], s, _ => some s
  | t :: ts, v :: vs, s, M => match t v s M with
    | some s1 => tgAll ts vs s1 M
    | none => none
  | _, _, _, _ => none
def tgTup (ts : List Tgt) : Tgt := fun v s M => match tupOf v with
  | some l => tgAll ts l s M
  | none => none
def sAsg (e : SE) (t : Tgt) : SS := sE e fun v s M => match t v s M with
  | some s1 => some (.nx, s1, M)
  | none => none
/-- o[i] = e -/
def sSub (e eo ei : SE) (g : Va → Va → Va → Store → Option Store) : SS := sE e fun v s M => sE eo (fun o s M => sE ei (fun i s M => match g o i v M with
  | some M1 => some (.nx, s, M1)
  | none => none) s M) s M
/-- o.f = e -/
def putA (f : Str) (v : Va) : List (Str × Va) → List (Str × Va)
  | [] => [(f, v)]
  | (g, u) :: r => if g = f then (g, v) :: r else (g, u) :: putA f v r

section
variable {G : Sig} {E : XK} {σ : St} {H : Hp} {R : Hp} {ρ : List Addr} {s : SL} {M : Store} {D : Ends}
theorem stepS {ea : SE} {k : Va → SS} {Q' : VK} (w : Wd G R ρ M H) (sr : SR G R ρ s σ) (p : PostS G R ρ H (sE ea k s M) D E)
    (hk : ∀ R' ρ' M' H' va v, Ext R ρ H R' ρ' H' → Wd G R' ρ' M' H' → SR G R' ρ' s σ → VR G R' ρ' va v → PostS G R' ρ' H' (k va s M') D E → Q' v H') : tE G E ea σ H Q' := by
  refine ⟨R, ρ, s, M, w, sr, ?_⟩
  unfold sE at p
  rcases q : ea s M with _ | ⟨x | ⟨c, x⟩, M1⟩ <;> rw [q] at p
  · exact p
  · exact fun R' ρ' H' v e w' r => hk R' ρ' M1 H' x v e w' (sr.mono e.gr) r (p.ext e)
  · exact p
theorem stepST {ea : SE} {k : Bool → SS} {Q' : Bool → Hp → Prop} (w : Wd G R ρ M H) (sr : SR G R ρ s σ) (p : PostS G R ρ H (sE ea (fun v s M => match v with | .bl b => k b s M | _ => none) s M) D E)
    (hk : ∀ R' ρ' M' H' b, Ext R ρ H R' ρ' H' → Wd G R' ρ' M' H' → SR G R' ρ' s σ → PostS G R' ρ' H' (k b s M') D E → Q' b H') : tT G E ea σ H Q' := by
  refine ⟨R, ρ, s, M, w, sr, ?_⟩
  unfold sE at p
  rcases q : ea s M with _ | ⟨x | ⟨c, x⟩, M1⟩ <;> rw [q] at p
  · exact p
  · cases x <;> first | exact p | skip
    exact fun R' ρ' H' e w' => hk R' ρ' M1 H' _ e w' (sr.mono e.gr) (PostS.ext e p)
  · exact p
end

section
variable {X : Cx} {G : Sig} {E : XK} {a b c : Expr} {es : List Expr} {st : Stmt} {sts : List Stmt} {ea eb ec : SE} {sa sb : SS} {pos : Pos}
theorem qss_nil : PSs X [] (tS G E sNx) := pss_imp pss_nil fun D σ H ⟨R, ρ, s, M, w, sr, p⟩ => nxt_now w sr p
theorem qss_one (h : PS X st (tS G E sa)) : PSs X [st] (tS G E sa) := pss_one h
theorem qss_cons (h1 : PS X st (tS G E sa)) (h2 : PSs X sts (tS G E sb)) : PSs X (st :: sts) (tS G E (sSeq sa sb)) :=
  pss_imp (pss_cons h1 h2) fun D σ H ⟨R, ρ, s, M, w, sr, p⟩ => by
    refine ⟨R, ρ, s, M, w, sr, ?_⟩
    unfold sSeq at p
    rcases q : sa s M with _ | ⟨_ | x | _ | _ | ⟨c, x⟩, s1, M1⟩ <;> rw [q] at p
    · exact p
    · exact fun R1 ρ1 H1 σ1 e1 w1 r1 => ⟨R1, ρ1, s1, M1, w1, r1, PostS.ext e1 p⟩
    · exact p
    · exact p
    · exact p
    · exact p
theorem qs_pass : PS X (.Pass pos) (tS G E sNx) := ps_imp ps_pass fun D σ H ⟨R, ρ, s, M, w, sr, p⟩ => nxt_now w sr p
theorem qs_break : PS X (.Break pos) (tS G E sBk) := ps_imp ps_break fun D σ H ⟨R, ρ, s, M, w, sr, p⟩ => nxt_now w sr p
theorem qs_continue : PS X (.Continue pos) (tS G E sCt) := ps_imp ps_continue fun D σ H ⟨R, ρ, s, M, w, sr, p⟩ => nxt_now w sr p
theorem qs_doc {x j pos'} : PS X (.Expr (.Constant (.str x) j pos) pos') (tS G E sNx) := ps_imp ps_doc fun D σ H ⟨R, ρ, s, M, w, sr, p⟩ => nxt_now w sr p
theorem qs_never : PS X st (tS G E sNever) := ps_imp ps_never fun D σ H ⟨R, ρ, s, M, w, sr, p⟩ => p
theorem qs_ret (ha : PE X a (tE G E ea)) : PS X (.Return (some a) pos) (tS G E (sRet ea)) :=
  ps_imp (ps_ret ha) fun D σ H ⟨R, ρ, s, M, w, sr, p⟩ => stepS (Q' := D.rt) w sr p fun R1 ρ1 M1 H1 va v e1 w1 sr1 r1 p1 => gives_now w1 r1 p1
theorem qs_retN : PS X (.Return none pos) (tS G E sRetN) := ps_imp ps_retN fun D σ H ⟨R, ρ, s, M, w, sr, p⟩ => gives_now w .non p
theorem qs_expr (ha : PE X a (tE G E ea)) (hs : swapsWith a none pos.line X.env = pure false := by rfl) : PS X (.Expr a pos) (tS G E (sDrop ea)) :=
  ps_imp (ps_expr ha hs) fun D σ H ⟨R, ρ, s, M, w, sr, p⟩ => stepS w sr p fun R1 ρ1 M1 H1 va v e1 w1 sr1 r1 p1 => nxt_now w1 sr1 p1
theorem qs_set {i : Nat} {x : Str} {pos' : Pos} (hN : X.N.Nodup) (hi : X.N[i]? = some x) (hx : Loc X.env.scope x) (he : PE X a (tE G E ea)) (hs : swapsWith a (some (.Name x pos')) pos.line X.env = pure false := by rfl)
    (hf : X.fn x = true ∨ X.env.scope.names.lookup x = some .local := by first | exact .inl rfl | exact .inr rfl | assumption) : PS X (.Assign [.Name x pos'] a pos) (tS G E (sSet i ea)) :=
  ps_imp (ps_set hN hi hx he hs hf) fun D σ H ⟨R, ρ, s, M, w, sr, p⟩ => stepS w sr p fun R1 ρ1 M1 H1 va v e1 w1 sr1 r1 p1 => nxt_now w1 (sr1.set i r1) p1
theorem qs_if {xs ys : List Stmt} (hc : PT X c (tT G E ec)) (ha : PSs X xs (tS G E sa)) (hb : PSs X ys (tS G E sb)) : PS X (.If c xs ys pos) (tS G E (sIf ec sa sb)) :=
  ps_imp (ps_if hc ha hb) fun D σ H ⟨R, ρ, s, M, w, sr, p⟩ => by
    have e0 : sIf ec sa sb = sE ec fun v s M => match v with | .bl b => (fun b s M => if b = true then sa s M else sb s M) b s M | _ => none := by
      unfold sIf
      congr 1
      funext v s M
      cases v <;> try rfl
      rename_i b
      cases b <;> rfl
    rw [e0] at p
    refine stepST w sr p fun R1 ρ1 M1 H1 b e1 w1 sr1 p1 => ?_
    cases b with
    | true => exact iteT ⟨R1, ρ1, s, M1, w1, sr1, p1⟩
    | false => exact iteF ⟨R1, ρ1, s, M1, w1, sr1, p1⟩

/-! #### targets -/
/-- what a target does; ix: the slots that it may change -/
def TgSim (G : Sig) (g : TG) (t : Tgt) (ix : List Nat) : Prop := ∀ R ρ M H s s' σ va v (k : St → Hp → Prop), Wd G R ρ M H → SR G R ρ s σ → VR G R ρ va v → t va s M = some s' →
  (∀ σ', SR G R ρ s' σ' → σ'.length = σ.length → (∀ j, j ∉ ix → σ'[j]? = σ[j]?) → k σ' H) → g v σ H k
def TgSims (G : Sig) (g : TGs) (t : List Tgt) (ix : List Nat) : Prop := ∀ R ρ M H s s' σ l vs (k : St → Hp → Prop), Wd G R ρ M H → SR G R ρ s σ → VRs G R ρ l vs → tgAll t l s M = some s' →
  (∀ σ', SR G R ρ s' σ' → σ'.length = σ.length → (∀ j, j ∉ ix → σ'[j]? = σ[j]?) → k σ' H) → g vs σ H k
structure QG (X : Cx) (G : Sig) (tg : Expr) (g : TG) (t : Tgt) (ix : List Nat) : Prop where
  pg : PG X tg g
  sim : TgSim G g t ix
structure QGs (X : Cx) (G : Sig) (tg : List Expr) (g : TGs) (t : List Tgt) (ix : List Nat) : Prop where
  pg : PGs X tg g
  sim : TgSims G g t ix
theorem qg_name {i : Nat} {x : Str} (hN : X.N.Nodup) (hi : X.N[i]? = some x) (hx : Loc X.env.scope x) (hf : X.fn x = true ∨ X.env.scope.names.lookup x = some .local := by first | exact .inl rfl | exact .inr rfl | assumption) : QG X G (.Name x pos) (gName i) (tgName i) [i] :=
  ⟨pg_name hN hi hx hf, fun R ρ M H s s' σ va v k w sr r h q => by
    cases h
    refine q _ (sr.set i r) (by simp) fun j hj => ?_
    rw [List.getElem?_set_ne]
    rintro rfl
    exact hj (by simp)⟩
theorem qgs_nil : QGs X G [] gNil [] [] :=
  ⟨pgs_nil, fun R ρ M H s s' σ l vs k w sr r h q => by
    cases r with
    | nil => cases h; exact ⟨rfl, q σ sr rfl fun _ _ => rfl⟩
    | cons _ _ => cases h⟩
theorem qgs_cons {t : Tgt} {ts : List Tgt} {g1 : TG} {g2 : TGs} {ix ixs : List Nat} (h1 : QG X G a g1 t ix) (h2 : QGs X G es g2 ts ixs) (hs : (assignEach (a :: es) X.env).map (·.2) = assign a X.env :: (assignEach es X.env).map (·.2) := by rfl) : QGs X G (a :: es) (gCons g1 g2) (t :: ts) (ix ++ ixs) := by
  obtain ⟨p1, s1⟩ := h1
  obtain ⟨p2, s2⟩ := h2
  refine ⟨pgs_cons p1 p2 hs, fun R ρ M H s s' σ l vs k w sr r h q => ?_⟩
  cases r with
  | nil => cases h
  | cons r rs =>
    rename_i x v l vs
    unfold tgAll at h
    cases e : t x s M with
    | none => rw [e] at h; cases h
    | some s2' =>
      rw [e] at h
      refine ⟨v, vs, rfl, s1 R ρ M H s s2' σ x v _ w sr r e fun σ1 sr1 l1 k1 => ?_⟩
      refine s2 R ρ M H s2' s' σ1 l vs _ w sr1 rs h fun σ2 sr2 l2 k2 => ?_
      refine q σ2 sr2 (l2.trans l1) fun j hj => ?_
      rw [List.mem_append, not_or] at hj
      exact (k2 j hj.2).trans (k1 j hj.1)
theorem qg_tup {ts : List Tgt} {g : TGs} {ix : List Nat} {k : Nat} {n : Nat} (hc : X.calm = true) (h : QGs X G es g ts ix) (hl : ts.length = n := by rfl) (hn : (assignEach es X.env).length = n := by rfl) (hst : (assignEach es X.env).findIdx? (·.1) = none := by rfl) : QG X G (.Tuple es k pos) (gTup X.K n g) (tgTup ts) ix := by
  obtain ⟨p, sm⟩ := h
  refine ⟨pg_tup hc p hn hst, fun R ρ M H s s' σ va v k w sr r h q => ?_⟩
  have hlen : ∀ (ts : List Tgt) (l : List Va) (s : SL) (s' : SL), tgAll ts l s M = some s' → l.length = ts.length := by
    intro ts
    induction ts with
    | nil =>
      intro l s s' h
      cases l with
      | nil => rfl
      | cons _ _ => cases h
    | cons t ts ih =>
      intro l s s' h
      cases l with
      | nil => cases h
      | cons x l =>
        unfold tgAll at h
        cases e : t x s M with
        | none => rw [e] at h; cases h
        | some s1 => rw [e] at h; simp [ih l s1 s' h]
  unfold tgTup at h
  cases e : tupOf va with
  | none => rw [e] at h; cases h
  | some l =>
    rw [e] at h
    obtain ⟨a, vs, rfl, ha, rv, _⟩ := tup_read w r e
    exact ⟨a, vs, rfl, .of ha, by rw [← rv.length, hlen ts l s s' h, hl], sm R ρ M H s s' σ l vs k w sr rv h q⟩
theorem qs_asg {t : Tgt} {g : TG} {ix : List Nat} (he : PE X a (tE G E ea)) (hg : QG X G b g t ix) (hs : swapsWithSole [b] a pos.line X.env = pure false := by rfl) (hw : swappedStores [b] a X.env = pure none := by rfl)
    (h1 : (assignEach [b] X.env).map (·.2) = [assign b X.env] := by rfl) : PS X (.Assign [b] a pos) (tS G E (sAsg ea t)) := by
  obtain ⟨pg, sm⟩ := hg
  refine ps_imp (ps_asg he pg hs hw h1) fun D σ H ⟨R, ρ, s, M, w, sr, p⟩ => stepS w sr p fun R1 ρ1 M1 H1 va v e1 w1 sr1 r1 p1 => ?_
  cases q : t va s M1 with
  | none => rw [q] at p1; exact False.elim p1
  | some s1 => rw [q] at p1; exact sm R1 ρ1 M1 H1 s s1 σ va v _ w1 sr1 r1 q fun σ' sr' _ _ => nxt_now w1 sr' p1
/-- o[i] = v -/
def SubSim (G : Sig) (t : TSet) (g : Va → Va → Va → Store → Option Store) : Prop := ∀ R ρ M M' H o i x vo vi v (k : Hp → Prop), Wd G R ρ M H → VR G R ρ vo o → VR G R ρ vi i → VR G R ρ v x → g vo vi v M = some M' →
  (∀ H', Ext R ρ H R ρ H' → Wd G R ρ M' H' → k H') → t o i x H k
theorem qs_sub {t : TSet} {g : Va → Va → Va → Store → Option Store} {p2 : Pos} (hs : PSet X t) (sm : SubSim G t g) (he : PE X a (tE G E ea)) (ho : PE X b (tE G E eb)) (hi : PE X c (tE G E ec))
    (ha : ∀ v, assign (.Subscript b c p2) X.env v = (do
      let ov ← holding [v] (eval b X.env)
      let iv ← holding [v, ov] (eval c X.env)
      standAt p2
      holding [v, ov, iv] (setItem ov iv v)
      release [v, ov, iv] []) := by intro _; rfl)
    (hs1 : swapsWithSole [.Subscript b c p2] a pos.line X.env = pure false := by rfl) (hw : swappedStores [.Subscript b c p2] a X.env = pure none := by rfl)
    (h1 : (assignEach [.Subscript b c p2] X.env).map (·.2) = [assign (.Subscript b c p2) X.env] := by rfl) : PS X (.Assign [.Subscript b c p2] a pos) (tS G E (sSub ea eb ec g)) :=
  ps_imp (ps_asg he (pg_sub ho hi hs ha) hs1 hw h1) fun D σ H ⟨R, ρ, s, M, w, sr, p⟩ => stepS w sr p fun R1 ρ1 M1 H1 va v e1 w1 sr1 r1 p1 =>
    stepS w1 sr1 p1 fun R2 ρ2 M2 H2 vo o e2 w2 sr2 r2 p2 => stepS w2 sr2 p2 fun R3 ρ3 M3 H3 vi i e3 w3 sr3 r3 p3 => by
      cases q : g vo vi va M3 with
      | none => rw [q] at p3; exact False.elim p3
      | some M4 =>
        rw [q] at p3
        exact sm R3 ρ3 M3 M4 H3 o i v vo vi va _ w3 (r2.mono e3.gr) r3 (r1.mono (e2.trans e3).gr) q fun H' e4 w4 => nxt_now w4 sr3 (Nxt.ext e4 p3)
end

/-! ### what is walked -/
inductive OutI where
  | it (l : List Va) (chk : Store → Prop) | exc (c : Nat) (v : Va)
abbrev SI := SL → Store → Option (OutI × Store)
def ItSim (G : Sig) (R0 : Hp) (ρ0 : List Addr) (J : It) (l : List Va) (chk : Store → Prop) : Prop := ∀ R ρ M H, Gr R0 ρ0 R ρ → Wd G R ρ M H → chk M →
  (∀ (i : Nat) (x : Va), l[i]? = some x → J.go i H ∧ ∀ v H', J.yld i H v H' → ∃ R', Ext R ρ H R' ρ H' ∧ Wd G R' ρ M H' ∧ VR G R' ρ x v) ∧ ∀ i : Nat, l.length ≤ i → J.stop i H
def PostI (G : Sig) (R : Hp) (ρ : List Addr) (H : Hp) (r : Option (OutI × Store)) (k : It → Hp → Prop) (E : XK) : Prop := match r with
  | none => False
  | some (.it l chk, M) => ∀ R' ρ' H' J, Ext R ρ H R' ρ' H' → Wd G R' ρ' M H' → l.length ≤ sizeLine → ItSim G R' ρ' J l chk → k J H'
  | some (.exc c x, M) => PostX G R ρ H M E c x
def tI (G : Sig) (E : XK) (src : SI) : TI := fun σ H k => ∃ R ρ s M, Wd G R ρ M H ∧ SR G R ρ s σ ∧ PostI G R ρ H (src s M) k E
noncomputable section
open Classical
def loopF (chk : Store → Prop) (tg : Tgt) (body : SS) : List Va → SS
  | [], s, M => if chk M then some (.nx, s, M) else none
  | x :: xs, s, M => if chk M then (match tg x s M with
    | none => none
    | some s1 => match body s1 M with
      | some (.nx, s2, M2) => loopF chk tg body xs s2 M2
      | some (.ct, s2, M2) => loopF chk tg body xs s2 M2
      | some (.bk, s2, M2) => some (.nx, s2, M2)
      | r => r) else none
def sFor (src : SI) (tg : Tgt) (body : SS) : SS := fun s M => match src s M with
  | none => none
  | some (.it l chk, M1) => loopF chk tg body l s M1
  | some (.exc c v, M1) => some (.exc c v, s, M1)
def wipeI (s : SL) : List Nat → SL
  | [] => s
  | v :: vs => (wipeI s vs).set v none
def compL (chk : Store → Prop) (tg : Tgt) (tt te : SE) (sw : SL) : List Va → Store → Option (List Va × Store)
  | [], M => if chk M then some ([], M) else none
  | x :: xs, M => if chk M then (match tg x sw M with
    | none => none
    | some s1 => match tt s1 M with
      | some (.val (.bl true), M1) => (match te s1 M1 with
        | some (.val y, M2) => (match compL chk tg tt te sw xs M2 with
          | some (ys, M3) => some (y :: ys, M3)
          | none => none)
        | _ => none)
      | some (.val (.bl false), M1) => compL chk tg tt te sw xs M1
      | _ => none) else none
def evLc (src : SI) (tg : Tgt) (tt te : SE) (vs : List Nat) : SE := fun s M => match src s M with
  | none => none
  | some (.it l chk, M1) => (match compL chk tg tt te (wipeI s vs) l M1 with
    | some (ys, M2) => some (.val (.lst ys), M2)
    | none => none)
  | some (.exc c v, M1) => some (.exc c v, M1)
/-- the new list as one that will change -/
def evLcC (src : SI) (tg : Tgt) (tt te : SE) (vs : List Nat) : SE := fun s M => match src s M with
  | none => none
  | some (.it l chk, M1) => (match compL chk tg tt te (wipeI s vs) l M1 with
    | some (ys, M2) => some (.val (.cel M2.nx), M2.new (.lst ys))
    | none => none)
  | some (.exc c v, M1) => some (.exc c v, M1)
end
def evYes : SE := fun _ M => some (.val (.bl true), M)
/-- over a list, a tuple as it stands -/
def itL (e : SE) : SI := fun s M => match e s M with
  | none => none
  | some (.val v, M1) => (match lstOf M1 v with
    | some l => some (.it l (fun M => lstOf M v = some l), M1)
    | none => none)
  | some (.exc c v, M1) => some (.exc c v, M1)
def itT (e : SE) : SI := fun s M => match e s M with
  | none => none
  | some (.val v, M1) => (match tupOf v with
    | some l => some (.it l (fun _ => True), M1)
    | none => none)
  | some (.exc c v, M1) => some (.exc c v, M1)
def itR1 (e : SE) : SI := fun s M => match e s M with
  | some (.val (.tup [.int n]), M1) => if n ≤ 100000 ∧ -(2 ^ 62) ≤ n then some (.it ((List.range n.toNat).map fun (i : Nat) => Va.int i) (fun _ => True), M1) else none
  | some (.exc c v, M1) => some (.exc c v, M1)
  | _ => none
def itR2 (e : SE) : SI := fun s M => match e s M with
  | some (.val (.tup [.int lo, .int n]), M1) => if n - lo ≤ 100000 ∧ -(2 ^ 62) ≤ lo ∧ lo < 2 ^ 62 ∧ -(2 ^ 62) ≤ n ∧ n < 2 ^ 62 then some (.it ((List.range (n - lo).toNat).map fun (i : Nat) => Va.int (lo + i)) (fun _ => True), M1) else none
  | some (.exc c v, M1) => some (.exc c v, M1)
  | _ => none
def itS (e : SE) : SI := fun s M => match e s M with
  | some (.val (.str z), M1) => if z.length ≤ sizeLine then some (.it (z.cps.toList.map fun c => Va.str ⟨#[c]⟩) (fun _ => True), M1) else none
  | some (.exc c v, M1) => some (.exc c v, M1)
  | _ => none

section
variable {X : Cx} {G : Sig} {E : XK} {a b c tg : Expr} {es : List Expr} {ea eb ec : SE} {pos : Pos}
theorem qi_list (hK : X.K = G.K) (ha : PE X a (tE G E ea)) : PI X tg a (tI G E (itL ea)) :=
  pi_imp (pi_list ha) fun σ H Q ⟨R, ρ, s, M, w, sr, p⟩ => by
    refine ⟨R, ρ, s, M, w, sr, ?_⟩
    unfold itL at p
    rcases q : ea s M with _ | ⟨x | ⟨c, x⟩, M1⟩ <;> rw [q] at p
    · exact p
    · intro R1 ρ1 H1 v e1 w1 r1
      dsimp only at p
      cases q2 : lstOf M1 x with
      | none => rw [q2] at p; exact False.elim p
      | some l =>
        rw [q2] at p
        obtain ⟨ad, vs, rfl, hv, rv, hz⟩ := lst_read w1 r1 q2
        refine ⟨ad, rfl, ⟨vs, by rw [hK]; exact hv⟩, p R1 ρ1 H1 (Itl X.K ad) e1 w1 hz fun R2 ρ2 M2 H2 g2 w2 ck => ?_⟩
        obtain ⟨ad', vs', e', hv', rv', _⟩ := lst_read w2 (r1.mono g2) ck
        cases e'
        rw [hK]
        refine ⟨fun i y hy => ?_, fun i hi => ⟨vs', hv', by rw [← rv'.length]; exact hi⟩⟩
        obtain ⟨u, hu, ru⟩ := rv'.get hy
        refine ⟨⟨vs', u, hv', hu⟩, fun v H' ⟨e3, h3⟩ => ?_⟩
        subst e3
        have := h3 vs' hv'
        rw [hu] at this
        cases this
        exact ⟨R2, Ext.refl, w2, ru⟩
    · exact p
theorem qi_tup (hK : X.K = G.K) (ha : PE X a (tE G E ea)) : PI X tg a (tI G E (itT ea)) :=
  pi_imp (pi_tup ha) fun σ H Q ⟨R, ρ, s, M, w, sr, p⟩ => by
    refine ⟨R, ρ, s, M, w, sr, ?_⟩
    unfold itT at p
    rcases q : ea s M with _ | ⟨x | ⟨c, x⟩, M1⟩ <;> rw [q] at p
    · exact p
    · intro R1 ρ1 H1 v e1 w1 r1
      dsimp only at p
      cases q2 : tupOf x with
      | none => rw [q2] at p; exact False.elim p
      | some l =>
        rw [q2] at p
        obtain ⟨ad, vs, rfl, hv, rv, hz⟩ := tup_read w1 r1 q2
        refine ⟨ad, rfl, ⟨vs, .of hv⟩, p R1 ρ1 H1 (Itt X.K ad) e1 w1 hz fun R2 ρ2 M2 H2 g2 w2 ck => ?_⟩
        obtain ⟨ad', vs', e', hv', rv', _⟩ := tup_read w2 (r1.mono g2) q2
        cases e'
        refine ⟨fun i y hy => ?_, fun i hi => ⟨vs', .of hv', by rw [← rv'.length]; exact hi⟩⟩
        obtain ⟨u, hu, ru⟩ := rv'.get hy
        refine ⟨⟨vs', u, .of hv', hu⟩, fun v H' ⟨e3, h3⟩ => ?_⟩
        subst e3
        have := h3 vs' (.of hv')
        rw [hu] at this
        cases this
        exact ⟨R2, Ext.refl, w2, ru⟩
    · exact p
theorem rng_sim {R ρ} {lo : Int} {n : Nat} : ItSim G R ρ (Itr lo n) ((List.range n).map fun (i : Nat) => Va.int (lo + i)) (fun _ => True) := fun R2 ρ2 M2 H2 g2 w2 _ => by
  refine ⟨fun i x hx => ?_, fun i hi => by show n ≤ i; simpa using hi⟩
  rw [List.getElem?_map] at hx
  by_cases hi : i < n
  · rw [List.getElem?_range hi] at hx
    cases hx
    refine ⟨hi, fun v H' ⟨e3, h3⟩ => ?_⟩
    subst e3 h3
    exact ⟨R2, Ext.refl, w2, .int _⟩
  · rw [List.getElem?_eq_none (by simpa using hi)] at hx
    cases hx
theorem line100 : (100000 : Nat) ≤ sizeLine := by decide
theorem qi_range1 {p' : Pos} (hg : Gl X "range") (hm : X.mg "range" = none) (ha : PA X [a] (tA G E ea)) (hs : starEach [a] X.env = [(false, eval a X.env)] := by rfl) : PI X tg (.Call (.Name "range" p') [a] [] pos) (tI G E (itR1 ea)) :=
  pi_imp (pi_range1 hg hm ha hs) fun σ H Q ⟨R, ρ, s, M, w, sr, p⟩ => by
    refine ⟨R, ρ, s, M, w, sr, ?_⟩
    unfold itR1 at p
    rcases q : ea s M with _ | ⟨x | ⟨c, x⟩, M1⟩ <;> rw [q] at p
    · exact p
    · cases x <;> first | exact False.elim p | skip
      rename_i l
      intro R1 ρ1 H1 vs e1 w1 r1
      cases r1 with
      | nil => exact False.elim p
      | cons r1 rs =>
        cases rs with
        | cons _ _ => cases r1 <;> exact False.elim p
        | nil =>
          cases r1 <;> first | exact False.elim p | skip
          rename_i n
          dsimp only at p
          by_cases hz : n ≤ 100000 ∧ -(2 ^ 62) ≤ n
          · rw [if_pos hz] at p
            refine ⟨n, rfl, hz.2, by omega, ?_⟩
            have e0 : ((List.range n.toNat).map fun (i : Nat) => Va.int i) = (List.range n.toNat).map fun (i : Nat) => Va.int (0 + i) := by simp
            rw [e0] at p
            exact p R1 ρ1 H1 _ e1 w1 (by simp; have := line100; omega) rng_sim
          · rw [if_neg hz] at p; exact False.elim p
    · exact p
theorem qi_range2 {p' : Pos} (hg : Gl X "range") (hm : X.mg "range" = none) (ha : PA X [a, b] (tA G E ea)) (hs : starEach [a, b] X.env = [(false, eval a X.env), (false, eval b X.env)] := by rfl) (hs2 : starEach [b] X.env = [(false, eval b X.env)] := by rfl) : PI X tg (.Call (.Name "range" p') [a, b] [] pos) (tI G E (itR2 ea)) :=
  pi_imp (pi_range2 hg hm ha hs hs2) fun σ H Q ⟨R, ρ, s, M, w, sr, p⟩ => by
    refine ⟨R, ρ, s, M, w, sr, ?_⟩
    unfold itR2 at p
    rcases q : ea s M with _ | ⟨x | ⟨c, x⟩, M1⟩ <;> rw [q] at p
    · exact p
    · cases x <;> first | exact False.elim p | skip
      rename_i l
      intro R1 ρ1 H1 vs e1 w1 r1
      cases r1 with
      | nil => exact False.elim p
      | cons r1 rs =>
        cases rs with
        | nil => cases r1 <;> exact False.elim p
        | cons r2 rs =>
          cases rs with
          | cons _ _ => cases r1 <;> cases r2 <;> exact False.elim p
          | nil =>
            cases r1 <;> first | exact False.elim p | skip
            cases r2 <;> first | exact False.elim p | skip
            rename_i lo n
            dsimp only at p
            by_cases hz : n - lo ≤ 100000 ∧ -(2 ^ 62) ≤ lo ∧ lo < 2 ^ 62 ∧ -(2 ^ 62) ≤ n ∧ n < 2 ^ 62
            · rw [if_pos hz] at p
              exact ⟨lo, n, rfl, hz.2, p R1 ρ1 H1 _ e1 w1 (by simp; have := line100; omega) rng_sim⟩
            · rw [if_neg hz] at p; exact False.elim p
    · exact p
end

/-! ### for -/
section
variable {X : Cx} {G : Sig} {E : XK} {a b c tg : Expr} {es : List Expr} {ea eb ec : SE} {sb : SS} {pos : Pos}
theorem qs_for {iter : Expr} {body : List Stmt} {src : SI} {t : Tgt} {g : TG} {ix : List Nat} (hp : PassesOwn (model X.prog X.w) X.A X.env X.xe) (hc : X.calm = true) (hi : PI X tg iter (tI G E src)) (hg : QG X G tg g t ix) (hb : PSs X body (tS G E sb))
    (hs : ∀ x, foldedSetIterable iter X.env x = pure x := by intro _; rfl) : PS X (.For tg iter body [] pos) (tS G E (sFor src t sb)) := by
  obtain ⟨pg, sm⟩ := hg
  refine ps_imp (ps_for hp hc hi pg hb hs) fun D σ H ⟨R, ρ, s, M, w, sr, p⟩ => ?_
  refine ⟨R, ρ, s, M, w, sr, ?_⟩
  unfold sFor at p
  rcases q : src s M with _ | ⟨⟨l, chk⟩ | ⟨c, x⟩, M1⟩ <;> rw [q] at p
  · exact p
  · intro R1 ρ1 H1 J e1 w1 hz js
    refine ⟨fun i m σ' H' => ∃ R' ρ' s' M', m = l.length - i ∧ i ≤ l.length ∧ Gr R1 ρ1 R' ρ' ∧ Wd G R' ρ' M' H' ∧ SR G R' ρ' s' σ' ∧ PostS G R' ρ' H' (loopF chk t sb (l.drop i) s' M') D E,
      ⟨l.length, R1, ρ1, s, M1, rfl, Nat.zero_le _, Gr.refl, w1, sr.mono e1.gr, PostS.ext e1 p⟩, ?_⟩
    rintro i m σ' H' ⟨R', ρ', s', M', rfl, hi, g', w', sr', p'⟩
    by_cases hlt : i < l.length
    · have ed : l.drop i = l[i] :: l.drop (i + 1) := List.drop_eq_getElem_cons hlt
      rw [ed] at p'
      unfold loopF at p'
      by_cases ck : chk M'
      · rw [if_pos ck] at p'
        obtain ⟨go, _⟩ := js R' ρ' M' H' g' w' ck
        obtain ⟨go, yld⟩ := go i l[i] (by simp [hlt])
        refine .inr ⟨go, fun σ2 H2 => ∃ R2 ρ2 s2 M2, Gr R1 ρ1 R2 ρ2 ∧ Wd G R2 ρ2 M2 H2 ∧ SR G R2 ρ2 s2 σ2 ∧ PostS G R2 ρ2 H2 (loopF chk t sb (l.drop (i + 1)) s2 M2) D E,
          fun σ2 H2 ⟨R2, ρ2, s2, M2, g2, w2, sr2, p2⟩ => ⟨l.length - (i + 1), by omega, R2, ρ2, s2, M2, rfl, hlt, g2, w2, sr2, p2⟩, fun v H2 hy => ?_⟩
        obtain ⟨R2, e2, w2, r2⟩ := yld v H2 hy
        cases q3 : t l[i] s' M' with
        | none => rw [q3] at p'; exact False.elim p'
        | some s3 =>
          rw [q3] at p'
          refine sm R2 ρ' M' H2 s' s3 σ' l[i] v _ w2 (sr'.mono e2.gr) r2 q3 fun σ3 sr3 _ _ => ?_
          refine ⟨R2, ρ', s3, M', w2, sr3, ?_⟩
          dsimp only at p'
          rcases q4 : sb s3 M' with _ | ⟨_ | x | _ | _ | ⟨c, x⟩, s4, M4⟩ <;> rw [q4] at p'
          · exact p'
          · exact fun R5 ρ5 H5 σ5 e5 w5 sr5 => ⟨R5, ρ5, s4, M4, (g'.trans e2.gr).trans e5.gr, w5, sr5, PostS.ext (e2.trans e5) p'⟩
          · exact Gives.ext e2 p'
          · exact Nxt.ext e2 p'
          · exact fun R5 ρ5 H5 σ5 e5 w5 sr5 => ⟨R5, ρ5, s4, M4, (g'.trans e2.gr).trans e5.gr, w5, sr5, PostS.ext (e2.trans e5) p'⟩
          · exact PostX.ext e2 p'
      · rw [if_neg ck] at p'; exact False.elim p'
    · have e0 : i = l.length := by omega
      subst e0
      rw [List.drop_length] at p'
      unfold loopF at p'
      by_cases ck : chk M'
      · rw [if_pos ck] at p'
        obtain ⟨_, stop⟩ := js R' ρ' M' H' g' w' ck
        exact .inl ⟨stop _ (Nat.le_refl _), nxt_now w' sr' p'⟩
      · rw [if_neg ck] at p'; exact False.elim p'
  · exact p

/-! ### list comprehensions -/
theorem wipe_get (σ : St) (j : Nat) : ∀ vs : List Nat, j ∉ vs → (wipe σ vs)[j]? = σ[j]?
  | [], _ => rfl
  | v :: vs, h => by
    rw [List.mem_cons, not_or] at h
    unfold wipe
    rw [List.getElem?_set_ne (fun e => h.1 e.symm), wipe_get σ j vs h.2]
theorem wipe_in (σ : St) (j : Nat) (hj : j < σ.length) : ∀ vs : List Nat, j ∈ vs → (wipe σ vs)[j]? = some none
  | v :: vs, h => by
    unfold wipe
    by_cases e : v = j
    · subst e
      rw [List.getElem?_set_self (by rw [wipe_length]; exact hj)]
    · rw [List.getElem?_set_ne e]
      rcases List.mem_cons.mp h with z | z
      · exact absurd z.symm e
      · exact wipe_in σ j hj vs z
theorem wipe_same {σ σ' : St} {vs : List Nat} (hl : σ'.length = σ.length) (h : ∀ j, j ∉ vs → σ'[j]? = σ[j]?) : wipe σ' vs = wipe σ vs := by
  apply List.ext_getElem?
  intro j
  by_cases hj : j ∈ vs
  · by_cases hlt : j < σ.length
    · rw [wipe_in σ' j (by rw [hl]; exact hlt) vs hj, wipe_in σ j hlt vs hj]
    · rw [List.getElem?_eq_none (by rw [wipe_length]; omega), List.getElem?_eq_none (by rw [wipe_length]; omega)]
  · rw [wipe_get σ' j vs hj, wipe_get σ j vs hj, h j hj]
theorem SR.wipe {R : Hp} {ρ : List Addr} {s : SL} {σ : St} (h : SR G R ρ s σ) : ∀ vs : List Nat, SR G R ρ (wipeI s vs) (L2.wipe σ vs)
  | [] => h
  | v :: vs => by
    unfold wipeI L2.wipe
    exact (SR.wipe h vs).unset v none
theorem Wd.other {R : Hp} {ρ : List Addr} {M : Store} {H : Hp} {D : Addr} {o : HO} (w : Wd G R ρ M H) (h1 : R D = none) (h2 : D ∉ ρ) : Wd G R ρ M (upd H D o) := by
  refine ⟨fun a u h => ?_, w.len, fun n x h => ?_, w.inj, fun a h => by rw [upd_ne (fun e => h2 (by rw [← e]; exact h))]; exact w.al a h⟩
  · rw [upd_ne (fun e => by subst e; rw [h1] at h; cases h)]
    exact w.sub a u h
  · obtain ⟨a, e, r, c⟩ := w.cel n x h
    refine ⟨a, e, r, celR_mono Gr.refl c fun u q => ?_⟩
    rw [upd_ne (fun z => h2 (by rw [← z]; exact List.mem_of_getElem? e))]
    exact q
theorem Wd.take {R : Hp} {ρ : List Addr} {M : Store} {H : Hp} {D : Addr} {o : HO} (w : Wd G R ρ M H) (h0 : H D = some o) (h1 : R D = none) (h2 : D ∉ ρ) : Wd G (upd R D o) ρ M H := by
  have kR : ∀ a u, R a = some u → upd R D o a = some u := fun a u h => by
    rw [upd_ne (fun e => by subst e; rw [h1] at h; cases h)]
    exact h
  refine ⟨fun a u h => ?_, w.len, fun n x h => ?_, w.inj, w.al⟩
  · by_cases e : a = D
    · subst e; rw [upd_same] at h; rw [h0]; exact h
    · rw [upd_ne e] at h; exact w.sub a u h
  · obtain ⟨a, e, r, c⟩ := w.cel n x h
    exact ⟨a, e, by rw [upd_ne (fun z => h2 (by rw [← z]; exact List.mem_of_getElem? e))]; exact r, celR_mono ⟨kR, fun _ _ q => q⟩ c fun u q => q⟩
theorem Ext.heapNew {R : Hp} {ρ : List Addr} {H : Hp} {p : Addr} {o : HO} (hp : H p = none) : Ext R ρ H R ρ (upd H p o) :=
  ⟨fun _ _ h => h, ⟨[], by simp, by simp⟩, fun a u h _ => by rw [upd_ne (ne_of_none h hp)]; exact h, fun a h => by
    by_cases e : a = p
    · subst e; rw [upd_same]; simp
    · rw [upd_ne e]; exact h, fun a h n => absurd h n⟩
/-- an object that was not there at the start changes -/
theorem Ext.mut {R R' : Hp} {ρ ρ' : List Addr} {H H' : Hp} {p : Addr} {o : HO} (e : Ext R ρ H R' ρ' H') (hp : H p = none) : Ext R ρ H R' ρ' (upd H' p o) :=
  ⟨e.reg, e.cls, fun a u h n => by rw [upd_ne (ne_of_none h hp)]; exact e.keep a u h n, fun a h => by
    by_cases z : a = p
    · subst z; rw [upd_same]; simp
    · rw [upd_ne z]; exact e.dom a h, e.nreg⟩
theorem Ext.take {R R' : Hp} {ρ ρ' : List Addr} {H H' : Hp} {p : Addr} {o : HO} (e : Ext R ρ H R' ρ' H') (hp : H p = none) (hr : R' p = none) : Ext R ρ H (upd R' p o) ρ' H' :=
  ⟨fun a u h => by
    have := e.reg a u h
    rw [upd_ne (fun z => by subst z; rw [hr] at this; cases this)]
    exact this, e.cls, e.keep, e.dom, fun a h n => by
    by_cases z : a = p
    · subst z; exact .inl hp
    · rw [upd_ne z] at n; exact e.nreg a h n⟩
theorem Ext.apart {R R' : Hp} {ρ ρ' : List Addr} {H H' : Hp} {D : Addr} {o : HO} (e : Ext R ρ H R' ρ' H') (h0 : H D = some o) (h1 : R D = none) (h2 : D ∉ ρ) : R' D = none ∧ D ∉ ρ' ∧ H' D = some o := by
  refine ⟨?_, ?_, e.keep D o h0 h2⟩
  · cases q : R' D with
    | none => rfl
    | some u =>
      rcases e.nreg D h1 (by rw [q]; simp) with z | z
      · rw [h0] at z; cases z
      · exact absurd z h2
  · obtain ⟨τ, q, f⟩ := e.cls
    rw [q]
    intro hm
    rcases List.mem_append.mp hm with z | z
    · exact h2 z
    · have := f D z
      rw [h0] at this
      cases this

/-- the core: after the walk, the list stands at D -/
theorem lc_walk {t : Tgt} {tt te : SE} {vs ix : List Nat} {g : TG} (sm : TgSim G g t ix) (hix : ∀ i ∈ ix, i ∈ vs) {σ : St} {R1 : Hp} {ρ1 : List Addr} {M1 M2 : Store} {H1 : Hp} {s : SL} {J : It} {l ys : List Va} {chk : Store → Prop} {Q : VK} {D : Addr}
    (w1 : Wd G R1 ρ1 M1 H1) (sr : SR G R1 ρ1 s σ) (hz : l.length ≤ sizeLine) (js : ItSim G R1 ρ1 J l chk) (hcomp : compL chk t tt te (wipeI s vs) l M1 = some (ys, M2)) (hD : H1 D = none)
    (fin : ∀ R' ρ' H' acc, Ext R1 ρ1 H1 R' ρ' H' → Wd G R' ρ' M2 H' → H' D = some (.lst acc) → R' D = none → D ∉ ρ' → VRs G R' ρ' ys acc → ys.length ≤ sizeLine → Q (.ref D) H') :
    ∃ W : Nat → Nat → Hp → Prop, (∃ m, W 0 m (upd H1 D (.lst []))) ∧ ∀ i m H, W i m H →
      (J.stop i H ∧ Q (.ref D) H) ∨ (J.go i H ∧ ∃ Nx : Hp → Prop, (∀ H', Nx H' → ∃ m', m' < m ∧ W (i + 1) m' H') ∧ ∀ x H', J.yld i H x H' → g x (wipe σ vs) H' fun σ2 H2 => wipe σ2 vs = wipe σ vs ∧ tT G E tt σ2 H2 fun b H3 =>
        if b = true then tE G E te σ2 H3 fun y H4 => ∃ acc, H4 D = some (.lst acc) ∧ acc.length < sizeLine ∧ Nx (upd H4 D (.lst (acc ++ [y]))) else Nx H3) := by
  have nD : D ∉ ρ1 → True := fun _ => trivial
  have rD : R1 D = none := w1.nonR hD
  have pD : ∀ n x, M1.c n = some x → ρ1[n]? ≠ some D := fun n x h z => by
    obtain ⟨a, e, _, c⟩ := w1.cel n x h
    rw [z] at e
    cases e
    exact celR_some c hD
  refine ⟨fun i m Hc => ∃ R' ρ' M' acc accI rest, m = l.length - i ∧ i ≤ l.length ∧ Ext R1 ρ1 H1 R' ρ' Hc ∧ Wd G R' ρ' M' Hc ∧ Hc D = some (.lst acc) ∧ VRs G R' ρ' accI acc ∧ R' D = none ∧ (D ∉ ρ') ∧
    compL chk t tt te (wipeI s vs) (l.drop i) M' = some (rest, M2) ∧ accI ++ rest = ys ∧ accI.length ≤ i, ?_, ?_⟩
  · refine ⟨l.length, R1, ρ1, M1, [], [], ys, rfl, Nat.zero_le _, Ext.heapNew hD, ?_, upd_same, .nil, rD, ?_, hcomp, rfl, Nat.zero_le _⟩
    · exact w1.heap fun a o h => by rw [upd_ne (ne_of_none h hD)]; exact h
    · exact fun hm => w1.al D hm hD
  · rintro i m Hc ⟨R', ρ', M', acc, accI, rest, rfl, hi, e', w', hDc, ra, rDn, nDr, hc, hy, hal⟩
    by_cases hlt : i < l.length
    · have ed : l.drop i = l[i] :: l.drop (i + 1) := List.drop_eq_getElem_cons hlt
      rw [ed] at hc
      unfold compL at hc
      by_cases ck : chk M'
      · rw [if_pos ck] at hc
        obtain ⟨go, _⟩ := js R' ρ' M' Hc e'.gr w' ck
        obtain ⟨go, yld⟩ := go i l[i] (by simp [hlt])
        refine .inr ⟨go, fun H2 => ∃ R2 ρ2 M3 acc accI rest, Ext R1 ρ1 H1 R2 ρ2 H2 ∧ Wd G R2 ρ2 M3 H2 ∧ H2 D = some (.lst acc) ∧ VRs G R2 ρ2 accI acc ∧ R2 D = none ∧ (D ∉ ρ2) ∧
          compL chk t tt te (wipeI s vs) (l.drop (i + 1)) M3 = some (rest, M2) ∧ accI ++ rest = ys ∧ accI.length ≤ i + 1, fun H2 ⟨R2, ρ2, M3, acc, accI, rest, q⟩ => ⟨l.length - (i + 1), by omega, R2, ρ2, M3, acc, accI, rest, rfl, hlt, q⟩, fun x H2 hyl => ?_⟩
        obtain ⟨R2, e2, w2, r2⟩ := yld x H2 hyl
        obtain ⟨rD2, nD2, hD2⟩ := e2.apart hDc rDn nDr
        cases q3 : t l[i] (wipeI s vs) M' with
        | none => rw [q3] at hc; cases hc
        | some s3 =>
          rw [q3] at hc
          have srw : SR G R2 ρ' (wipeI s vs) (wipe σ vs) := (SR.wipe (sr.mono (e'.gr.trans e2.gr)) vs)
          refine sm R2 ρ' M' H2 (wipeI s vs) s3 (wipe σ vs) l[i] x _ w2 srw r2 q3 fun σ3 sr3 hl3 hk3 => ⟨?_, ?_⟩
          · have z1 : wipe σ3 vs = wipe (wipe σ vs) vs := wipe_same hl3 fun j hj => hk3 j fun z => hj (hix j z)
            rw [z1]
            exact wipe_same (wipe_length σ vs) fun j hj => wipe_get σ j vs hj
          · dsimp only at hc
            rcases q4 : tt s3 M' with _ | ⟨y | ⟨c, y⟩, M4⟩ <;> rw [q4] at hc
            · cases hc
            · cases y <;> first | (cases hc; done) | skip
              rename_i bb
              refine ⟨R2, ρ', s3, M', w2, sr3, ?_⟩
              rw [q4]
              intro R5 ρ5 H5 e5 w5
              obtain ⟨rD5, nD5, hD5⟩ := e5.apart hD2 rD2 nD2
              cases bb with
              | false =>
                refine iteF ?_
                exact ⟨R5, ρ5, M4, acc, accI, rest, (e'.trans e2).trans e5, w5, hD5, ra.mono (e2.trans e5).gr, rD5, nD5, hc, hy, Nat.le_succ_of_le hal⟩
              | true =>
                refine iteT ?_
                dsimp only at hc
                rcases q6 : te s3 M4 with _ | ⟨y | ⟨c, y⟩, M6⟩ <;> rw [q6] at hc
                · cases hc
                · refine ⟨R5, ρ5, s3, M4, w5, sr3.mono e5.gr, ?_⟩
                  rw [q6]
                  intro R7 ρ7 H7 v e7 w7 r7
                  obtain ⟨rD7, nD7, hD7⟩ := e7.apart hD5 rD5 nD5
                  dsimp only at hc
                  rcases q8 : compL chk t tt te (wipeI s vs) (l.drop (i + 1)) M6 with _ | ⟨ys8, M8⟩ <;> rw [q8] at hc
                  · cases hc
                  · cases hc
                    have eall := ((e'.trans e2).trans e5).trans e7
                    refine ⟨acc, hD7, ?_, R7, ρ7, M6, acc ++ [v], accI ++ [y], ys8, eall.mut hD, w7.other rD7 nD7, upd_same, VRs.append (ra.mono ((e2.trans e5).trans e7).gr) (.cons r7 .nil), rD7, nD7, q8, by rw [← hy]; simp, by simp; omega⟩
                    rw [← ra.length]
                    omega
                · cases hc
            · cases hc
      · rw [if_neg ck] at hc; cases hc
    · have e0 : i = l.length := by omega
      subst e0
      rw [List.drop_length] at hc
      unfold compL at hc
      by_cases ck : chk M'
      · rw [if_pos ck] at hc
        cases hc
        obtain ⟨_, stop⟩ := js R' ρ' _ Hc e'.gr w' ck
        rw [List.append_nil] at hy
        subst hy
        exact .inl ⟨stop _ (Nat.le_refl _), fin R' ρ' Hc acc e' w' hDc rDn nDr ra (by omega)⟩
      · rw [if_neg ck] at hc; cases hc
end
end PV

set_option Elab.async false
set_option linter.all false
set_option maxRecDepth 100000
set_option maxHeartbeats 4000000
namespace PV
open PySem L2
open PyProof.Rows

section
variable {X : Cx} {G : Sig} {E E2 : XK} {a b c tg elt iter : Expr} {es ifs : List Expr} {st : Stmt} {sts : List Stmt} {ea eb ec : SE} {sa sb : SS} {pos : Pos}
theorem qts_nil : PTs X [] (tT G E evYes) := ⟨fun pins s σ H Q I ⟨R, ρ, s', M, w, sr, p⟩ => pts_nil.run pins s σ H Q I (p R ρ H Ext.refl w)⟩
theorem qts_one (h : PT X a (tT G E ea)) : PTs X [a] (tT G E ea) := pts_one h
variable {src : SI} {t : Tgt} {tt te : SE} {ix : List Nat} {g : TG} {scope : Scope} {own : List (Str × Nat)}
theorem lc_frz {σ : L2.St} {H : Hp} {Q : VK} (sm : TgSim G g t ix) (hix : ∀ i ∈ ix, i ∈ own.map (·.2)) (h : tE G E (evLc src t tt te (own.map (·.2))) σ H Q) : tLc (tI G E src) g (tT G E2 tt) (tE G E2 te) (own.map (·.2)) σ H Q := by
  obtain ⟨R, ρ, s, M, w, sr, p⟩ := h
  refine ⟨R, ρ, s, M, w, sr, ?_⟩
  unfold evLc at p
  rcases q : src s M with _ | ⟨⟨l, chk⟩ | ⟨c, x⟩, M1⟩ <;> rw [q] at p
  · exact p
  · intro R1 ρ1 H1 J e1 w1 hz js D hD
    dsimp only at p
    rcases q2 : compL chk t tt te (wipeI s (own.map (·.2))) l M1 with _ | ⟨ys, M2⟩ <;> rw [q2] at p
    · exact False.elim p
    · refine lc_walk sm hix w1 (sr.mono e1.gr) hz js q2 hD fun R' ρ' H' acc e' w' hDc rDn nDr ra hzy => ?_
      exact p (upd R' D (.lst acc)) ρ' H' (.ref D) (e1.trans (e'.take hD rDn)) (w'.take hDc rDn nDr) (.lst upd_same hzy (ra.mono ⟨fun a o q => by rw [upd_ne (fun z => by subst z; rw [rDn] at q; cases q)]; exact q, fun _ _ q => q⟩))
  · exact p
theorem lc_new {σ : L2.St} {H : Hp} {Q : VK} (sm : TgSim G g t ix) (hix : ∀ i ∈ ix, i ∈ own.map (·.2)) (h : tE G E (evLcC src t tt te (own.map (·.2))) σ H Q) : tLc (tI G E src) g (tT G E2 tt) (tE G E2 te) (own.map (·.2)) σ H Q := by
  obtain ⟨R, ρ, s, M, w, sr, p⟩ := h
  refine ⟨R, ρ, s, M, w, sr, ?_⟩
  unfold evLcC at p
  rcases q : src s M with _ | ⟨⟨l, chk⟩ | ⟨c, x⟩, M1⟩ <;> rw [q] at p
  · exact p
  · intro R1 ρ1 H1 J e1 w1 hz js D hD
    dsimp only at p
    rcases q2 : compL chk t tt te (wipeI s (own.map (·.2))) l M1 with _ | ⟨ys, M2⟩ <;> rw [q2] at p
    · exact False.elim p
    · refine lc_walk sm hix w1 (sr.mono e1.gr) hz js q2 hD fun R' ρ' H' acc e' w' hDc rDn nDr ra hzy => ?_
      have gp : (ρ' ++ [D])[M2.nx]? = some D := by rw [← w'.len]; simp
      have gr : Gr R' ρ' R' (ρ' ++ [D]) := ⟨fun _ _ h => h, fun n a h => by rw [List.getElem?_append_left (List.getElem?_eq_some_iff.mp h).1]; exact h⟩
      have e2 : Ext R1 ρ1 H1 R' (ρ' ++ [D]) H' := by
        obtain ⟨τ, z, f⟩ := e'.cls
        refine ⟨e'.reg, ⟨τ ++ [D], by rw [z, List.append_assoc], fun x hx => ?_⟩, e'.keep, e'.dom, e'.nreg⟩
        rcases List.mem_append.mp hx with h | h
        · exact f x h
        · rw [List.mem_singleton.mp h]; exact hD
      have w2 : Wd G R' (ρ' ++ [D]) (M2.new (.lst ys)) H' := by
        have old : ∀ n x, n ≠ M2.nx → (M2.new (.lst ys)).c n = some x → M2.c n = some x := fun n x hn h => by
          have h' : (if n = M2.nx then some (Cell.lst ys) else M2.c n) = some x := h
          rw [if_neg hn] at h'
          exact h'
        have neD : ∀ n x a, M2.c n = some x → (ρ' ++ [D])[n]? = some a → a ≠ D := fun n x a h e z => by
          obtain ⟨b, e2, _, _⟩ := w'.cel n x h
          rw [gr.get n b e2] at e
          cases e
          exact nDr (by rw [← z]; exact List.mem_of_getElem? e2)
        refine ⟨w'.sub, by simp [Store.new, w'.len], fun n x h => ?_, fun n m b x y h1 h2 f1 f2 => ?_, fun a h => ?_⟩
        · by_cases e : n = M2.nx
          · subst e
            have h' : (if M2.nx = M2.nx then some (Cell.lst ys) else M2.c M2.nx) = some x := h
            rw [if_pos rfl] at h'
            cases h'
            exact ⟨D, gp, rDn, acc, hDc, hzy, ra.mono gr⟩
          · obtain ⟨b, e1, r, c⟩ := w'.cel n x (old n x e h)
            exact ⟨b, gr.get n b e1, r, celR_mono gr c fun u q => q⟩
        · by_cases q1 : n = M2.nx <;> by_cases q2 : m = M2.nx
          · rw [q1, q2]
          · rw [q1, gp] at f1
            cases f1
            exact absurd rfl (neD m y _ (old m y q2 h2) f2)
          · rw [q2, gp] at f2
            cases f2
            exact absurd rfl (neD n x _ (old n x q1 h1) f1)
          · have h1' := old n x q1 h1
            have h2' := old m y q2 h2
            obtain ⟨b1, g1, _⟩ := w'.cel n x h1'
            obtain ⟨b2, g2, _⟩ := w'.cel m y h2'
            rw [gr.get n b1 g1] at f1
            rw [gr.get m b2 g2] at f2
            cases f1
            cases f2
            exact w'.inj n m b x y h1' h2' g1 g2
        · rcases List.mem_append.mp h with h | h
          · exact w'.al a h
          · rw [List.mem_singleton.mp h, hDc]; simp
      exact p R' (ρ' ++ [D]) H' (.ref D) (e1.trans e2) w2 (.cel gp)
  · exact p
theorem q_lc (hc : X.calm = true) (hN : X.N.Nodup) (hi : PI X tg iter (tI G E src)) (ok : BlkOk X.N X.env.scope scope own)
    (hg : ∀ (s : Shared) (H : Hp) (C : Addr) (cl : List (Str × Addr)) (fp : List Addr), QG (X.blk s H scope (compEnvC scope cl C X.env) fp) G tg g t ix)
    (ht : ∀ (s : Shared) (H : Hp) (C : Addr) (cl : List (Str × Addr)) (fp : List Addr), PTs (X.blk s H scope (compEnvC scope cl C X.env) fp) ifs (tT G E2 tt))
    (he : ∀ (s : Shared) (H : Hp) (C : Addr) (cl : List (Str × Addr)) (fp : List Addr), PE (X.blk s H scope (compEnvC scope cl C X.env) fp) elt (tE G E2 te))
    (hix : ∀ i ∈ ix, i ∈ own.map (·.2) := by decide) (hs : ∀ x, foldedSetIterable iter X.env x = pure x := by intro _; rfl) :
    PE X (.ListComp elt [⟨tg, iter, ifs, 0⟩] scope pos) (tE G E (evLc src t tt te (own.map (·.2)))) :=
  ⟨fun pins s σ H Q I h => (pe_lc hc hN hi ok (fun s H C cl fp => (hg s H C cl fp).pg) ht he hs).run pins s σ H Q I (lc_frz (hg s H 0 [] []).sim hix h)⟩
theorem q_lcC (hc : X.calm = true) (hN : X.N.Nodup) (hi : PI X tg iter (tI G E src)) (ok : BlkOk X.N X.env.scope scope own)
    (hg : ∀ (s : Shared) (H : Hp) (C : Addr) (cl : List (Str × Addr)) (fp : List Addr), QG (X.blk s H scope (compEnvC scope cl C X.env) fp) G tg g t ix)
    (ht : ∀ (s : Shared) (H : Hp) (C : Addr) (cl : List (Str × Addr)) (fp : List Addr), PTs (X.blk s H scope (compEnvC scope cl C X.env) fp) ifs (tT G E2 tt))
    (he : ∀ (s : Shared) (H : Hp) (C : Addr) (cl : List (Str × Addr)) (fp : List Addr), PE (X.blk s H scope (compEnvC scope cl C X.env) fp) elt (tE G E2 te))
    (hix : ∀ i ∈ ix, i ∈ own.map (·.2) := by decide) (hs : ∀ x, foldedSetIterable iter X.env x = pure x := by intro _; rfl) :
    PE X (.ListComp elt [⟨tg, iter, ifs, 0⟩] scope pos) (tE G E (evLcC src t tt te (own.map (·.2)))) :=
  ⟨fun pins s σ H Q I h => (pe_lc hc hN hi ok (fun s H C cl fp => (hg s H C cl fp).pg) ht he hs).run pins s σ H Q I (lc_new (hg s H 0 [] []).sim hix h)⟩
theorem qs_setLc {i : Nat} {y : Str} {py spos : Pos} (hc : X.calm = true) (hN : X.N.Nodup) (hy : X.N[i]? = some y) (hyl : X.env.scope.names.lookup y = some .local)
    (hsw : swapsWith (.ListComp elt [⟨tg, iter, ifs, 0⟩] scope pos) (some (.Name y py)) spos.line X.env = pure true) (hi : PI X tg iter (tI G E src)) (ok : BlkOk X.N X.env.scope scope own)
    (hg : ∀ (s : Shared) (H : Hp) (C : Addr) (cl : List (Str × Addr)) (fp : List Addr), QG (X.blk s H scope (compEnvC scope cl C X.env) fp) G tg g t ix)
    (ht : ∀ (s : Shared) (H : Hp) (C : Addr) (cl : List (Str × Addr)) (fp : List Addr), PTs (X.blk s H scope (compEnvC scope cl C X.env) fp) ifs (tT G E2 tt))
    (he : ∀ (s : Shared) (H : Hp) (C : Addr) (cl : List (Str × Addr)) (fp : List Addr), PE (X.blk s H scope (compEnvC scope cl C X.env) fp) elt (tE G E2 te))
    (hix : ∀ i ∈ ix, i ∈ own.map (·.2) := by decide) (hs : ∀ x, foldedSetIterable iter X.env x = pure x := by intro _; rfl) :
    PS X (.Assign [.Name y py] (.ListComp elt [⟨tg, iter, ifs, 0⟩] scope pos) spos) (tS G E (sSet i (evLc src t tt te (own.map (·.2))))) :=
  ⟨fun pins s0 σ H D I ⟨R, ρ, s, M, w, sr, p⟩ => (ps_setLc hc hN hy hyl hsw hi ok (fun s H C cl fp => (hg s H C cl fp).pg) ht he hs).run pins s0 σ H D I (lc_frz (hg s0 H 0 [] []).sim hix
    (stepS (Q' := fun x H1 => gName i x σ H1 D.nx) w sr p fun R1 ρ1 M1 H1 va v e1 w1 sr1 r1 p1 => nxt_now w1 (sr1.set i r1) p1))⟩
theorem qs_setLcC {i : Nat} {y : Str} {py spos : Pos} (hc : X.calm = true) (hN : X.N.Nodup) (hy : X.N[i]? = some y) (hyl : X.env.scope.names.lookup y = some .local)
    (hsw : swapsWith (.ListComp elt [⟨tg, iter, ifs, 0⟩] scope pos) (some (.Name y py)) spos.line X.env = pure true) (hi : PI X tg iter (tI G E src)) (ok : BlkOk X.N X.env.scope scope own)
    (hg : ∀ (s : Shared) (H : Hp) (C : Addr) (cl : List (Str × Addr)) (fp : List Addr), QG (X.blk s H scope (compEnvC scope cl C X.env) fp) G tg g t ix)
    (ht : ∀ (s : Shared) (H : Hp) (C : Addr) (cl : List (Str × Addr)) (fp : List Addr), PTs (X.blk s H scope (compEnvC scope cl C X.env) fp) ifs (tT G E2 tt))
    (he : ∀ (s : Shared) (H : Hp) (C : Addr) (cl : List (Str × Addr)) (fp : List Addr), PE (X.blk s H scope (compEnvC scope cl C X.env) fp) elt (tE G E2 te))
    (hix : ∀ i ∈ ix, i ∈ own.map (·.2) := by decide) (hs : ∀ x, foldedSetIterable iter X.env x = pure x := by intro _; rfl) :
    PS X (.Assign [.Name y py] (.ListComp elt [⟨tg, iter, ifs, 0⟩] scope pos) spos) (tS G E (sSet i (evLcC src t tt te (own.map (·.2))))) :=
  ⟨fun pins s0 σ H D I ⟨R, ρ, s, M, w, sr, p⟩ => (ps_setLc hc hN hy hyl hsw hi ok (fun s H C cl fp => (hg s H C cl fp).pg) ht he hs).run pins s0 σ H D I (lc_new (hg s0 H 0 [] []).sim hix
    (stepS (Q' := fun x H1 => gName i x σ H1 D.nx) w sr p fun R1 ρ1 M1 H1 va v e1 w1 sr1 r1 p1 => nxt_now w1 (sr1.set i r1) p1))⟩
end

/-! ### defs -/
abbrev FM := List Va → Store → Res
def kFn (n : Nat) (f : FM) : FM := fun l M => if l.length = n then f l M else none
def spI (G : Sig) (n : Nat) (f : FM) : Sp := fun vs H Q E => vs.length = n ∧ ∃ R ρ M l, Wd G R ρ M H ∧ VRs G R ρ l vs ∧ Post G R ρ H (f l M) Q E0
def startI (n : Nat) (l : List Va) : SL := l.map some ++ List.replicate (n - l.length) none
def endF (r : RS) : Res := match r with
  | some (.nx, _, M) => some (.val .non, M)
  | some (.ret v, _, M) => some (.val v, M)
  | some (.exc c v, _, M) => some (.exc c v, M)
  | _ => none
def runF (n : Nat) (es : SS) : FM := fun l M => endF (es (startI n l) M)
theorem sr_start {G : Sig} {R : Hp} {ρ : List Addr} {N : List Str} {l : List Va} {vs : List V} (r : VRs G R ρ l vs) : SR G R ρ (startI N.length l) (L2.start N vs) := by
  have hl := r.length
  refine ⟨by unfold startI L2.start; simp [hl], fun i x e => ?_⟩
  unfold startI at e
  unfold L2.start
  by_cases hi : i < l.length
  · rw [List.getElem?_append_left (by simpa using hi), List.getElem?_map] at e
    cases q : l[i]? with
    | none => rw [q] at e; cases e
    | some y =>
      rw [q] at e
      cases e
      obtain ⟨v, h1, h2⟩ := r.get q
      exact ⟨v, by rw [List.getElem?_append_left (by simp; omega), List.getElem?_map, h1]; rfl, h2⟩
  · rw [List.getElem?_append_right (by simpa using hi), List.getElem?_replicate] at e
    split at e <;> cases e
theorem post_end {G : Sig} {R : Hp} {ρ : List Addr} {H : Hp} {r : RS} {Q : VK} {E : XK} (h : Post G R ρ H (endF r) Q E) : PostS G R ρ H r { nx := fun _ H' => Q .non H', rt := Q } E := by
  rcases r with _ | ⟨_ | x | _ | _ | ⟨c, x⟩, s, M⟩
  · exact h
  · exact fun R' ρ' H' σ' e w sr => h R' ρ' H' .non e w .non
  · exact h
  · exact False.elim h
  · exact False.elim h
  · exact h
theorem spI_imp {G : Sig} {n : Nat} {f f' : FM} (h : ∀ l M r, f' l M = some r → f l M = some r) : ∀ vs H Q E, spI G n f' vs H Q E → spI G n f vs H Q E := fun vs H Q E ⟨hl, R, ρ, M, l, w, r, p⟩ => by
  refine ⟨hl, R, ρ, M, l, w, r, ?_⟩
  cases q : f' l M with
  | none => rw [q] at p; exact False.elim p
  | some x => rw [q] at p; rw [h l M x q]; exact p
/-! ### a def's promise where no repr is under way (the guards are known) -/
structure FnG (P : Program) (w : World) (K : PySem.W.Frag) (mg : Str → Option Value) (base : Heap) (CX : CXT) (k : Nat) (f : Addr) (fd : FuncData) (ps : List Str) (sp : Sp) : Prop where
  arity : ∀ vs H Q E, sp vs H Q E → vs.length = ps.length
  go : ∀ (A : Around), Room k A → A.guards = some [] →
    ∀ (outer : List Env) (s : Shared) (H : Hp), Env0 P w K mg base A outer s H →
    ∀ (args : Args) (us : List Value) (vs : List V), BindsTo s fd args (ps.zip us) → Vals vs us →
    ∀ (Q : VK) (E : XK), sp vs H Q E → codeAny (model P w) A (.call (.ref f) args) (CR CX outer P w H s Q E) s
section
variable {P : Program} {w : World} {K : PySem.W.Frag} {mg : Str → Option Value} {base : Heap} {G : Sig} {CX : CXT}
theorem FnG.mono {j k : Nat} {f : Addr} {fd : FuncData} {ps : List Str} {sp : Sp} (F : FnG P w K mg base CX j f fd ps sp) (h : j ≤ k) : FnG P w K mg base CX k f fd ps sp :=
  ⟨F.arity, fun A r g => F.go A (r.mono h) g⟩
theorem FnG.imp {k : Nat} {f : Addr} {fd : FuncData} {ps : List Str} {sp sp' : Sp} (F : FnG P w K mg base CX k f fd ps sp) (h : ∀ vs H Q E, sp' vs H Q E → sp vs H Q E) : FnG P w K mg base CX k f fd ps sp' :=
  ⟨fun vs H Q E q => F.arity vs H Q E (h vs H Q E q), fun A r g outer s H e args us vs b v Q E q => F.go A r g outer s H e args us vs b v Q E (h vs H Q E q)⟩
theorem fnG_of {x qual : Str} {st : Stmt} {f : Addr} {fd : FuncData} {N ps : List Str} {k : Nat} {sp : Sp} (F : Fun K x qual st f fd) (S : FnScope N ps (defScope st)) (ar : ∀ vs H Q E, sp vs H Q E → vs.length = ps.length)
    (body : ∀ (cdv : Value) (A : Around) (outer : List Env) (s : Shared) (H : Hp) (vs : List V) (Q : VK) (E : XK), Room k (A.deeper (envOfC qual (defScope st) s.heap.objs.size f cdv)) → A.guards = some [] → sp vs H Q E →
      ∃ t, PSs (cxOf CX P w K mg base N qual (defScope st) f cdv A outer s H E) (defBody st) t ∧ t { nx := fun _ H' => Q .non H', rt := Q } (L2.start N vs) H) :
    FnG P w K mg base CX (k + 1) f fd ps sp := by
  obtain ⟨oc, od, kV, doc, pm, an, cdv, ct, osl, rfl, lk, hcd⟩ := F.ex
  refine ⟨ar, fun A rm gd outer s H e0 args us vs bt rv Q E q => ?_⟩
  have arl := ar vs H Q E q
  have kh : K.In s.heap := e0.mod.kin.keeps fun b o z => (e0.bs b o z).1
  have nl : s.heap.NoLimit := e0.mod.nolimit.keeps fun b o z => (e0.bs b o z).1
  refine codeAny_call_function rm.depth (kh _ _ lk) rfl S.co S.gen rfl (PySem.W.codeRec_of kh hcd) (bt _ _ _ _ ?_)
  refine wpAny_newFunctionEnv_cells S.kind (fun ⟨n, v⟩ hm => ?_) fun env he s1 ic => ?_
  · have hp := (List.of_mem_zip hm).1
    rcases S.par n hp with z | z
    · exact .inl z
    · exact .inr ⟨z, PySem.W.cellsFrom_some _ _ _ (.inl z)⟩
  · subst he
    refine ⟨nl.keeps ic.toInCall.keep, codeAny_func ?_⟩
    obtain ⟨t, pt, tt⟩ := body cdv A outer s H vs Q E (rm.deeper _) gd q
    have J := inv_start (CX := CX) (E := E) S rm.hd e0 arl rv ic
    refine wpAny_mono (pt.run [] s1 (L2.start N vs) H _ J tt) (fun fl s' z => ?_) fun _ _ z => z
    match fl, z with
    | .next, ⟨_, H', J', q'⟩ => exact ⟨.non, H', J'.os, J'.bare, J'.base, J'.hok, rfl, q'⟩
    | .ret u, ⟨v, _, H', J', rv', q'⟩ => exact ⟨v, H', J'.os, J'.bare, J'.base, J'.hok, rv', q'⟩
    | .brk, ⟨_, _, _, q'⟩ => exact q'.elim
    | .cont, ⟨_, _, _, q'⟩ => exact q'.elim
/-- a def that raises nothing, by the value of its body -/
theorem ok_fn {x qual : Str} {st : Stmt} {f : Addr} {fd : FuncData} {N ps : List Str} {k : Nat} {es : SS} (F : Fun K x qual st f fd) (S : FnScope N ps (defScope st))
    (hb : ∀ (cdv : Value) (A : Around) (outer : List Env) (s : Shared) (H : Hp) (E : XK), Room k (A.deeper (envOfC qual (defScope st) s.heap.objs.size f cdv)) → A.guards = some [] →
      PSs (cxOf CX0 P w K mg base N qual (defScope st) f cdv A outer s H E).nox (defBody st) (tS G E0 es)) : FnG P w K mg base CX0 (k + 1) f fd ps (spI G ps.length (runF N.length es)) :=
  fnG_of F S (fun vs H Q E h => h.1) fun cdv A outer s H vs Q E hr hg ⟨hl, R, ρ, M, l, wd, r, p⟩ =>
    ⟨_, (hb cdv A outer s H E hr hg).nox, R, ρ, startI N.length l, M, wd, sr_start r, post_end p⟩
end
section
variable {X : Cx} {G : Sig} {E : XK} {a o : Expr} {es : List Expr} {ea eo : SE} {pos p' apos : Pos} {k : Nat} {f C : Addr} {fd : FuncData} {ps : List Str} {x m : Str} {n : Nat} {fM : FM} {sp : Sp} {CX : CXT} {ta : TE} {t : TA} {dvs : List V} {ds : List Value}
theorem run_fnG {pins : List (Addr × Obj)} {σ : L2.St} {H : Hp} {s : Shared} {Q : VK} {us : List Value} {vs : List V} (F : FnG X.prog X.w X.K X.mg X.base CX k f fd ps sp) (hr : Room k X.A) (hgd : X.A.guards = some []) (hb : Binds X.K fd ps ds) (hd : Vals dvs ds)
    (hx : Passes CX X E) (I : Inv X pins σ H s) (rv : Vals vs us) (h : sp (vs ++ dvs) H Q E) : wpAny (model X.prog X.w) X.A (call (.ref f) us) (EP X pins σ Q) X.xe s := by
  have r2 := rv.append hd
  have bt := hb s us I.kIn (r2.length ▸ F.arity _ _ _ _ h)
  refine wpAny_call (codeAny_mono (F.go X.A hr hgd X.stack s H I.env0 _ _ _ bt r2 Q E h) fun r s' z => ?_)
  match r, z with
  | .error e, z => exact hx pins σ H s e s' I z
  | .ok (.ret u), z => exact I.after z
  | .ok .next, z => exact False.elim z
  | .ok .brk, z => exact False.elim z
  | .ok .cont, z => exact False.elim z
theorem pe_callG (F : FnG X.prog X.w X.K X.mg X.base CX k f fd ps sp) (hr : Room k X.A) (hgd : X.A.guards = some []) (hg : Gl X x) (hm : X.mg x = some (.ref f)) (hk : PySem.W.keepIn X.K (.ref f) = true) (hb : Binds X.K fd ps ds) (hd : Vals dvs ds) (hx : Passes CX X E)
    (ha : PA X (a :: es) t) (hdb : (x == ("__debug__" : Str)) = false := by decide) (he : starEach (a :: es) X.env = (false, eval a X.env) :: starEach es X.env := by rfl) (hpl : (backTo pos (starEach es X.env)).any (·.1) = false := by rfl) :
    PE X (.Call (.Name x p') (a :: es) [] pos) (tCall sp dvs E t) :=
  ⟨fun pins s σ H Q I h => wpAny_Call_Name_kw (ld_glob I hg hm (PySem.W.callWith_K (h₀ := X.base) I.ok.mod.kin hk
    (thn (ha.run pos pins s σ H _ I h) fun _ _ ⟨_, _, I1, r, q⟩ => ⟨I1.kIn, run_fnG F hr hgd hb hd hx I1 r q⟩) he hpl) hdb)⟩
theorem pe_callG0 (F : FnG X.prog X.w X.K X.mg X.base CX k f fd ps sp) (hr : Room k X.A) (hgd : X.A.guards = some []) (hg : Gl X x) (hm : X.mg x = some (.ref f)) (hk : PySem.W.keepIn X.K (.ref f) = true) (hb : Binds X.K fd ps ds) (hd : Vals dvs ds) (hx : Passes CX X E)
    (hdb : (x == ("__debug__" : Str)) = false := by decide) : PE X (.Call (.Name x p') [] [] pos) (tCall sp dvs E tNil) :=
  ⟨fun pins s σ H Q I h => wpAny_Call_Name_kw (ld_glob I hg hm (PySem.W.callWith_K0 I.kIn hk (run_fnG (us := []) F hr hgd hb hd hx I .nil h)) hdb)⟩
theorem q_fn (F : FnG X.prog X.w X.K X.mg X.base CX0 k f fd ps (spI G n fM)) (hr : Room k X.A) (hgd : X.A.guards = some []) (hg : Gl X x) (hm : X.mg x = some (.ref f)) (hk : PySem.W.keepIn X.K (.ref f) = true) (hb : Binds X.K fd ps [])
    (ha : PA X (a :: es) (tA G E0 ea)) (hdb : (x == ("__debug__" : Str)) = false := by decide) (he : starEach (a :: es) X.env = (false, eval a X.env) :: starEach es X.env := by rfl) (hpl : (backTo pos (starEach es X.env)).any (·.1) = false := by rfl) :
    PE X (.Call (.Name x p') (a :: es) [] pos) (tE G E0 (evL (kFn n fM) ea)) :=
  pe_imp (pe_callG F hr hgd hg hm hk hb .nil pass0 ha hdb he hpl) fun σ H Q ⟨R, ρ, s, M, w, sr, p⟩ => stepA w sr p fun R1 ρ1 M1 H1 l vs e1 w1 sr1 r1 p1 => by
    unfold kFn at p1
    by_cases hl : l.length = n
    · rw [if_pos hl] at p1
      exact ⟨by rw [List.append_nil, ← r1.length]; exact hl, R1, ρ1, M1, l, w1, by rw [List.append_nil]; exact r1, p1⟩
    · rw [if_neg hl] at p1; exact False.elim p1
theorem q_fn0 (F : FnG X.prog X.w X.K X.mg X.base CX0 k f fd ps (spI G 0 fM)) (hr : Room k X.A) (hgd : X.A.guards = some []) (hg : Gl X x) (hm : X.mg x = some (.ref f)) (hk : PySem.W.keepIn X.K (.ref f) = true) (hb : Binds X.K fd ps [])
    (hdb : (x == ("__debug__" : Str)) = false := by decide) : PE X (.Call (.Name x p') [] [] pos) (tE G E0 (evL (kFn 0 fM) evNil)) :=
  pe_imp (pe_callG0 F hr hgd hg hm hk hb .nil pass0 hdb) fun σ H Q ⟨R, ρ, s, M, w, sr, p⟩ => ⟨rfl, R, ρ, M, [], w, .nil, p⟩
end

/-! ### the law's end -/
/-- the law's call, its promise by value -/
theorem law_end {P : Program} {w : World} {K : PySem.W.Frag} {mg mb : Str → Option Value} {k : Nat} {fa a : Addr} {fd : FuncData} {x : Str} {s : Shared} {vs : List Value} {ns : List Int} {CA : Nat → Addr} {f : FM} {M' : Store}
    (kin : K.In s.heap) (gl : s.heap.Ns mainGlobals mg) (bl : s.heap.Ns builtinsNs mb) (blt : ∀ x : Str, x ≠ "__name__" → mb x = bootBuiltins x) (nl : s.heap.NoLimit) (ng : s.gens = #[])
    (ha : s.heap.get? a = some { cls := .type "list", data := .seq vs.toArray }) (hi : IntsAre vs ns) (hz : ns.length ≤ sizeLine) (rm : Room k callerA)
    (F : ∀ base : Heap, K.In base → base.Ns mainGlobals mg → FnG P w K mg base CX0 k fa fd [x] (spI ⟨K, CA⟩ 1 f)) (bt : ∀ (s : Shared) (u : Value), BindsTo s fd ⟨[u], []⟩ [(x, u)])
    (hf : f [.scr ns] ⟨fun _ => none, 0⟩ = some (.val (.bl true), M')) :
    codeAny (model P w) callerA (.call (.ref fa) ⟨[.ref a], []⟩) (fun r s' => r = .ok (.ret (.bool true)) ∧ OldK s.heap s'.heap ∧ s'.os = s.os ∧ AllBare s'.gens) s := by
  have rv : Vals (ns.map V.int) vs := L2.vals_ints hi
  have main : ∀ H : Hp, SqL K H a (ns.map V.int) → HOk P w H s.heap → (∀ b u, H b = some u → b = a ∧ K.lookup a = none ∧ ∃ o xs, u = .frz o (.lst xs)) →
      codeAny (model P w) callerA (.call (.ref fa) ⟨[.ref a], []⟩) (fun r s' => r = .ok (.ret (.bool true)) ∧ OldK s.heap s'.heap ∧ s'.os = s.os ∧ AllBare s'.gens) s := by
    intro H sq ok only
    have un : ∀ {b : Addr} {o : Obj}, s.heap.get? b = some o → (b = a → K.lookup a ≠ none ∨ ∃ es ep, o.data = .dict es ep) → (hidT s.heap H).get? b = some o := fun {b o} e h => by
      refine hidT_get e ?_
      cases q : H b with
      | none => rfl
      | some u =>
        obtain ⟨rfl, z, _⟩ := only b u q
        rcases h rfl with h | ⟨es, ep, d⟩
        · exact absurd z h
        · rw [ha] at e
          cases e
          cases d
    have ns' : ∀ {b : Addr} {m : Str → Option Value}, s.heap.Ns b m → (hidT s.heap H).Ns b m := fun ⟨o, es, ep, e, d, r⟩ => ⟨o, es, ep, un e fun _ => .inr ⟨es, ep, d⟩, d, r⟩
    have kin' : K.In (hidT s.heap H) := fun b o e => un (kin b o e) fun z => .inl (by rw [← z, e]; simp)
    have nl' : (hidT s.heap H).NoLimit := nl.elim fun m z => ⟨m, ns' z.1, z.2⟩
    have e0 : Env0 P w K mg (hidT s.heap H) callerA [] s H :=
      { frames := rfl, mod := { kin := kin', glob := ns' gl, blt := ⟨mb, ns' bl, blt⟩, nolimit := nl' }, bs := fun b o e => of_hidT e, bsz := Nat.le_of_eq (hidT_size _ _), funs := trivial,
        frf := fun b hb => (nomatch hb), hok := ok, bare := .of_eq ng }
    have wd : Wd ⟨K, CA⟩ H [] ⟨fun _ => none, 0⟩ H := ⟨fun _ _ h => h, rfl, fun _ _ h => (nomatch h), fun _ _ _ _ _ h => (nomatch h), fun _ h => (nomatch h)⟩
    have sp : spI ⟨K, CA⟩ 1 f [.ref a] H (fun v H' => v = .bl true) fun _ _ _ => False :=
      ⟨rfl, H, [], ⟨fun _ => none, 0⟩, [.scr ns], wd, .cons (.scr sq hz) .nil, by
        rw [hf]
        intro R' ρ' H' v _ _ r
        cases r
        rfl⟩
    refine codeAny_mono ((F _ kin' (ns' gl)).go callerA rm rfl [] s H e0 ⟨[.ref a], []⟩ [.ref a] [.ref a] (bt s (.ref a)) (.cons rfl .nil) _ _ sp) fun r s' z => ?_
    match r, z with
    | .error e, z => exact z.elim
    | .ok .next, z => exact z.elim
    | .ok .brk, z => exact z.elim
    | .ok .cont, z => exact z.elim
    | .ok (.ret u), ⟨v, H', os, bare, keep, ok', ru, q⟩ =>
      subst q
      obtain rfl : u = Value.bool true := ru
      refine ⟨rfl, OldK.of_keep fun b o e => ?_, os, bare⟩
      cases q : H b with
      | none => exact keep.keep b o e q (fun z => nomatch z) fun z => nomatch z
      | some u =>
        obtain ⟨_, _, ob, xs, rfl⟩ := only b u q
        have f1 := (ok b _ q).1
        have f2 := (ok' b _ (keep.frzs b ob _ q)).1
        rw [e] at f1
        cases f1
        exact f2
  by_cases kl : K.lookup a = none
  · refine main (fun b => if b = a then some (.frz { cls := .type "list", data := .seq vs.toArray } (.lst (ns.map V.int))) else none) (.inl (.inr ⟨_, if_pos rfl⟩)) (fun b u z => ?_) fun b u z => ?_
    all_goals
      try dsimp only at z
      by_cases q : b = a
      · subst q
        rw [if_pos rfl] at z
        cases z
        first
          | exact ⟨rfl, kl, _, _, rfl⟩
          | exact ⟨ha, by rw [List.length_map]; exact hz, vs, 0, rv, ha⟩
      · rw [if_neg q] at z
        cases z
  · obtain ⟨o, kl⟩ := Option.ne_none_iff_exists'.mp kl
    have e := kin a o kl
    rw [ha] at e
    cases e
    exact main (fun _ => none) (.inr ⟨_, vs.toArray, 0, kl, rfl, rfl, rfl, by rw [List.size_toArray, ← rv.length, List.length_map]; exact hz, rv⟩) (fun b u z => by cases z) fun b u z => by cases z
end PV

set_option Elab.async false
set_option linter.all false
set_option maxRecDepth 100000
set_option maxHeartbeats 4000000
namespace PV
open PySem L2

/-! ### numbers -/
def divOk (j : Int) : Prop := 0 < j ∧ j.natAbs.log2 < 9000
def powOk (i j : Int) : Prop := 0 ≤ j ∧ (Builtin.Int.intBits i : Int) * j ≤ 2 ^ 27
noncomputable section
open Classical
def opAdd (M : Store) (a b : Va) : Option Va := match a, b with
  | .int i, .int j => some (.int (i + j))
  | .str x, .str y => if x.length + y.length ≤ sizeLine then some (.str (x ++ y)) else none
  | a, b => match ownOf M a, ownOf M b with
    | some l, some m => if l.length + m.length ≤ sizeLine then some (.lst (l ++ m)) else none
    | _, _ => none
def opSub (M : Store) (a b : Va) : Option Va := match a, b with
  | .int i, .int j => some (.int (i - j))
  | _, _ => none
def opMul (M : Store) (a b : Va) : Option Va := match a, b with
  | .int i, .int j => if IntMulOk i j then some (.int (i * j)) else none
  | a, .int k => match ownOf M a with
    | some l => if -(2 ^ 63) ≤ k ∧ k < 2 ^ 63 ∧ l.length * k.toNat ≤ sizeLine then some (.lst (List.replicate k.toNat l).flatten) else none
    | none => none
  | _, _ => none
def opDiv (M : Store) (a b : Va) : Option Va := match a, b with
  | .int i, .int j => if divOk j then some (.int (i / j)) else none
  | _, _ => none
def opMod (M : Store) (a b : Va) : Option Va := match a, b with
  | .int i, .int j => if 0 < j then some (.int (i % j)) else none
  | _, _ => none
def opPow (M : Store) (a b : Va) : Option Va := match a, b with
  | .int i, .int j => if powOk i j then some (.int (i ^ j.toNat)) else none
  | _, _ => none
end
def opLt (M : Store) (a b : Va) : Option Va := match a, b with
  | .int i, .int j => some (.bl (decide (i < j)))
  | _, _ => none
def opLe (M : Store) (a b : Va) : Option Va := match a, b with
  | .int i, .int j => some (.bl (decide (i ≤ j)))
  | _, _ => none
def opGt (M : Store) (a b : Va) : Option Va := match a, b with
  | .int i, .int j => some (.bl (decide (j < i)))
  | _, _ => none
def opGe (M : Store) (a b : Va) : Option Va := match a, b with
  | .int i, .int j => some (.bl (decide (j ≤ i)))
  | _, _ => none
def opNeg (M : Store) (a : Va) : Option Va := match a with
  | .int i => some (.int (-i))
  | _ => none

abbrev rAddS : R2 := fun x y H Q => ∃ i j, x = .str i ∧ y = .str j ∧ i.length + j.length ≤ sizeLine ∧ Q (.str (i ++ j)) H
section
variable {G : Sig} {X : Cx}
theorem s_add : Op2 G (fun x y H Q => rI0 (fun i j => .int (i + j)) x y H Q ∨ (rAddS x y H Q ∨ rCat x y H Q)) opAdd := by
  intro R ρ M H x y va vb res Q w ra rb h g
  have lists : (match ownOf M va, ownOf M vb with
    | some l, some m => if l.length + m.length ≤ sizeLine then some (Va.lst (l ++ m)) else none
    | _, _ => none) = some res → rCat x y H Q := fun h => by
    split at h
    · rename_i l m h1 h2
      obtain ⟨a, vs, rfl, ha, rv, z⟩ := own_read w ra h1
      obtain ⟨b, ws, rfl, hb, rw', z'⟩ := own_read w rb h2
      split at h
      · rename_i hz
        cases h
        exact ⟨a, b, vs, ws, rfl, rfl, ha, hb, by rw [← rv.length, ← rw'.length]; exact hz, fun p hp => gives_lst w (rv.append rw') (by simpa using hz) g hp⟩
      · cases h
    · cases h
  unfold opAdd at h
  split at h
  · cases h; cases ra; cases rb
    exact .inl ⟨_, _, rfl, rfl, gives_now w (.int _) g⟩
  · cases ra; cases rb
    split at h
    · rename_i hz; cases h
      exact .inr (.inl ⟨_, _, rfl, rfl, hz, gives_now w (.str _) g⟩)
    · cases h
  · exact .inr (.inr (lists h))
theorem q_add {E : XK} {a b : Expr} {ea eb : SE} {pos : Pos} (ha : PE X a (tE G E ea)) (hb : PE X b (tE G E eb)) : PE X (.BinOp a .Add b pos) (tE G E (ev2 opAdd ea eb)) := q_op (op_add.or (op_add_str.or op_cat)) s_add ha hb
theorem s_sub : Op2 G (rI0 fun i j => .int (i - j)) opSub := by
  intro R ρ M H x y va vb res Q w ra rb h g
  unfold opSub at h
  split at h
  · cases h; cases ra; cases rb
    exact ⟨_, _, rfl, rfl, gives_now w (.int _) g⟩
  · cases h
theorem q_sub {E : XK} {a b : Expr} {ea eb : SE} {pos : Pos} (ha : PE X a (tE G E ea)) (hb : PE X b (tE G E eb)) : PE X (.BinOp a .Sub b pos) (tE G E (ev2 opSub ea eb)) := q_op op_sub s_sub ha hb
theorem op_mulA : OpR X (binaryOp .Mult) (rI IntMulOk fun i j => .int (i * j)) := opI fun _ _ _ _ _ _ _ hc q => PyProof.Rows.mul_int q hc
theorem VRs.rep {R : Hp} {ρ : List Addr} {l : List Va} {vs : List V} (r : VRs G R ρ l vs) : ∀ n : Nat, VRs G R ρ (List.replicate n l).flatten (List.replicate n vs).flatten
  | 0 => .nil
  | n + 1 => by
    rw [List.replicate_succ, List.replicate_succ, List.flatten_cons, List.flatten_cons]
    exact r.append (VRs.rep r n)
theorem s_mul : Op2 G (fun x y H Q => rI IntMulOk (fun i j => .int (i * j)) x y H Q ∨ rRep x y H Q) opMul := by
  intro R ρ M H x y va vb res Q w ra rb h g
  unfold opMul at h
  split at h
  · cases ra; cases rb
    split at h
    · rename_i hz; cases h
      exact .inl ⟨_, _, rfl, rfl, hz, gives_now w (.int _) g⟩
    · cases h
  · cases rb
    split at h
    · rename_i l h1
      obtain ⟨a, vs, rfl, ha, rv, z⟩ := own_read w ra h1
      split at h
      · rename_i hz
        cases h
        refine .inr ⟨a, _, vs, rfl, rfl, ha, hz.1, hz.2.1, by rw [← rv.length]; exact hz.2.2, fun p hp => gives_lst w (rv.rep _) ?_ g hp⟩
        rw [List.length_flatten, List.map_replicate, List.sum_replicate_nat]
        rw [Nat.mul_comm]
        exact hz.2.2
      · cases h
    · cases h
  · cases h
theorem q_mul {E : XK} {a b : Expr} {ea eb : SE} {pos : Pos} (ha : PE X a (tE G E ea)) (hb : PE X b (tE G E eb)) : PE X (.BinOp a .Mult b pos) (tE G E (ev2 opMul ea eb)) := q_op (op_mulA.or op_rep) s_mul ha hb
theorem s_div : Op2 G (rI CDivW fun i j => .int (i / j)) opDiv := by
  intro R ρ M H x y va vb res Q w ra rb h g
  unfold opDiv at h
  split at h
  · cases ra; cases rb
    split at h
    · rename_i hz; cases h
      exact ⟨_, _, rfl, rfl, hz, gives_now w (.int _) g⟩
    · cases h
  · cases h
theorem q_div {E : XK} {a b : Expr} {ea eb : SE} {pos : Pos} (ha : PE X a (tE G E ea)) (hb : PE X b (tE G E eb)) : PE X (.BinOp a .FloorDiv b pos) (tE G E (ev2 opDiv ea eb)) := q_op op_fdivW s_div ha hb
theorem s_mod : Op2 G (rI (fun _ j => 0 < j) fun i j => .int (i % j)) opMod := by
  intro R ρ M H x y va vb res Q w ra rb h g
  unfold opMod at h
  split at h
  · cases ra; cases rb
    split at h
    · rename_i hz; cases h
      exact ⟨_, _, rfl, rfl, hz, gives_now w (.int _) g⟩
    · cases h
  · cases h
theorem q_mod {E : XK} {a b : Expr} {ea eb : SE} {pos : Pos} (ha : PE X a (tE G E ea)) (hb : PE X b (tE G E eb)) : PE X (.BinOp a .Mod b pos) (tE G E (ev2 opMod ea eb)) := q_op op_mod s_mod ha hb
theorem op_powW : OpR X (binaryOp .Pow) (rI powOk fun i j => .int (i ^ j.toNat)) := opI fun _ _ _ _ _ _ _ hc q => PyProof.Rows.pow_int hc.1 hc.2 q
theorem s_pow : Op2 G (rI powOk fun i j => .int (i ^ j.toNat)) opPow := by
  intro R ρ M H x y va vb res Q w ra rb h g
  unfold opPow at h
  split at h
  · cases ra; cases rb
    split at h
    · rename_i hz; cases h
      exact ⟨_, _, rfl, rfl, hz, gives_now w (.int _) g⟩
    · cases h
  · cases h
theorem q_pow {E : XK} {a b : Expr} {ea eb : SE} {pos : Pos} (ha : PE X a (tE G E ea)) (hb : PE X b (tE G E eb)) : PE X (.BinOp a .Pow b pos) (tE G E (ev2 opPow ea eb)) := q_op op_powW s_pow ha hb
theorem s_lt : Op2 G (rI0 fun i j => .bl (decide (i < j))) opLt := by
  intro R ρ M H x y va vb res Q w ra rb h g
  unfold opLt at h
  split at h
  · cases h; cases ra; cases rb
    exact ⟨_, _, rfl, rfl, gives_now w (.bl _) g⟩
  · cases h
theorem s_le : Op2 G (rI0 fun i j => .bl (decide (i ≤ j))) opLe := by
  intro R ρ M H x y va vb res Q w ra rb h g
  unfold opLe at h
  split at h
  · cases h; cases ra; cases rb
    exact ⟨_, _, rfl, rfl, gives_now w (.bl _) g⟩
  · cases h
theorem s_gt : Op2 G (rI0 fun i j => .bl (decide (j < i))) opGt := by
  intro R ρ M H x y va vb res Q w ra rb h g
  unfold opGt at h
  split at h
  · cases h; cases ra; cases rb
    exact ⟨_, _, rfl, rfl, gives_now w (.bl _) g⟩
  · cases h
theorem s_ge : Op2 G (rI0 fun i j => .bl (decide (j ≤ i))) opGe := by
  intro R ρ M H x y va vb res Q w ra rb h g
  unfold opGe at h
  split at h
  · cases h; cases ra; cases rb
    exact ⟨_, _, rfl, rfl, gives_now w (.bl _) g⟩
  · cases h
theorem s_neg : Op1 G (rU fun i => .int (-i)) opNeg := by
  intro R ρ M H x va res Q w ra h g
  unfold opNeg at h
  split at h
  · cases h; cases ra
    exact ⟨_, rfl, gives_now w (.int _) g⟩
  · cases h
theorem q_neg {E : XK} {a : Expr} {ea : SE} {pos : Pos} (ha : PE X a (tE G E ea)) : PE X (.UnaryOp .USub a pos) (tE G E (ev1 opNeg ea)) := q_un un_neg s_neg ha
end

/-! ### plain data -/
def kPd : Key → PyData
  | .inl i => .int i
  | .inr x => .str x
mutual
inductive PdR (M : Store) : Va → PyData → Prop
  | non : PdR M .non .none
  | bl (b : Bool) : PdR M (.bl b) (.bool b)
  | int (i : Int) : PdR M (.int i) (.int i)
  | str (x : Str) : PdR M (.str x) (.str x)
  | lst {x : Va} {l : List Va} {ds : List PyData} : lstOf M x = some l → PdRs M l ds → PdR M x (.list ds)
  | tup {l : List Va} {ds : List PyData} : PdRs M l ds → PdR M (.tup l) (.tuple ds)
  | dic {x : Va} {l : List (Key × Va)} {ds : List (PyData × PyData)} : dicOf M x = some l → PdRk M l ds → PdR M x (.dict ds)
inductive PdRs (M : Store) : List Va → List PyData → Prop
  | nil : PdRs M [] []
  | cons {x : Va} {d : PyData} {l : List Va} {ds : List PyData} : PdR M x d → PdRs M l ds → PdRs M (x :: l) (d :: ds)
inductive PdRk (M : Store) : List (Key × Va) → List (PyData × PyData) → Prop
  | nil : PdRk M [] []
  | cons {k : Key} {x : Va} {d : PyData} {l : List (Key × Va)} {ds : List (PyData × PyData)} : PdR M x d → PdRk M l ds → PdRk M ((k, x) :: l) ((kPd k, d) :: ds)
end
section
variable {M : Store}
mutual
theorem PdR.det : ∀ {x : Va} {d e : PyData}, PdR M x d → PdR M x e → d = e
  | _, _, _, .non, h => by cases h with
    | non => rfl
    | lst h _ => cases h
    | dic h _ => cases h
  | _, _, _, .bl b, h => by cases h with
    | bl => rfl
    | lst h _ => cases h
    | dic h _ => cases h
  | _, _, _, .int b, h => by cases h with
    | int => rfl
    | lst h _ => cases h
    | dic h _ => cases h
  | _, _, _, .str b, h => by cases h with
    | str => rfl
    | lst h _ => cases h
    | dic h _ => cases h
  | x, _, _, .lst h1 h2, h => by cases h with
    | lst g1 g2 =>
      rw [h1] at g1
      cases g1
      rw [PdRs.det h2 g2]
    | dic g1 g2 =>
      cases x <;> first | cases h1 <;> done | cases g1 <;> done | skip
      rename_i n
      unfold lstOf at h1
      unfold dicOf at g1
      dsimp only at h1 g1
      rcases q : M.c n with _ | _ | _ | _ <;> rw [q] at h1 g1 <;> first | cases h1 <;> done | cases g1
    | _ => cases h1
  | _, _, _, .tup h2, h => by cases h with
    | tup g2 => rw [PdRs.det h2 g2]
    | lst h _ => cases h
    | dic h _ => cases h
  | x, _, _, .dic h1 h2, h => by cases h with
    | dic g1 g2 =>
      rw [h1] at g1
      cases g1
      rw [PdRk.det h2 g2]
    | lst g1 g2 =>
      cases x <;> first | cases h1 <;> done | cases g1 <;> done | skip
      rename_i n
      unfold dicOf at h1
      unfold lstOf at g1
      dsimp only at h1 g1
      rcases q : M.c n with _ | _ | _ | _ <;> rw [q] at h1 g1 <;> first | cases h1 <;> done | cases g1
    | _ => cases h1
theorem PdRs.det : ∀ {x : List Va} {d e : List PyData}, PdRs M x d → PdRs M x e → d = e
  | _, _, _, .nil, h => by cases h; rfl
  | _, _, _, .cons h1 h2, h => by cases h with
    | cons g1 g2 => rw [PdR.det h1 g1, PdRs.det h2 g2]
theorem PdRk.det : ∀ {x : List (Key × Va)} {d e : List (PyData × PyData)}, PdRk M x d → PdRk M x e → d = e
  | _, _, _, .nil, h => by cases h; rfl
  | _, _, _, .cons h1 h2, h => by cases h with
    | cons g1 g2 => rw [PdR.det h1 g1, PdRk.det h2 g2]
end
end
noncomputable section
open Classical
def pdOf (M : Store) (x : Va) : Option PyData := if h : ∃ d, PdR M x d then some h.choose else none
theorem pdOf_eq {M : Store} {x : Va} {d : PyData} (h : PdR M x d) : pdOf M x = some d := by
  unfold pdOf
  have q : ∃ d, PdR M x d := ⟨d, h⟩
  rw [dif_pos q, PdR.det q.choose_spec h]
theorem pdOf_some {M : Store} {x : Va} {d : PyData} (h : pdOf M x = some d) : PdR M x d := by
  unfold pdOf at h
  split at h
  · rename_i q
    cases h
    exact q.choose_spec
  · cases h
end
section
variable {X : Cx} {pins : List (Addr × Obj)} {σ : L2.St} {H R : Hp} {s : Shared} {G : Sig} {ρ : List Addr} {M : Store}
/-- a datum without dicts is read off the heap -/
theorem hasDict_of {d : PyData} {ds : List PyData} (h : PyData.hasDictAll (d :: ds) = false) : d.hasDict = false ∧ PyData.hasDictAll ds = false := by
  simpa [PyData.hasDictAll] using h
mutual
theorem pd_reads (I : Inv X pins σ H s) (hK : X.K = G.K) (w : Wd G R ρ M H) : ∀ {x : Va} {d : PyData} {v : V} {u : Value}, PdR M x d → VR G R ρ x v → RelV v u → d.hasDict = false → ∃ as, Reads s.heap u d as
  | _, _, _, _, .non, r, q, _ => by cases r; cases q; exact ⟨_, .none⟩
  | _, _, _, _, .bl b, r, q, _ => by cases r; cases q; exact ⟨_, .bool b⟩
  | _, _, _, _, .int b, r, q, _ => by cases r; obtain ⟨t, rfl⟩ := q; exact ⟨_, .int b t⟩
  | _, _, _, _, .str b, r, q, _ => by cases r; obtain ⟨t, rfl⟩ := q; exact ⟨_, .str b t⟩
  | _, _, _, _, .lst h1 h2, r, q, hd => by
    obtain ⟨a, vs, rfl, sq, rv, _⟩ := lst_read w r h1
    cases q
    rw [← hK] at sq
    obtain ⟨its, r', ⟨o, n, ho, hc, _, hdt⟩, _⟩ := I.list sq
    obtain ⟨as, hr⟩ := pd_readsAll I hK w h2 rv r' (by simpa [PyData.hasDict] using hd)
    exact ⟨_, .list ho hc hdt hr⟩
  | _, _, _, _, .tup h2, r, q, hd => by
    obtain ⟨a, vs, rfl, sq, rv, _⟩ := tup_read w r rfl
    cases q
    obtain ⟨its, r', ⟨o, ho, hc, n, hdt⟩, _⟩ := I.tuple (.of sq)
    obtain ⟨as, hr⟩ := pd_readsAll I hK w h2 rv r' (by simpa [PyData.hasDict] using hd)
    exact ⟨_, .tuple ho hc hdt hr⟩
  | _, _, _, _, .dic _ _, _, _, hd => by simp [PyData.hasDict] at hd
theorem pd_readsAll (I : Inv X pins σ H s) (hK : X.K = G.K) (w : Wd G R ρ M H) : ∀ {l : List Va} {ds : List PyData} {vs : List V} {us : List Value}, PdRs M l ds → VRs G R ρ l vs → Vals vs us → PyData.hasDictAll ds = false → ∃ as, ReadsAll s.heap us ds as
  | _, _, _, _, .nil, r, q, _ => by cases r; cases q; exact ⟨_, .nil⟩
  | _, _, _, _, .cons h1 h2, r, q, hd => by
    cases r with
    | cons r1 r2 =>
      cases q with
      | cons q1 q2 =>
        obtain ⟨d1, d2⟩ := hasDict_of hd
        obtain ⟨as, e1⟩ := pd_reads I hK w h1 r1 q1 d1
        obtain ⟨bs, e2⟩ := pd_readsAll I hK w h2 r2 q2 d2
        exact ⟨_, .cons e1 e2⟩
end
end
/-- repr, of data without dicts -/
noncomputable def kRepr (l : List Va) (M : Store) : Res := match l with
  | [x] => (match pdOf M x with
    | some d => if d.showable = true ∧ d.hasDict = false ∧ d.shown.length ≤ sizeLine ∧ d.depth ≤ 60 then some (.val (.str d.shown), M) else none
    | none => none)
  | _ => none
def rRepr (G : Sig) : List V → Hp → VK → Prop := fun xs H Q => ∃ x R ρ M va d, xs = [x] ∧ Wd G R ρ M H ∧ VR G R ρ va x ∧ PdR M va d ∧ (d.showable = true ∧ d.hasDict = false ∧ d.shown.length ≤ sizeLine ∧ d.depth ≤ 60) ∧ Q (.str d.shown) H
theorem repr_leaf {prog : Program} {w : World} {A : Around} {E : Value → Shared → Prop} {s : Shared} {Q : Value → Shared → Prop} {u : Value} {d : PyData} {as : List Addr} (r : Reads s.heap u d as) (hs : d.showable = true) (hd : d.hasDict = false) (hz : d.shown.length ≤ sizeLine)
    (hg : A.guards = some []) (hu : A.units + (d.depth + 1) < cLine) (hQ : ∀ h' t tk, (∀ b o, s.heap.get? b = some o → h'.get? b = some o) → Q (.str d.shown t) { s with heap := h', toks := tk }) : wpAny (model prog w) A (call (.builtin "repr") [u]) Q E s := by
  cases r with
  | none => exact PySem.P.repr_of_none (hQ s.heap _ _ fun _ _ e => e)
  | bool b => exact PySem.P.repr_of_bool (hQ s.heap _ _ fun _ _ e => e)
  | int i t => exact PySem.P.repr_of_int (by simpa [PyData.showable] using hs) (hQ s.heap _ _ fun _ _ e => e)
  | str x t => exact PySem.P.repr_of_str (hQ s.heap _ _ fun _ _ e => e) hz
  | list h1 h2 h3 h4 => exact repr_of_reads' (.list h1 h2 h3 h4) hs (PyData.noDict_hsm hd) hg hu (fun _ _ e => e) hQ hz
  | tuple h1 h2 h3 h4 => exact repr_of_reads' (.tuple h1 h2 h3 h4) hs (PyData.noDict_hsm hd) hg hu (fun _ _ e => e) hQ hz
  | dict h1 h2 h3 h4 h5 => simp [PyData.hasDict] at hd
section
variable {X : Cx} {G : Sig}
theorem call_reprA {k : Nat} (hK : X.K = G.K) (hr : Room k X.A) (hg : X.A.guards = some []) : CallR X (.builtin "repr") (rRepr G) := by
  intro pins s σ H xs us Q I rv ⟨x, R, ρ, M, va, d, e, w, r, pd, ⟨h1, h2, h3, h4⟩, q⟩
  subst e
  obtain ⟨u, rfl, ru⟩ := vals1 rv
  obtain ⟨as, rd⟩ := pd_reads I hK w pd r ru h2
  have un := hr.units
  exact repr_leaf rd h1 h2 h3 hg (by omega) fun h' t tk kp => ⟨.str d.shown, H, I.kept (t' := tk) kp, ⟨t, rfl⟩, q⟩
theorem s_repr : OpL G (rRepr G) kRepr := by
  intro R ρ M H xs l Q E w rv p
  unfold kRepr at p
  split at p
  · cases rv with
    | cons r1 r2 =>
      cases r2
      split at p
      · rename_i d hd
        split at p
        · rename_i hc
          exact ⟨_, R, ρ, M, _, d, rfl, w, r1, pdOf_some hd, hc, gives_now w (.str _) p⟩
        · exact False.elim p
      · exact False.elim p
  · exact False.elim p
end
/-! ### == -/
noncomputable section
open Classical
def eqS : Va → Va → Option Bool
  | .non, .non => some true | .non, .int _ => some false | .int _, .non => some false | .non, .bl _ => some false | .bl _, .non => some false | .non, .str _ => some false | .str _, .non => some false
  | .int i, .int j => some (decide (i = j)) | .bl i, .bl j => some (decide (i = j)) | .str i, .str j => some (decide (i = j))
  | .int _, .str _ => some false | .str _, .int _ => some false | .bl _, .str _ => some false | .str _, .bl _ => some false
  | _, _ => none
def eqP (M : Store) (a b : Va) : Option Bool := match pdOf M a, pdOf M b with
  | some d, some e => if SeqAt.shaped d = true ∧ SeqAt.shaped e = true then some (PyData.eqv d e) else none
  | _, _ => none
def opEq (M : Store) (a b : Va) : Option Va := match eqS a b with
  | some k => some (.bl k)
  | none => (eqP M a b).map Va.bl
def opNe (M : Store) (a b : Va) : Option Va := match eqS a b with
  | some k => some (.bl (!k))
  | none => (eqP M a b).map fun k => Va.bl (!k)
end
def rEqA (G : Sig) (neg : Bool) : R2 := fun x y H Q => ∃ R ρ M va vb d e, Wd G R ρ M H ∧ VR G R ρ va x ∧ VR G R ρ vb y ∧ PdR M va d ∧ PdR M vb e ∧ SeqAt.shaped d = true ∧ SeqAt.shaped e = true ∧ Q (.bl (if neg then !PyData.eqv d e else PyData.eqv d e)) H
section
variable {X : Cx} {G : Sig}
theorem op_eqA {k : Nat} (hK : X.K = G.K) (hr : Room k X.A) : OpR X (compareOp .Eq) (rEqA G false) := by
  intro pins s σ H x y v u Q I rx ry ⟨R, ρ, M, va, vb, d, e, w, ra, rb, pd, pe, sd, se, q⟩
  have nd : ∀ {d : PyData}, SeqAt.shaped d = true → d.hasDict = false := fun h => PyData.hasDict_of_canLay _ (SeqAt.canLay_of_shaped h)
  obtain ⟨as, r1⟩ := pd_reads I hK w pd ra rx (nd sd)
  obtain ⟨bs, r2⟩ := pd_reads I hK w pe rb ry (nd se)
  exact SeqAt.compareEq_shaped r1 r2 sd se hr.units ⟨.bl _, H, I, rfl, q⟩
theorem op_neA {k : Nat} (hK : X.K = G.K) (hr : Room k X.A) : OpR X (compareOp .NotEq) (rEqA G true) := by
  intro pins s σ H x y v u Q I rx ry ⟨R, ρ, M, va, vb, d, e, w, ra, rb, pd, pe, sd, se, q⟩
  have nd : ∀ {d : PyData}, SeqAt.shaped d = true → d.hasDict = false := fun h => PyData.hasDict_of_canLay _ (SeqAt.canLay_of_shaped h)
  obtain ⟨as, r1⟩ := pd_reads I hK w pd ra rx (nd sd)
  obtain ⟨bs, r2⟩ := pd_reads I hK w pe rb ry (nd se)
  exact SeqAt.compareNe_shaped r1 r2 sd se hr.units ⟨.bl _, H, I, rfl, q⟩
theorem eqS_scal {R : Hp} {ρ : List Addr} {va vb : Va} {x y : V} {k : Bool} (ra : VR G R ρ va x) (rb : VR G R ρ vb y) (h : eqS va vb = some k) : scal x y = true ∧ k = decide (x = y) := by
  cases ra <;> cases rb <;> first
    | (cases h; done)
    | (cases h; exact ⟨rfl, by simp⟩)
theorem s_eq : Op2 G (fun x y H Q => rEq x y H Q ∨ rEqA G false x y H Q) opEq := by
  intro R ρ M H x y va vb res Q w ra rb h g
  unfold opEq at h
  cases e : eqS va vb with
  | some k =>
    rw [e] at h
    cases h
    obtain ⟨h1, rfl⟩ := eqS_scal ra rb e
    exact .inl ⟨h1, gives_now w (.bl _) g⟩
  | none =>
    rw [e] at h
    unfold eqP at h
    dsimp only at h
    cases h1 : pdOf M va with
    | none => rw [h1] at h; cases h
    | some d =>
      cases h2 : pdOf M vb with
      | none => rw [h1, h2] at h; cases h
      | some f =>
        rw [h1, h2] at h
        dsimp only at h
        split at h
        · rename_i hz; cases h
          exact .inr ⟨R, ρ, M, va, vb, d, f, w, ra, rb, pdOf_some h1, pdOf_some h2, hz.1, hz.2, gives_now w (.bl _) g⟩
        · cases h
theorem s_ne : Op2 G (fun x y H Q => rNe x y H Q ∨ rEqA G true x y H Q) opNe := by
  intro R ρ M H x y va vb res Q w ra rb h g
  unfold opNe at h
  cases e : eqS va vb with
  | some k =>
    rw [e] at h
    cases h
    obtain ⟨h1, rfl⟩ := eqS_scal ra rb e
    exact .inl ⟨h1, gives_now w (.bl _) g⟩
  | none =>
    rw [e] at h
    unfold eqP at h
    dsimp only at h
    cases h1 : pdOf M va with
    | none => rw [h1] at h; cases h
    | some d =>
      cases h2 : pdOf M vb with
      | none => rw [h1, h2] at h; cases h
      | some f =>
        rw [h1, h2] at h
        dsimp only at h
        split at h
        · rename_i hz; cases h
          exact .inr ⟨R, ρ, M, va, vb, d, f, w, ra, rb, pdOf_some h1, pdOf_some h2, hz.1, hz.2, gives_now w (.bl _) g⟩
        · cases h
end
/-! ### in, is None -/
def flatA : Va → Bool
  | .non => true
  | .bl _ => true
  | .int _ => true
  | .str _ => true
  | _ => false
def eqF : Va → Va → Bool
  | .non, .non => true
  | .bl a, .bl b => a == b
  | .bl a, .int b => (if a then 1 else 0) == b
  | .int a, .bl b => a == (if b then 1 else 0)
  | .int a, .int b => a == b
  | .str a, .str b => a == b
  | _, _ => false
def inA (x : Va) (xs : List Va) : Bool := xs.any fun y => eqF y x
def opIn (M : Store) (a b : Va) : Option Va := match a, b with
  | .str x, .str z => (match x.cps.toList with
    | [c] => some (.bl (decide (c ∈ z.cps.toList)))
    | _ => none)
  | a, b => match seqOf M b with
    | some l => if flatA a = true ∧ l.all flatA = true then some (.bl (inA a l)) else none
    | none => none
def opNotIn (M : Store) (a b : Va) : Option Va := match a, b with
  | .str x, .str z => (match x.cps.toList with
    | [c] => some (.bl (!decide (c ∈ z.cps.toList)))
    | _ => none)
  | a, b => match seqOf M b with
    | some l => if flatA a = true ∧ l.all flatA = true then some (.bl (!inA a l)) else none
    | none => none
def isNonA : Va → Bool
  | .non => true
  | _ => false
def opIsN (M : Store) (a b : Va) : Option Va := match b with
  | .non => some (.bl (isNonA a))
  | _ => none
def opNotN (M : Store) (a b : Va) : Option Va := match b with
  | .non => some (.bl (!isNonA a))
  | _ => none
abbrev rInS : R2 := fun x y H Q => ∃ (c : Nat) (z : Str), x = .str ⟨#[c]⟩ ∧ y = .str z ∧ Q (.bl (decide (c ∈ z.cps.toList))) H
abbrev rNotInS : R2 := fun x y H Q => ∃ (c : Nat) (z : Str), x = .str ⟨#[c]⟩ ∧ y = .str z ∧ Q (.bl (!decide (c ∈ z.cps.toList))) H
theorem one_sign {x : Str} {c : Nat} (h : x.cps.toList = [c]) : x = ⟨#[c]⟩ := by
  obtain ⟨a⟩ := x
  congr
  exact Array.toList_inj.mp h
section
variable {X : Cx} {G : Sig} {R : Hp} {ρ : List Addr} {M : Store} {H : Hp}
theorem flat_of {x : Va} {v : V} (r : VR G R ρ x v) (h : flatA x = true) : flatV v = true := by
  cases r <;> first | rfl | (cases h)
theorem flats_of : ∀ {l : List Va} {vs : List V}, VRs G R ρ l vs → l.all flatA = true → vs.all flatV = true
  | _, _, .nil, _ => rfl
  | _, _, .cons r t, h => by
    rw [List.all_cons, Bool.and_eq_true] at h ⊢
    exact ⟨flat_of r h.1, flats_of t h.2⟩
theorem eqF_of {x y : Va} {u v : V} (r : VR G R ρ x u) (q : VR G R ρ y v) : eqF x y = eqV u v := by
  cases r <;> cases q <;> rfl
theorem inA_of {x : Va} {v : V} (r : VR G R ρ x v) : ∀ {l : List Va} {vs : List V}, VRs G R ρ l vs → inA x l = inV v vs
  | _, _, .nil => rfl
  | _, _, .cons q t => by
    unfold inA inV
    rw [List.any_cons, List.any_cons, eqF_of q r]
    congr 1
    exact inA_of r t
theorem s_in (hK : X.K = G.K) : Op2 G (fun x y H Q => rInS x y H Q ∨ rIn X.K false x y H Q) opIn := by
  intro R ρ M H x y va vb res Q w ra rb h g
  unfold opIn at h
  split at h
  · cases ra; cases rb
    split at h
    · rename_i c hc
      cases h
      exact .inl ⟨c, _, by rw [one_sign hc], rfl, gives_now w (.bl _) g⟩
    · cases h
  · split at h
    · rename_i l hl
      split at h
      · rename_i hf
        cases h
        obtain ⟨a, vs, rfl, sq, rv, _⟩ := seq_read w rb hl
        refine .inr ⟨a, vs, rfl, by rw [hK]; exact sq, flat_of ra hf.1, flats_of rv hf.2, ?_⟩
        rw [← inA_of ra rv]
        exact gives_now w (.bl _) g
      · cases h
    · cases h
theorem s_notIn (hK : X.K = G.K) : Op2 G (fun x y H Q => rNotInS x y H Q ∨ rIn X.K true x y H Q) opNotIn := by
  intro R ρ M H x y va vb res Q w ra rb h g
  unfold opNotIn at h
  split at h
  · cases ra; cases rb
    split at h
    · rename_i c hc
      cases h
      exact .inl ⟨c, _, by rw [one_sign hc], rfl, gives_now w (.bl _) g⟩
    · cases h
  · split at h
    · rename_i l hl
      split at h
      · rename_i hf
        cases h
        obtain ⟨a, vs, rfl, sq, rv, _⟩ := seq_read w rb hl
        refine .inr ⟨a, vs, rfl, by rw [hK]; exact sq, flat_of ra hf.1, flats_of rv hf.2, ?_⟩
        rw [← inA_of ra rv]
        exact gives_now w (.bl _) g
      · cases h
    · cases h
theorem non_of {x : Va} {v : V} (r : VR G R ρ x v) : decide (v = .non) = isNonA x := by
  cases r <;> simp [isNonA]
theorem s_isN : Op2 G (fun x y H Q => y = .non ∧ Q (.bl (decide (x = .non))) H) opIsN := by
  intro R ρ M H x y va vb res Q w ra rb h g
  unfold opIsN at h
  split at h
  · cases h; cases rb
    refine ⟨rfl, ?_⟩
    rw [non_of ra]
    exact gives_now w (.bl _) g
  · cases h
theorem s_notN : Op2 G (fun x y H Q => y = .non ∧ Q (.bl (!decide (x = .non))) H) opNotN := by
  intro R ρ M H x y va vb res Q w ra rb h g
  unfold opNotN at h
  split at h
  · cases h; cases rb
    refine ⟨rfl, ?_⟩
    rw [non_of ra]
    exact gives_now w (.bl _) g
  · cases h
end

/-- x in xs, the items data of any depth -/
def pdList : PyData → Option (List PyData)
  | .list ds => some ds
  | _ => none
noncomputable def inP (M : Store) (a b : Va) : Option Bool := match pdOf M a, (pdOf M b).bind pdList with
  | some d, some ds => if SeqAt.shaped d = true ∧ SeqAt.shaped (.list ds) = true then some (ds.any fun z => PyData.eqv z d) else none
  | _, _ => none
noncomputable def opInD (M : Store) (a b : Va) : Option Va := match opIn M a b with
  | some r => some r
  | none => (inP M a b).map Va.bl
noncomputable def opNotInD (M : Store) (a b : Va) : Option Va := match opNotIn M a b with
  | some r => some r
  | none => (inP M a b).map fun k => Va.bl (!k)
def rInP (G : Sig) (neg : Bool) : R2 := fun x y H Q => ∃ R ρ M va vb d ds, Wd G R ρ M H ∧ VR G R ρ va x ∧ VR G R ρ vb y ∧ PdR M va d ∧ PdR M vb (.list ds) ∧ SeqAt.shaped d = true ∧ SeqAt.shaped (.list ds) = true ∧
  Q (.bl (if neg then !(ds.any fun z => PyData.eqv z d) else ds.any fun z => PyData.eqv z d)) H
section
variable {X : Cx} {G : Sig}
theorem room_shaped {A : Around} {d : PyData} {m : Nat} (h : SeqAt.shaped d = true) (hu : A.units + 65 < cLine) : A.units + 1 + min m d.depth < cLine := by
  have h1 := SeqAt.depth_of_shaped h
  have h2 : min m d.depth ≤ d.depth := Nat.min_le_right _ _
  omega
theorem op_inP {k : Nat} (hK : X.K = G.K) (hr : Room k X.A) : OpR X (compareOp .In) (rInP G false) := by
  intro pins s σ H x y v u Q I rx ry ⟨R, ρ, M, va, vb, d, ds, w, ra, rb, pd, pe, sd, se, q⟩
  have nd : ∀ {d : PyData}, SeqAt.shaped d = true → d.hasDict = false := fun h => PyData.hasDict_of_canLay _ (SeqAt.canLay_of_shaped h)
  obtain ⟨as, r1⟩ := pd_reads I hK w pd ra rx (nd sd)
  obtain ⟨bs, r2⟩ := pd_reads I hK w pe rb ry (nd se)
  have un := hr.un
  exact SeqAt.in_list_reads r2 r1 (SeqAt.canLay_of_shaped se) (SeqAt.canLay_of_shaped sd) (room_shaped sd (by omega)) ⟨.bl _, H, I, rfl, q⟩
theorem op_notInP {k : Nat} (hK : X.K = G.K) (hr : Room k X.A) : OpR X (compareOp .NotIn) (rInP G true) := by
  intro pins s σ H x y v u Q I rx ry ⟨R, ρ, M, va, vb, d, ds, w, ra, rb, pd, pe, sd, se, q⟩
  have nd : ∀ {d : PyData}, SeqAt.shaped d = true → d.hasDict = false := fun h => PyData.hasDict_of_canLay _ (SeqAt.canLay_of_shaped h)
  obtain ⟨as, r1⟩ := pd_reads I hK w pd ra rx (nd sd)
  obtain ⟨bs, r2⟩ := pd_reads I hK w pe rb ry (nd se)
  have un := hr.un
  exact SeqAt.notIn_list_reads r2 r1 (SeqAt.canLay_of_shaped se) (SeqAt.canLay_of_shaped sd) (room_shaped sd (by omega)) ⟨.bl _, H, I, rfl, q⟩
theorem inP_some {M : Store} {a b : Va} {k : Bool} (h : inP M a b = some k) : ∃ d ds, PdR M a d ∧ PdR M b (.list ds) ∧ SeqAt.shaped d = true ∧ SeqAt.shaped (.list ds) = true ∧ k = ds.any fun z => PyData.eqv z d := by
  unfold inP at h
  cases h1 : pdOf M a with
  | none => rw [h1] at h; cases h
  | some d =>
    cases h2 : pdOf M b with
    | none => rw [h1, h2] at h; cases h
    | some e =>
      rw [h1, h2] at h
      cases e <;> first | (cases h; done) | skip
      rename_i ds
      dsimp only [Option.bind, pdList] at h
      split at h
      · rename_i hz; cases h
        exact ⟨d, ds, pdOf_some h1, pdOf_some h2, hz.1, hz.2, rfl⟩
      · cases h
theorem s_inD (hK : X.K = G.K) : Op2 G (fun x y H Q => (rInS x y H Q ∨ rIn X.K false x y H Q) ∨ rInP G false x y H Q) opInD := by
  intro R ρ M H x y va vb res Q w ra rb h g
  unfold opInD at h
  split at h
  · rename_i r hr
    cases h
    exact .inl (s_in hK R ρ M H x y va vb _ Q w ra rb hr g)
  · cases q : inP M va vb with
    | none => rw [q] at h; cases h
    | some k =>
      rw [q] at h
      cases h
      obtain ⟨d, ds, h1, h2, h3, h4, rfl⟩ := inP_some q
      exact .inr ⟨R, ρ, M, va, vb, d, ds, w, ra, rb, h1, h2, h3, h4, gives_now w (.bl _) g⟩
theorem s_notInD (hK : X.K = G.K) : Op2 G (fun x y H Q => (rNotInS x y H Q ∨ rIn X.K true x y H Q) ∨ rInP G true x y H Q) opNotInD := by
  intro R ρ M H x y va vb res Q w ra rb h g
  unfold opNotInD at h
  split at h
  · rename_i r hr
    cases h
    exact .inl (s_notIn hK R ρ M H x y va vb _ Q w ra rb hr g)
  · cases q : inP M va vb with
    | none => rw [q] at h; cases h
    | some k =>
      rw [q] at h
      cases h
      obtain ⟨d, ds, h1, h2, h3, h4, rfl⟩ := inP_some q
      exact .inr ⟨R, ρ, M, va, vb, d, ds, w, ra, rb, h1, h2, h3, h4, gives_now w (.bl _) g⟩
end

/-! ### items, slices -/
def opIx (M : Store) (a b : Va) : Option Va := match b with
  | .int i => (match a with
    | .str z => if z.length ≤ sizeLine then (atI z.cps.toList i).map fun c => Va.str ⟨#[c]⟩ else none
    | a => match seqOf M a with
      | some l => atI l i
      | none => none)
  | _ => none
section
variable {X : Cx} {G : Sig} {R : Hp} {ρ : List Addr} {M : Store} {H : Hp}
theorem VRs.atI {l : List Va} {vs : List V} (r : VRs G R ρ l vs) {i : Int} {x : Va} (h : L2.atI l i = some x) : ∃ v, L2.atI vs i = some v ∧ VR G R ρ x v := by
  unfold L2.atI at h ⊢
  rw [← r.length]
  cases q : ixN l.length i with
  | none => rw [q] at h; cases h
  | some j =>
    rw [q] at h
    exact r.get h
theorem s_ix (hK : X.K = G.K) : Op2 G (rIx X.K) opIx := by
  intro R ρ M H x y va vb res Q w ra rb h g
  have lists : ∀ i, (match seqOf M va with | some l => L2.atI l i | none => none) = some res → y = .int i → rIx X.K x y H Q := fun i h e => by
    subst e
    split at h
    · rename_i l hl
      obtain ⟨a, vs, rfl, sq, rv, _⟩ := seq_read w ra hl
      obtain ⟨v, e, r⟩ := rv.atI h
      rw [← hK] at sq
      rcases sq with sq | sq
      · exact .inl ⟨a, vs, i, v, rfl, rfl, sq, e, gives_now w r g⟩
      · exact .inr (.inl ⟨a, vs, i, v, rfl, rfl, sq, e, gives_now w r g⟩)
    · cases h
  unfold opIx at h
  split at h
  · cases rb
    rename_i i
    split at h
    · rename_i z
      cases ra
      split at h
      · rename_i hz
        cases q : L2.atI z.cps.toList i with
        | none => rw [q] at h; cases h
        | some c =>
          rw [q] at h
          cases h
          exact .inr (.inr ⟨z, i, c, rfl, rfl, hz, q, gives_now w (.str _) g⟩)
      · cases h
    · exact lists i h rfl
  · cases h
end
/-- bounds of a slice -/
def evPart (e : Option SE) : SE := match e with
  | none => fun _ M => some (.val .non, M)
  | some e => e
def boundOf : Va → Option (Option Int)
  | .non => some none
  | .int i => some (some i)
  | _ => none
def cutA {α : Type} (l : List α) (lo hi : Option Int) : List α := (l.drop (HT.sIx l.length 0 lo)).take (HT.sIx l.length l.length hi - HT.sIx l.length 0 lo)
def opSl (M : Store) (x : Va) (lo hi : Option Int) : Option Va := match x with
  | .str z => if z.length ≤ sizeLine then some (.str (cutS z lo hi)) else none
  | x => match lstOf M x with
    | some l => some (.lst (cutA l lo hi))
    | none => none
def evSl (e l u : SE) : SE := fun s M => bindO (e s M) fun x M1 => bindO (l s M1) fun vl M2 => bindO (u s M2) fun vu M3 => match boundOf vl, boundOf vu with
  | some lo, some hi => (match opSl M3 x lo hi with
    | some r => some (.val r, M3)
    | none => none)
  | _, _ => none
def tO (G : Sig) (E : XK) (ev : SE) : TO := fun σ H Q => ∃ R ρ s M, Wd G R ρ M H ∧ SR G R ρ s σ ∧ match ev s M with
  | none => False
  | some (.val v, M1) => ∀ R' ρ' H' b, Ext R ρ H R' ρ' H' → Wd G R' ρ' M1 H' → boundOf v = some b → Q b H'
  | some (.exc c x, M1) => PostX G R ρ H M1 E c x
section
variable {X : Cx} {G : Sig} {E : XK} {R : Hp} {ρ : List Addr} {M : Store} {H : Hp} {a b c : Expr} {ea eb ec : SE} {pos p2 : Pos} {lo hi : Option Expr}
theorem qo_none : PO X none (tO G E (evC .non)) := ⟨fun pins s σ H Q I ⟨R, ρ, s', M, w, sr, p⟩ => po_none.run pins s σ H Q I (p R ρ H none Ext.refl w rfl)⟩
theorem VRs.cut {l : List Va} {vs : List V} (r : VRs G R ρ l vs) (lo hi : Option Int) : VRs G R ρ (cutA l lo hi) (cutV vs lo hi) := by
  unfold cutA cutV
  rw [r.length]
  exact (r.drop _).take _
theorem cutA_le {α : Type} (l : List α) (lo hi : Option Int) : (cutA l lo hi).length ≤ l.length := by
  unfold cutA
  rw [List.length_take, List.length_drop]
  omega
end
section
variable {X : Cx} {G : Sig} {E : XK} {H : Hp} {a : Expr} {ea el eu : SE} {pos p2 : Pos} {lo hi : Option Expr}
theorem qo_some (h : PE X a (tE G E ea)) : PO X (some a) (tO G E (fun s M => bindO (ea s M) fun v M1 => match v with | .int i => some (.val (.int i), M1) | _ => none)) :=
  ⟨fun pins s σ H Q I ⟨R, ρ, s', M, w, sr, p⟩ => (po_some h).run pins s σ H Q I (by
    refine ⟨R, ρ, s', M, w, sr, ?_⟩
    dsimp only at p
    rcases q : ea s' M with _ | ⟨x | ⟨c, x⟩, M1⟩ <;> rw [q] at p
    · exact p
    · cases x <;> first | exact False.elim p | skip
      intro R1 ρ1 H1 v e1 w1 r1
      cases r1
      exact ⟨_, rfl, p R1 ρ1 H1 _ e1 w1 rfl⟩
    · exact p)⟩
def evB (e : SE) : SE := fun s M => bindO (e s M) fun v M1 => match v with | .int i => some (.val (.int i), M1) | _ => none
theorem qo_b (h : PE X a (tE G E ea)) : PO X (some a) (tO G E (evB ea)) := qo_some h
theorem s_sl (hK : X.K = G.K) {R : Hp} {ρ : List Addr} {M : Store} {x : V} {va res : Va} {l u : Option Int} {Q : VK} (w : Wd G R ρ M H) (r : VR G R ρ va x) (h : opSl M va l u = some res) (g : Gives G R ρ H M res Q) : rSlL X.K x l u H Q ∨ rSlS x l u H Q := by
  have lists : (match lstOf M va with | some m => some (Va.lst (cutA m l u)) | none => none) = some res → rSlL X.K x l u H Q := fun h => by
    split at h
    · rename_i m hm
      cases h
      obtain ⟨a, vs, rfl, sq, rv, z⟩ := lst_read w r hm
      exact ⟨a, vs, rfl, by rw [hK]; exact sq, fun p hp => gives_lst w (rv.cut l u) (Nat.le_trans (cutA_le m l u) z) g hp⟩
    · cases h
  unfold opSl at h
  split at h
  · cases r
    split at h
    · rename_i hz; cases h
      exact .inr ⟨_, rfl, hz, gives_now w (.str _) g⟩
    · cases h
  · exact .inl (lists h)
theorem q_sl (hK : X.K = G.K) (ha : PE X a (tE G E ea)) (hl : PO X lo (tO G E el)) (hu : PO X hi (tO G E eu)) : PE X (.Subscript a (.Slice lo hi none p2) pos) (tE G E (evSl ea el eu)) :=
  pe_imp (pe_slice (sl_list.or sl_str) ha hl hu) fun σ H Q ⟨R, ρ, s, M, w, sr, p⟩ => stepE w sr p fun R1 ρ1 M1 H1 va v e1 w1 sr1 r1 p1 => by
    refine ⟨R1, ρ1, s, M1, w1, sr1, ?_⟩
    rcases q : el s M1 with _ | ⟨x | ⟨c, x⟩, M2⟩ <;> rw [q] at p1
    · exact p1
    · intro R2 ρ2 H2 b e2 w2 hb
      replace p1 := Post.ext e2 p1
      refine ⟨R2, ρ2, s, M2, w2, sr1.mono e2.gr, ?_⟩
      rw [bindO_val] at p1
      rcases q2 : eu s M2 with _ | ⟨y | ⟨c, y⟩, M3⟩ <;> rw [q2] at p1
      · exact p1
      · intro R3 ρ3 H3 b3 e3 w3 hb3
        replace p1 := Post.ext e3 p1
        rw [bindO_val] at p1
        rw [hb, hb3] at p1
        replace p1 : Post G R3 ρ3 H3 (match opSl M3 va b b3 with | some r => some (.val r, M3) | none => none) Q E := p1
        cases q4 : opSl M3 va b b3 with
        | none => rw [q4] at p1; exact False.elim p1
        | some res => rw [q4] at p1; exact s_sl hK w3 (r1.mono (e2.trans e3).gr) q4 p1
      · exact p1
    · exact p1
end
end PV

set_option Elab.async false
set_option linter.all false
set_option maxRecDepth 100000
set_option maxHeartbeats 4000000
namespace PV
open PySem L2

/-! ### lists of one kind -/
def intsOf : List Va → Option (List Int)
  | [] => some []
  | .int i :: r => (intsOf r).map (i :: ·)
  | _ :: _ => none
def strsOf : List Va → Option (List Str)
  | [] => some []
  | .str i :: r => (strsOf r).map (i :: ·)
  | _ :: _ => none
def blsOf : List Va → Option (List Bool)
  | [] => some []
  | .bl i :: r => (blsOf r).map (i :: ·)
  | _ :: _ => none
@[simp] theorem intsOf_map : ∀ ns : List Int, intsOf (ns.map Va.int) = some ns
  | [] => rfl
  | n :: ns => by simp [intsOf, intsOf_map ns]
@[simp] theorem strsOf_map : ∀ ns : List Str, strsOf (ns.map Va.str) = some ns
  | [] => rfl
  | n :: ns => by simp [strsOf, strsOf_map ns]
@[simp] theorem blsOf_map : ∀ ns : List Bool, blsOf (ns.map Va.bl) = some ns
  | [] => rfl
  | n :: ns => by simp [blsOf, blsOf_map ns]
section
variable {G : Sig} {R : Hp} {ρ : List Addr}
theorem ints_of : ∀ {l : List Va} {vs : List V} {ns : List Int}, VRs G R ρ l vs → intsOf l = some ns → vs = ns.map V.int
  | _, _, _, .nil, h => by cases h; rfl
  | _, _, _, .cons (x := x) r t, h => by
    cases x <;> first | (cases h; done) | skip
    cases r
    rename_i i
    unfold intsOf at h
    cases q : intsOf _ with
    | none => rw [q] at h; cases h
    | some m => rw [q] at h; cases h; rw [ints_of t q]; rfl
theorem strs_of : ∀ {l : List Va} {vs : List V} {ns : List Str}, VRs G R ρ l vs → strsOf l = some ns → vs = ns.map V.str
  | _, _, _, .nil, h => by cases h; rfl
  | _, _, _, .cons (x := x) r t, h => by
    cases x <;> first | (cases h; done) | skip
    cases r
    rename_i i
    unfold strsOf at h
    cases q : strsOf _ with
    | none => rw [q] at h; cases h
    | some m => rw [q] at h; cases h; rw [strs_of t q]; rfl
theorem bls_of : ∀ {l : List Va} {vs : List V} {ns : List Bool}, VRs G R ρ l vs → blsOf l = some ns → vs = ns.map V.bl
  | _, _, _, .nil, h => by cases h; rfl
  | _, _, _, .cons (x := x) r t, h => by
    cases x <;> first | (cases h; done) | skip
    cases r
    rename_i i
    unfold blsOf at h
    cases q : blsOf _ with
    | none => rw [q] at h; cases h
    | some m => rw [q] at h; cases h; rw [bls_of t q]; rfl
theorem VRs.strs : ∀ (ns : List Str), VRs G R ρ (ns.map Va.str) (ns.map V.str)
  | [] => .nil
  | n :: ns => .cons (.str n) (VRs.strs ns)
theorem lst_ints {M : Store} {H : Hp} {x : Va} {v : V} {l : List Va} {ns : List Int} (w : Wd G R ρ M H) (r : VR G R ρ x v) (h : lstOf M x = some l) (h2 : intsOf l = some ns) : ∃ a, v = .ref a ∧ SqL G.K H a (ns.map V.int) := by
  obtain ⟨a, vs, rfl, sq, rv, _⟩ := lst_read w r h
  rw [ints_of rv h2] at sq
  exact ⟨a, rfl, sq⟩
end
def maxL (n : Int) (ns : List Int) : Int := ns.foldl (fun m y => if y > m then y else m) n
def minL (n : Int) (ns : List Int) : Int := ns.foldl (fun m y => if y < m then y else m) n
theorem maxL_mem : ∀ (ns : List Int) (n : Int), maxL n ns ∈ n :: ns
  | [], n => by simp [maxL]
  | y :: ns, n => by
    have h := maxL_mem ns (if y > n then y else n)
    show maxL (if y > n then y else n) ns ∈ n :: y :: ns
    rcases List.mem_cons.mp h with h | h
    · rw [h]; split <;> simp
    · simp [h]
theorem maxL_le : ∀ (ns : List Int) (n : Int), ∀ y ∈ n :: ns, y ≤ maxL n ns
  | [], n, y, h => by simp [maxL] at h ⊢; omega
  | z :: ns, n, y, h => by
    show y ≤ maxL (if z > n then z else n) ns
    have hm : n ≤ (if z > n then z else n) ∧ z ≤ (if z > n then z else n) := by split <;> omega
    generalize (if z > n then z else n) = m at hm ⊢
    have ih := maxL_le ns m
    have h0 := ih m (by simp)
    rcases List.mem_cons.mp h with h | h
    · subst h; omega
    · rcases List.mem_cons.mp h with h | h
      · subst h; omega
      · exact ih y (by simp [h])
theorem minL_mem : ∀ (ns : List Int) (n : Int), minL n ns ∈ n :: ns
  | [], n => by simp [minL]
  | y :: ns, n => by
    have h := minL_mem ns (if y < n then y else n)
    show minL (if y < n then y else n) ns ∈ n :: y :: ns
    rcases List.mem_cons.mp h with h | h
    · rw [h]; split <;> simp
    · simp [h]
theorem minL_le : ∀ (ns : List Int) (n : Int), ∀ y ∈ n :: ns, minL n ns ≤ y
  | [], n, y, h => by simp [minL] at h ⊢; omega
  | z :: ns, n, y, h => by
    show minL (if z < n then z else n) ns ≤ y
    have hm : (if z < n then z else n) ≤ n ∧ (if z < n then z else n) ≤ z := by split <;> omega
    generalize (if z < n then z else n) = m at hm ⊢
    have ih := minL_le ns m
    have h0 := ih m (by simp)
    rcases List.mem_cons.mp h with h | h
    · subst h; omega
    · rcases List.mem_cons.mp h with h | h
      · subst h; omega
      · exact ih y (by simp [h])

/-! ### calls -/
def gLen (M : Store) : List Va → Option Va
  | [.str z] => if z.length ≤ sizeLine then some (.int z.length) else none
  | [x] => match seqOf M x with
    | some l => some (.int l.length)
    | none => (dicOf M x).map fun l => .int l.length
  | _ => none
def gMax (M : Store) : List Va → Option Va
  | [.int i, .int j] => some (.int (if j > i then j else i))
  | [x] => match lstOf M x with
    | some l => (match intsOf l with
      | some (n :: ns) => some (.int (maxL n ns))
      | _ => none)
    | none => none
  | _ => none
def gMin (M : Store) : List Va → Option Va
  | [.int i, .int j] => some (.int (if j < i then j else i))
  | [x] => match lstOf M x with
    | some l => (match intsOf l with
      | some (n :: ns) => some (.int (minL n ns))
      | _ => none)
    | none => none
  | _ => none
def gAbs (_ : Store) : List Va → Option Va
  | [.int i] => some (.int (if i < 0 then -i else i))
  | _ => none
def gInt (_ : Store) : List Va → Option Va
  | [.int i] => some (.int i)
  | [.bl k] => some (.int (if k then 1 else 0))
  | [.str a] => if a.length ≤ 640 then (PySem.intText? a).map Va.int else none
  | _ => none
def gStr (_ : Store) : List Va → Option Va
  | [.int i] => if i.natAbs.log2 < 1920 then some (.str (toString i)) else none
  | [.str a] => some (.str a)
  | _ => none
def gSum (M : Store) : List Va → Option Va
  | [x] => match lstOf M x with
    | some l => (intsOf l).map fun ns => .int ns.sum
    | none => none
  | _ => none
def gAll (M : Store) : List Va → Option Va
  | [x] => match lstOf M x with
    | some l => (blsOf l).map fun ns => .bl (ns.all id)
    | none => none
  | _ => none
def gAny (M : Store) : List Va → Option Va
  | [x] => match lstOf M x with
    | some l => (blsOf l).map fun ns => .bl (ns.any id)
    | none => none
  | _ => none
def gList (M : Store) : List Va → Option Va
  | [x] => (seqOf M x).map Va.lst
  | _ => none
def kList (l : List Va) (M : Store) : Res := match l with
  | [x] => (match seqOf M x with
    | some l => some (.val (.cel M.nx), M.new (.lst l))
    | none => none)
  | _ => none
section
variable {X : Cx} {G : Sig}
theorem pure_of {r : List V → Hp → VK → Prop} {g : Store → List Va → Option Va} (h : ∀ R ρ M H xs l res Q, Wd G R ρ M H → VRs G R ρ l xs → g M l = some res → Gives G R ρ H M res Q → r xs H Q) : OpL G r (kPure g) := fun R ρ M H xs l Q E w rv p => by
  unfold kPure at p
  cases q : g M l with
  | none => rw [q] at p; exact False.elim p
  | some res => rw [q] at p; exact h R ρ M H xs l res Q w rv q p
theorem one_of {R : Hp} {ρ : List Addr} {x : Va} {vs : List V} (r : VRs G R ρ [x] vs) : ∃ v, vs = [v] ∧ VR G R ρ x v := by
  cases r with
  | cons r t => cases t; exact ⟨_, rfl, r⟩
theorem two_of {R : Hp} {ρ : List Addr} {x y : Va} {vs : List V} (r : VRs G R ρ [x, y] vs) : ∃ v u, vs = [v, u] ∧ VR G R ρ x v ∧ VR G R ρ y u := by
  cases r with
  | cons r t =>
    obtain ⟨u, rfl, q⟩ := one_of t
    exact ⟨_, u, rfl, r, q⟩
abbrev rLenA (K : PySem.W.Frag) : List V → Hp → VK → Prop := fun xs H Q => (∃ p ys, xs = [.ref p] ∧ (SqL K H p ys ∨ SqT K H p ys) ∧ Q (.int ys.length) H) ∨ ((∃ z, xs = [.str z] ∧ z.length ≤ sizeLine ∧ Q (.int z.length) H) ∨ ∃ d kvs, xs = [.ref d] ∧ H d = some (.dK kvs) ∧ Q (.int kvs.length) H)
theorem s_len (hK : X.K = G.K) : OpL G (rLenA X.K) (kPure gLen) := pure_of fun R ρ M H xs l res Q w rv h g => by
  unfold gLen at h
  split at h
  · obtain ⟨v, rfl, r⟩ := one_of rv
    cases r
    split at h
    · rename_i hz; cases h
      exact .inr (.inl ⟨_, rfl, hz, gives_now w (.int _) g⟩)
    · cases h
  · obtain ⟨v, rfl, r⟩ := one_of rv
    split at h
    · rename_i l hl
      cases h
      obtain ⟨a, vs, rfl, sq, rv', _⟩ := seq_read w r hl
      refine .inl ⟨a, vs, rfl, by rw [hK]; exact sq, ?_⟩
      rw [← rv'.length]
      exact gives_now w (.int _) g
    · rename_i x _ _ _
      cases q : dicOf M x with
      | none => rw [q] at h; cases h
      | some l =>
        rw [q] at h
        cases h
        obtain ⟨a, vs, rfl, hd, rk, _⟩ := dic_read w r q
        refine .inr (.inr ⟨a, vs, rfl, hd, ?_⟩)
        rw [← rk.length]
        exact gives_now w (.int _) g
  · cases h
theorem s_max (hK : X.K = G.K) : OpL G (fun xs H Q => (∃ i j, xs = [.int i, .int j] ∧ Q (.int (if j > i then j else i)) H) ∨ rMax X.K xs H Q) (kPure gMax) := pure_of fun R ρ M H xs l res Q w rv h g => by
  unfold gMax at h
  split at h
  · obtain ⟨v, u, rfl, r, q⟩ := two_of rv
    cases r; cases q; cases h
    exact .inl ⟨_, _, rfl, gives_now w (.int _) g⟩
  · obtain ⟨v, rfl, r⟩ := one_of rv
    split at h
    · rename_i l hl
      split at h
      · rename_i n ns hn
        cases h
        obtain ⟨a, rfl, sq⟩ := lst_ints w r hl hn
        refine .inr ⟨a, n :: ns, rfl, by rw [hK]; exact sq, by simp, fun m h1 h2 => ?_⟩
        have e : m = maxL n ns := Int.le_antisymm (maxL_le ns n m h1) (h2 _ (maxL_mem ns n))
        rw [e]
        exact gives_now w (.int _) g
      · cases h
    · cases h
  · cases h
theorem s_min (hK : X.K = G.K) : OpL G (fun xs H Q => (∃ i j, xs = [.int i, .int j] ∧ Q (.int (if j < i then j else i)) H) ∨ rMin X.K xs H Q) (kPure gMin) := pure_of fun R ρ M H xs l res Q w rv h g => by
  unfold gMin at h
  split at h
  · obtain ⟨v, u, rfl, r, q⟩ := two_of rv
    cases r; cases q; cases h
    exact .inl ⟨_, _, rfl, gives_now w (.int _) g⟩
  · obtain ⟨v, rfl, r⟩ := one_of rv
    split at h
    · rename_i l hl
      split at h
      · rename_i n ns hn
        cases h
        obtain ⟨a, rfl, sq⟩ := lst_ints w r hl hn
        refine .inr ⟨a, n :: ns, rfl, by rw [hK]; exact sq, by simp, fun m h1 h2 => ?_⟩
        have e : m = minL n ns := Int.le_antisymm (h2 _ (minL_mem ns n)) (minL_le ns n m h1)
        rw [e]
        exact gives_now w (.int _) g
      · cases h
    · cases h
  · cases h
theorem s_abs : OpL G (fun xs H Q => ∃ i, xs = [.int i] ∧ Q (.int (if i < 0 then -i else i)) H) (kPure gAbs) := pure_of fun R ρ M H xs l res Q w rv h g => by
  unfold gAbs at h
  split at h
  · obtain ⟨v, rfl, r⟩ := one_of rv
    cases r; cases h
    exact ⟨_, rfl, gives_now w (.int _) g⟩
  · cases h
theorem s_int : OpL G (fun xs H Q => ((∃ i, xs = [.int i] ∧ Q (.int i) H) ∨ ∃ k, xs = [.bl k] ∧ Q (.int (if k then 1 else 0)) H) ∨ ∃ a n, xs = [.str a] ∧ PySem.intText? a = some n ∧ a.length ≤ 640 ∧ Q (.int n) H) (kPure gInt) := pure_of fun R ρ M H xs l res Q w rv h g => by
  unfold gInt at h
  split at h
  · obtain ⟨v, rfl, r⟩ := one_of rv
    cases r; cases h
    exact .inl (.inl ⟨_, rfl, gives_now w (.int _) g⟩)
  · obtain ⟨v, rfl, r⟩ := one_of rv
    cases r; cases h
    exact .inl (.inr ⟨_, rfl, gives_now w (.int _) g⟩)
  · obtain ⟨v, rfl, r⟩ := one_of rv
    cases r
    rename_i a
    split at h
    · rename_i hz
      cases q : PySem.intText? a with
      | none => rw [q] at h; cases h
      | some n =>
        rw [q] at h
        cases h
        exact .inr ⟨a, n, rfl, q, hz, gives_now w (.int _) g⟩
    · cases h
  · cases h
theorem s_str : OpL G (fun xs H Q => (∃ i, xs = [.int i] ∧ i.natAbs.log2 < 1920 ∧ Q (.str (toString i)) H) ∨ ∃ a, xs = [.str a] ∧ Q (.str a) H) (kPure gStr) := pure_of fun R ρ M H xs l res Q w rv h g => by
  unfold gStr at h
  split at h
  · obtain ⟨v, rfl, r⟩ := one_of rv
    cases r
    split at h
    · rename_i hz; cases h
      exact .inl ⟨_, rfl, hz, gives_now w (.str _) g⟩
    · cases h
  · obtain ⟨v, rfl, r⟩ := one_of rv
    cases r; cases h
    exact .inr ⟨_, rfl, gives_now w (.str _) g⟩
  · cases h
theorem s_sum (hK : X.K = G.K) : OpL G (rSum X.K) (kPure gSum) := pure_of fun R ρ M H xs l res Q w rv h g => by
  unfold gSum at h
  split at h
  · obtain ⟨v, rfl, r⟩ := one_of rv
    split at h
    · rename_i l hl
      cases q : intsOf l with
      | none => rw [q] at h; cases h
      | some ns =>
        rw [q] at h
        cases h
        obtain ⟨a, rfl, sq⟩ := lst_ints w r hl q
        exact ⟨a, ns, rfl, by rw [hK]; exact sq, gives_now w (.int _) g⟩
    · cases h
  · cases h
theorem s_all (hK : X.K = G.K) : OpL G (rAll X.K) (kPure gAll) := pure_of fun R ρ M H xs l res Q w rv h g => by
  unfold gAll at h
  split at h
  · obtain ⟨v, rfl, r⟩ := one_of rv
    split at h
    · rename_i l hl
      cases q : blsOf l with
      | none => rw [q] at h; cases h
      | some ns =>
        rw [q] at h
        cases h
        obtain ⟨a, vs, rfl, sq, rv', _⟩ := lst_read w r hl
        rw [bls_of rv' q] at sq
        exact ⟨a, ns, rfl, by rw [hK]; exact sq, gives_now w (.bl _) g⟩
    · cases h
  · cases h
theorem s_any (hK : X.K = G.K) : OpL G (rAny X.K) (kPure gAny) := pure_of fun R ρ M H xs l res Q w rv h g => by
  unfold gAny at h
  split at h
  · obtain ⟨v, rfl, r⟩ := one_of rv
    split at h
    · rename_i l hl
      cases q : blsOf l with
      | none => rw [q] at h; cases h
      | some ns =>
        rw [q] at h
        cases h
        obtain ⟨a, vs, rfl, sq, rv', _⟩ := lst_read w r hl
        rw [bls_of rv' q] at sq
        exact ⟨a, ns, rfl, by rw [hK]; exact sq, gives_now w (.bl _) g⟩
    · cases h
  · cases h
abbrev rListA (K : PySem.W.Frag) : List V → Hp → VK → Prop := fun xs H Q => ∃ p ys, xs = [.ref p] ∧ (SqL K H p ys ∨ SqT K H p ys) ∧ ∀ l, H l = none → Q (.ref l) (upd H l (.lst ys))
theorem s_listF (hK : X.K = G.K) : OpL G (rListA X.K) (kPure gList) := pure_of fun R ρ M H xs l res Q w rv h g => by
  unfold gList at h
  split at h
  · obtain ⟨v, rfl, r⟩ := one_of rv
    rename_i x
    cases q : seqOf M x with
    | none => rw [q] at h; cases h
    | some l =>
      rw [q] at h
      cases h
      obtain ⟨a, vs, rfl, sq, rv', z⟩ := seq_read w r q
      exact ⟨a, vs, rfl, by rw [hK]; exact sq, fun p hp => gives_lst w rv' z g hp⟩
  · cases h
theorem s_listC (hK : X.K = G.K) : OpL G (rListA X.K) kList := fun R ρ M H xs l Q E w rv p => by
  unfold kList at p
  split at p
  · obtain ⟨v, rfl, r⟩ := one_of rv
    split at p
    · rename_i l hl
      obtain ⟨a, vs, rfl, sq, rv', z⟩ := seq_read w r hl
      exact ⟨a, vs, rfl, by rw [hK]; exact sq, fun q hq => gives_new w rv' z p hq⟩
    · exact False.elim p
  · exact False.elim p
end

/-! ### methods of what is built in -/
def evM2 (ty : Store → Va → Bool) (k : Va → List Va → Store → Res) (eo ea : SE) : SE := fun s M => bindO (eo s M) fun o M1 => if ty M1 o = true then bindO (ea s M1) fun t M2 => match t with
  | .tup l => k o l M2
  | _ => none
  else none
def isStrA (_ : Store) : Va → Bool
  | .str _ => true
  | _ => false
def isLstA (M : Store) (x : Va) : Bool := (lstOf M x).isSome
def isDicA (M : Store) (x : Va) : Bool := (dicOf M x).isSome
def TyOk (G : Sig) (T : String) (ty : Store → Va → Bool) : Prop := ∀ R ρ M H x o, Wd G R ρ M H → VR G R ρ o x → ty M o = true → tyV G.K T x H
theorem tyStr {G : Sig} : TyOk G "str" isStrA := fun R ρ M H x o w r h => by
  cases r <;> first | (cases h; done) | rfl
theorem tyLst {G : Sig} : TyOk G "list" isLstA := fun R ρ M H x o w r h => by
  unfold isLstA at h
  cases q : lstOf M o with
  | none => rw [q] at h; cases h
  | some l =>
    obtain ⟨a, vs, rfl, sq, _⟩ := lst_read w r q
    exact .inl ⟨rfl, vs, sq⟩
theorem tyDic {G : Sig} : TyOk G "dict" isDicA := fun R ρ M H x o w r h => by
  unfold isDicA at h
  cases q : dicOf M o with
  | none => rw [q] at h; cases h
  | some l =>
    obtain ⟨a, vs, rfl, sq, _⟩ := dic_read w r q
    exact .inr (.inr (.inl ⟨rfl, .inl ⟨vs, sq⟩⟩))
section
variable {X : Cx} {G : Sig} {E : XK} {o e : Expr} {es : List Expr} {eo ea : SE} {name : Str} {apos cpos : Pos} {T id : String} {r : V → List V → Hp → VK → Prop} {ty : Store → Va → Bool} {k : Va → List Va → Store → Res}
theorem q_bm (hK : X.K = G.K) (pa : PlainAttrs T) (slot : Slot T name id) (hty : typeOf (.builtin id) = pure (.type "method_descriptor")) (hm : MtR X id r) (ht : TyOk G T ty) (hs : OpM G T r k) (ho : PE X o (tE G E eo)) (ha : PA X (e :: es) (tA G E ea))
    (hbase : attributeBase o name X.env (eval o X.env) = eval o X.env := by rfl)
    (hfew : ((backTo cpos (starEach (e :: es) X.env)).all (fun x => !x.1) && (backToKw cpos (keywordEach [] X.env)).all (fun x => x.1.isSome)
      && decide ((e :: es).length + ([] : List Keyword).length + (if ([] : List Keyword).isEmpty then 0 else 1) < 30)) = true := by rfl)
    (hline : (apos.endLine == cpos.line) = true := by rfl) (hst : starEach (e :: es) X.env = (false, eval e X.env) :: starEach es X.env := by rfl) (hplain : (backTo cpos (starEach es X.env)).any (·.1) = false := by rfl) :
    PE X (.Call (.Attribute o name apos) (e :: es) [] cpos) (tE G E (evM2 ty k eo ea)) :=
  pe_imp (pe_bm pa slot hty hm ho ha hbase hfew hline hst hplain) fun σ H Q ⟨R, ρ, s, M, w, sr, p⟩ => stepE w sr p fun R1 ρ1 M1 H1 va v e1 w1 sr1 r1 p1 => by
    split at p1
    · rename_i hh
      exact ⟨by rw [hK]; exact ht R1 ρ1 M1 H1 v va w1 r1 hh, stepA w1 sr1 p1 fun R2 ρ2 M2 H2 l vs e2 w2 sr2 r2 p2 => hs R2 ρ2 M2 H2 v vs va l Q E w2 (r1.mono e2.gr) r2 p2⟩
    · exact False.elim p1
theorem q_bm0 (hK : X.K = G.K) (pa : PlainAttrs T) (slot : Slot T name id) (hty : typeOf (.builtin id) = pure (.type "method_descriptor")) (hm : MtR X id r) (ht : TyOk G T ty) (hs : OpM G T r k) (ho : PE X o (tE G E eo))
    (hbase : attributeBase o name X.env (eval o X.env) = eval o X.env := by rfl) (hline : (apos.endLine == cpos.line) = true := by rfl) :
    PE X (.Call (.Attribute o name apos) [] [] cpos) (tE G E (evM2 ty k eo evNil)) :=
  pe_imp (pe_bm0 pa slot hty hm ho hbase hline) fun σ H Q ⟨R, ρ, s, M, w, sr, p⟩ => stepE w sr p fun R1 ρ1 M1 H1 va v e1 w1 sr1 r1 p1 => by
    split at p1
    · rename_i hh
      exact ⟨by rw [hK]; exact ht R1 ρ1 M1 H1 v va w1 r1 hh, hs R1 ρ1 M1 H1 v [] va [] Q E w1 r1 .nil p1⟩
    · exact False.elim p1
end
def kVal (g : Store → Va → List Va → Option Va) (o : Va) (l : List Va) (M : Store) : Res := match g M o l with
  | some r => some (.val r, M)
  | none => none
/-- a change of the cell -/
def kMut (g : Cell → List Va → Option (Cell × Va)) (o : Va) (l : List Va) (M : Store) : Res := match o with
  | .cel n => (match M.c n with
    | some c => (match g c l with
      | some (c', r) => some (.val r, M.put n c')
      | none => none)
    | none => none)
  | _ => none
def gJoin (M : Store) : Va → List Va → Option Va
  | .str a, [x] => (match seqOf M x with
    | some l => (match strsOf l with
      | some ys => if (ys.map (·.length)).sum + ys.length * a.length ≤ 16777216 then some (.str (Txt.join a ys)) else none
      | none => none)
    | none => none)
  | _, _ => none
def gSplit (_ : Store) : Va → List Va → Option Va
  | .str a, [.str b] => if (b.length == 0) = false ∧ a.length + 2 ≤ sizeLine then some (.lst ((Txt.split a b).map Va.str)) else none
  | _, _ => none
def gStarts (_ : Store) : Va → List Va → Option Va
  | .str a, [.str b] => some (.bl (Txt.startswith a b))
  | _, _ => none
def gEnds (_ : Store) : Va → List Va → Option Va
  | .str a, [.str b] => some (.bl (Txt.endswith a b))
  | _, _ => none
def gFind (_ : Store) : Va → List Va → Option Va
  | .str a, [.str b] => some (.int (Txt.find a b))
  | _, _ => none
def gPart (_ : Store) : Va → List Va → Option Va
  | .str a, [.str b] => if (b.length == 0) = false ∧ a.length ≤ sizeLine then some (.tup [.str (Txt.partition a b).1, .str (Txt.partition a b).2.1, .str (Txt.partition a b).2.2]) else none
  | _, _ => none
def cAppend : Cell → List Va → Option (Cell × Va)
  | .lst l, [y] => if l.length < sizeLine then some (.lst (l ++ [y]), .non) else none
  | _, _ => none
def cPop : Cell → List Va → Option (Cell × Va)
  | .lst l, [] => (match l[l.length - 1]? with
    | some y => some (.lst l.dropLast, y)
    | none => none)
  | _, _ => none
def cPopAt : Cell → List Va → Option (Cell × Va)
  | .lst l, [.int i] => if -(2 ^ 63) ≤ i ∧ i < 2 ^ 63 then (match seqIndex? i l.length with
    | some k => (match l[k]? with
      | some y => some (.lst (l.eraseIdx k), y)
      | none => none)
    | none => none) else none
  | _, _ => none
def cReverse : Cell → List Va → Option (Cell × Va)
  | .lst l, [] => some (.lst l.reverse, .non)
  | _, _ => none
def cClear : Cell → List Va → Option (Cell × Va)
  | .lst _, [] => some (.lst [], .non)
  | _, _ => none
section
variable {X : Cx} {G : Sig}
theorem val_of {T : String} {r : V → List V → Hp → VK → Prop} {g : Store → Va → List Va → Option Va} (h : ∀ R ρ M H x xs o l res Q, Wd G R ρ M H → VR G R ρ o x → VRs G R ρ l xs → g M o l = some res → Gives G R ρ H M res Q → r x xs H Q) : OpM G T r (kVal g) := fun R ρ M H x xs o l Q E w ro rv p => by
  unfold kVal at p
  cases q : g M o l with
  | none => rw [q] at p; exact False.elim p
  | some res => rw [q] at p; exact h R ρ M H x xs o l res Q w ro rv q p
theorem s_join (hK : X.K = G.K) : OpM G "str" (fun x xs H Q => ∃ a p, ∃ ys : List Str, x = .str a ∧ xs = [.ref p] ∧ (SqL X.K H p (ys.map V.str) ∨ SqT X.K H p (ys.map V.str)) ∧ (ys.map (·.length)).sum + ys.length * a.length ≤ 16777216 ∧ Q (.str (Txt.join a ys)) H) (kVal gJoin) :=
  val_of fun R ρ M H x xs o l res Q w ro rv h g => by
    unfold gJoin at h
    split at h
    · cases ro
      obtain ⟨v, rfl, r⟩ := one_of rv
      split at h
      · rename_i l hl
        split at h
        · rename_i ys hy
          split at h
          · rename_i hz; cases h
            obtain ⟨a, vs, rfl, sq, rv', _⟩ := seq_read w r hl
            rw [strs_of rv' hy] at sq
            exact ⟨_, a, ys, rfl, rfl, by rw [hK]; exact sq, hz, gives_now w (.str _) g⟩
          · cases h
        · cases h
      · cases h
    · cases h
theorem s_split : OpM G "str" (fun x xs H Q => ∃ a b, x = .str a ∧ xs = [.str b] ∧ (b.length == 0) = false ∧ a.length + 2 ≤ sizeLine ∧ rNewStrs (Txt.split a b) H Q) (kVal gSplit) :=
  val_of fun R ρ M H x xs o l res Q w ro rv h g => by
    unfold gSplit at h
    split at h
    · cases ro
      rename_i a b
      obtain ⟨v, rfl, r⟩ := one_of rv
      cases r
      split at h
      · rename_i hz; cases h
        refine ⟨a, b, rfl, rfl, hz.1, hz.2, fun p hp => gives_lst w (VRs.strs _) ?_ g hp⟩
        rw [List.length_map]
        exact Nat.le_trans (PyProof.Rows.split_le a b) hz.2
      · cases h
    · cases h
theorem s_starts : OpM G "str" (fun x xs H Q => ∃ a b, x = .str a ∧ xs = [.str b] ∧ Q (.bl (Txt.startswith a b)) H) (kVal gStarts) :=
  val_of fun R ρ M H x xs o l res Q w ro rv h g => by
    unfold gStarts at h
    split at h
    · cases ro
      obtain ⟨v, rfl, r⟩ := one_of rv
      cases r; cases h
      exact ⟨_, _, rfl, rfl, gives_now w (.bl _) g⟩
    · cases h
theorem s_ends : OpM G "str" (fun x xs H Q => ∃ a b, x = .str a ∧ xs = [.str b] ∧ Q (.bl (Txt.endswith a b)) H) (kVal gEnds) :=
  val_of fun R ρ M H x xs o l res Q w ro rv h g => by
    unfold gEnds at h
    split at h
    · cases ro
      obtain ⟨v, rfl, r⟩ := one_of rv
      cases r; cases h
      exact ⟨_, _, rfl, rfl, gives_now w (.bl _) g⟩
    · cases h
theorem s_find : OpM G "str" (fun x xs H Q => ∃ a b, x = .str a ∧ xs = [.str b] ∧ Q (.int (Txt.find a b)) H) (kVal gFind) :=
  val_of fun R ρ M H x xs o l res Q w ro rv h g => by
    unfold gFind at h
    split at h
    · cases ro
      obtain ⟨v, rfl, r⟩ := one_of rv
      cases r; cases h
      exact ⟨_, _, rfl, rfl, gives_now w (.int _) g⟩
    · cases h
theorem s_part : OpM G "str" (fun x xs H Q => ∃ a b, x = .str a ∧ xs = [.str b] ∧ (b.length == 0) = false ∧ a.length ≤ sizeLine ∧
    ∀ p, H p = none → Q (.ref p) (upd H p (.tup [.str (Txt.partition a b).1, .str (Txt.partition a b).2.1, .str (Txt.partition a b).2.2]))) (kVal gPart) :=
  val_of fun R ρ M H x xs o l res Q w ro rv h g => by
    unfold gPart at h
    split at h
    · cases ro
      obtain ⟨v, rfl, r⟩ := one_of rv
      cases r
      split at h
      · rename_i hz; cases h
        exact ⟨_, _, rfl, rfl, hz.1, hz.2, fun p hp => gives_tup w (.cons (.str _) (.cons (.str _) (.cons (.str _) .nil))) (by show 3 ≤ sizeLine; decide) g hp⟩
      · cases h
    · cases h
/-- a cell of a list changes -/
theorem mut_of {T : String} {r : V → List V → Hp → VK → Prop} {g : Cell → List Va → Option (Cell × Va)} (hg : ∀ c l c' y, g c l = some (c', y) → ∃ l0, c = .lst l0)
    (h : ∀ R ρ M H a vs l0 l xs l' y (Q : VK), Wd G R ρ M H → H a = some (.lst vs) → VRs G R ρ l0 vs → l0.length ≤ sizeLine → VRs G R ρ l xs → g (.lst l0) l = some (l', y) →
      (∀ vs' v, VR G R ρ y v → (∀ H', H' a = some (.lst vs') → CelR G R ρ H' a l') → Q v (upd H a (.lst vs'))) → r (.ref a) xs H Q) : OpM G T r (kMut g) := fun R ρ M H x xs o l Q E w ro rv p => by
  unfold kMut at p
  split at p
  · rename_i n
    split at p
    · rename_i c hc
      split at p
      · rename_i c' y hg'
        obtain ⟨l0, rfl⟩ := hg c l c' y hg'
        cases ro with
        | cel e =>
          obtain ⟨a, e1, ra, vs, ha, z, r0⟩ := w.cel n _ hc
          rw [e] at e1
          cases e1
          refine h R ρ M H _ vs l0 l xs c' y Q w ha r0 z rv hg' fun vs' v ry hc' => ?_
          obtain ⟨ex, wd⟩ := write_cel w hc e (hc' (upd H _ (.lst vs')) upd_same)
          exact p _ _ _ _ ex wd (ry.mono ex.gr)
      · exact False.elim p
    · exact False.elim p
  · exact False.elim p
theorem s_append : OpM G "list" rAppend (kMut cAppend) := mut_of (fun c l c' y h => by unfold cAppend at h; split at h; exact ⟨_, rfl⟩; cases h) fun R ρ M H a vs l0 l xs l' y Q w ha r0 z rv h k => by
  unfold cAppend at h
  split at h
  · rename_i l1 y1 e1
    cases e1
    obtain ⟨v, rfl, r⟩ := one_of rv
    split at h
    · rename_i hz; cases h
      exact ⟨a, vs, v, rfl, rfl, ha, by rw [← r0.length]; exact hz, k (vs ++ [v]) .non .non fun H' hH => ⟨_, hH, by simp; omega, r0.append (.cons r .nil)⟩⟩
    · cases h
  · cases h
theorem s_pop : OpM G "list" rPop (kMut cPop) := mut_of (fun c l c' y h => by unfold cPop at h; split at h; exact ⟨_, rfl⟩; cases h) fun R ρ M H a vs l0 l xs l' y Q w ha r0 z rv h k => by
  unfold cPop at h
  split at h
  · rename_i l1 e1
    cases e1
    cases rv
    split at h
    · rename_i y' hy
      cases h
      obtain ⟨v, hv, ry⟩ := r0.get hy
      exact ⟨a, vs, v, rfl, rfl, ha, by rw [← r0.length]; exact hv, k vs.dropLast v ry fun H' hH => ⟨_, hH, by rw [List.length_dropLast]; omega, r0.dropLast⟩⟩
    · cases h
  · cases h
theorem s_popAt : OpM G "list" rPopAt (kMut cPopAt) := mut_of (fun c l c' y h => by unfold cPopAt at h; split at h; exact ⟨_, rfl⟩; cases h) fun R ρ M H a vs l0 l xs l' y Q w ha r0 z rv h k => by
  unfold cPopAt at h
  split at h
  · rename_i l1 i e1
    cases e1
    obtain ⟨v, rfl, r⟩ := one_of rv
    cases r
    split at h
    · rename_i hz
      split at h
      · rename_i j hj
        split at h
        · rename_i y' hy
          cases h
          obtain ⟨v, hv, ry⟩ := r0.get hy
          exact ⟨a, vs, i, j, v, rfl, rfl, ha, hz.1, hz.2, by rw [← r0.length]; exact hj, hv, k (vs.eraseIdx j) v ry fun H' hH => ⟨_, hH, Nat.le_trans (List.length_eraseIdx_le ..) z, r0.eraseIdx j⟩⟩
        · cases h
      · cases h
    · cases h
  · cases h
theorem s_reverse : OpM G "list" rReverse (kMut cReverse) := mut_of (fun c l c' y h => by unfold cReverse at h; split at h; exact ⟨_, rfl⟩; cases h) fun R ρ M H a vs l0 l xs l' y Q w ha r0 z rv h k => by
  unfold cReverse at h
  split at h
  · rename_i l1 e1
    cases e1
    cases rv
    cases h
    exact ⟨a, vs, rfl, rfl, ha, k vs.reverse .non .non fun H' hH => ⟨_, hH, by rw [List.length_reverse]; exact z, r0.reverse⟩⟩
  · cases h
theorem s_clear : OpM G "list" rClear (kMut cClear) := mut_of (fun c l c' y h => by unfold cClear at h; split at h; exact ⟨_, rfl⟩; cases h) fun R ρ M H a vs l0 l xs l' y Q w ha r0 z rv h k => by
  unfold cClear at h
  split at h
  · rename_i l1 e1
    cases e1
    cases rv
    cases h
    exact ⟨a, vs, rfl, rfl, ha, k [] .non .non fun H' hH => ⟨_, hH, by simp, .nil⟩⟩
  · cases h
/-- xs[i] = v -/
def cSetAt (o i v : Va) (M : Store) : Option Store := match o, i with
  | .cel n, .int k => (match M.c n with
    | some (.lst l) => (match ixN l.length k with
      | some j => some (M.put n (.lst (l.set j v)))
      | none => none)
    | _ => none)
  | _, _ => none
theorem s_setAt : SubSim G rSetL cSetAt := fun R ρ M M' H o i x vo vi v k w ro ri rv h q => by
  unfold cSetAt at h
  split at h
  · rename_i n j
    cases ri
    split at h
    · rename_i l hc
      split at h
      · rename_i j' hj
        cases h
        cases ro with
        | cel e =>
          obtain ⟨a, e1, ra, vs, ha, z, r0⟩ := w.cel n _ hc
          rw [e] at e1
          cases e1
          obtain ⟨ex, wd⟩ := write_cel (o := .lst (vs.set j' x)) (y := .lst (l.set j' v)) w hc e ⟨_, upd_same, by rw [List.length_set]; exact z, r0.set rv j'⟩
          exact ⟨_, vs, j, j', rfl, rfl, ha, by rw [← r0.length]; exact hj, q _ ex wd⟩
      · cases h
    · cases h
  · cases h
end
end PV

set_option Elab.async false
set_option linter.all false
set_option maxRecDepth 100000
set_option maxHeartbeats 4000000
namespace PV
open PySem L2

section
variable {X : Cx} {G : Sig} {E : XK} {a b c tg : Expr} {es : List Expr} {ea eb ec : SE} {pos : Pos}
theorem chain_sim {r r' : R2} {g g' : Store → Va → Va → Option Va} (hs : Op2 G r g) (hs' : Op2 G r' g') {σ : L2.St} {H : Hp} {Q : VK} (h : tE G E (evChain g g' ea eb ec) σ H Q) : tChain r r' (tE G E ea) (tE G E eb) (tE G E ec) σ H Q := by
  obtain ⟨R, ρ, s, M, w, sr, p⟩ := h
  refine stepE w sr p fun R1 ρ1 M1 H1 va v e1 w1 sr1 r1 p1 => ?_
  refine stepE w1 sr1 p1 fun R2 ρ2 M2 H2 vb u e2 w2 sr2 r2 p2 => ?_
  cases q : g M2 va vb with
  | none => rw [q] at p2; exact False.elim p2
  | some res =>
    rw [q] at p2
    cases res <;> first | exact False.elim p2 | skip
    rename_i bb
    refine hs R2 ρ2 M2 H2 v u va vb _ _ w2 (r1.mono e2.gr) r2 q fun R3 ρ3 H3 z e3 w3 r3 => ?_
    cases r3
    refine ⟨bb, rfl, ?_⟩
    cases bb with
    | false => exact iteF (p2 R3 ρ3 H3 _ e3 w3 (.bl false))
    | true =>
      refine iteT ?_
      refine stepE w3 (sr2.mono e3.gr) (Post.ext e3 p2) fun R4 ρ4 M4 H4 vc t e4 w4 sr4 r4 p4 => ?_
      cases q4 : g' M4 vb vc with
      | none => rw [q4] at p4; exact False.elim p4
      | some res =>
        rw [q4] at p4
        cases res <;> first | exact False.elim p4 | skip
        exact hs' R4 ρ4 M4 H4 u t vb vc _ Q w4 (r2.mono (e3.trans e4).gr) r4 q4 p4
theorem q_chain {op op' : CmpOp} {r r' : R2} {g g' : Store → Va → Va → Option Va} (ho : OpR X (compareOp op) r) (hs : Op2 G r g) (ho' : OpR X (compareOp op') r') (hs' : Op2 G r' g') (ha : PE X a (tE G E ea)) (hb : PE X b (tE G E eb)) (hc : PE X c (tE G E ec))
    (hm : lastMarks [op, op'] [b, c] = false := by with_unfolding_all rfl) : PE X (.Compare a [op, op'] [b, c] pos) (tE G E (evChain g g' ea eb ec)) := pe_imp (pe_chain ho ho' ha hb hc hm) fun σ H Q h => chain_sim hs hs' h
theorem qt_chain {op op' : CmpOp} {r r' : R2} {g g' : Store → Va → Va → Option Va} (ho : OpR X (compareOp op) r) (hs : Op2 G r g) (ho' : OpR X (compareOp op') r') (hs' : Op2 G r' g') (ha : PE X a (tE G E ea)) (hb : PE X b (tE G E eb)) (hc : PE X c (tE G E ec))
    (hm : lastMarks [op, op'] [b, c] = false := by with_unfolding_all rfl) : PT X (.Compare a [op, op'] [b, c] pos) (tT G E (evChain g g' ea eb ec)) := pt_imp (pt_chain ho ho' ha hb hc hm) fun σ H Q h => chain_sim hs hs' (toT h)

/-! ### any source -/
theorem qi_str (ha : PE X a (tE G E ea)) : PI X tg a (tI G E (itS ea)) :=
  pi_imp (pi_str ha) fun σ H Q ⟨R, ρ, s, M, w, sr, p⟩ => by
    refine ⟨R, ρ, s, M, w, sr, ?_⟩
    unfold itS at p
    rcases q : ea s M with _ | ⟨x | ⟨c, x⟩, M1⟩ <;> rw [q] at p
    · exact p
    · cases x <;> first | exact False.elim p | skip
      rename_i z
      intro R1 ρ1 H1 v e1 w1 r1
      cases r1
      dsimp only at p
      by_cases hz : z.length ≤ sizeLine
      · rw [if_pos hz] at p
        refine ⟨z, rfl, p R1 ρ1 H1 _ e1 w1 (by rw [List.length_map]; exact hz) fun R2 ρ2 M2 H2 g2 w2 _ => ⟨fun i y hy => ?_, fun i hi => ?_⟩⟩
        · rw [List.getElem?_map] at hy
          cases q2 : z.cps.toList[i]? with
          | none => rw [q2] at hy; cases hy
          | some c =>
            rw [q2] at hy
            cases hy
            have hc : z.cps[i]? = some c := by rw [← Array.getElem?_toList]; exact q2
            refine ⟨(Array.getElem?_eq_some_iff.mp hc).1, fun v H' ⟨e3, c', hc', ev⟩ => ?_⟩
            rw [hc] at hc'
            cases hc'
            subst ev e3
            exact ⟨R2, Ext.refl, w2, .str _⟩
        · rw [List.length_map] at hi
          show z.cps.size ≤ i
          simpa using hi
      · rw [if_neg hz] at p; exact False.elim p
    · exact p
def itA (e : SE) : SI := fun s M => match e s M with
  | some (.val (.str _), _) => itS e s M
  | some (.val (.tup _), _) => itT e s M
  | _ => itL e s M
theorem qi_any (hK : X.K = G.K) (ha : PE X a (tE G E ea)) : PI X tg a (tI G E (itA ea)) :=
  ⟨fun pins s σ H k I ⟨R, ρ, s', M, w, sr, p⟩ => by
    unfold itA at p
    split at p
    · exact (qi_str ha).run pins s σ H k I ⟨R, ρ, s', M, w, sr, p⟩
    · exact (qi_tup hK ha).run pins s σ H k I ⟨R, ρ, s', M, w, sr, p⟩
    · exact (qi_list hK ha).run pins s σ H k I ⟨R, ρ, s', M, w, sr, p⟩⟩
end

/-! ### parts of a text, by places -/
def noE : Expr := .Constant .none 0 ⟨0, 0, 0, 0⟩
def noS : Stmt := .Pass ⟨0, 0, 0, 0⟩
/-- the i-th part of an expression -/
def eAt (i : Nat) : Expr → Expr
  | .BinOp a _ b _ => if i = 0 then a else b
  | .UnaryOp _ a _ => a
  | .BoolOp _ es _ => es.getD i noE
  | .Compare a _ es _ => if i = 0 then a else es.getD (i - 1) noE
  | .Call f es _ _ => if i = 0 then f else es.getD (i - 1) noE
  | .IfExp c a b _ => if i = 0 then c else if i = 1 then a else b
  | .Subscript a b _ => if i = 0 then a else b
  | .Slice a b _ _ => ((if i = 0 then a else b).getD noE)
  | .List es _ => es.getD i noE
  | .Tuple es _ _ => es.getD i noE
  | .Attribute a _ _ => a
  | .ListComp e gs _ _ => if i = 0 then e else if i = 1 then (match gs with | g :: _ => g.iter | [] => noE) else (match gs with | g :: _ => g.ifs.getD (i - 2) noE | [] => noE)
  | .DictComp k v gs _ _ => if i = 0 then k else if i = 1 then v else (match gs with | g :: _ => g.iter | [] => noE)
  | .Dict ks vs _ => vs.getD i noE
  | .FormattedValue e _ _ _ => e
  | .JoinedStr es _ => es.getD i noE
  | .Lambda _ e _ _ => e
  | e => e
/-- the keyword i of a call -/
def eKw (i : Nat) : Expr → Expr
  | .Call _ _ ks _ => (match ks[i]? with | some k => k.value | none => noE)
  | e => e
def eSc : Expr → Scope
  | .ListComp _ _ s _ => s
  | .DictComp _ _ _ s _ => s
  | .Lambda _ _ s _ => s
  | _ => defScope noS
/-- the i-th expression of a statement -/
def sEx (i : Nat) : Stmt → Expr
  | .Return (some e) _ => e
  | .Assign ts e _ => if i = 0 then e else ts.getD (i - 1) noE
  | .AugAssign t _ e _ => if i = 0 then e else t
  | .Expr e _ => e
  | .If c _ _ _ => c
  | .While c _ _ _ => c
  | .For t e _ _ _ => if i = 0 then e else t
  | .Raise (some e) _ _ => e
  | _ => noE
def sIn (k i : Nat) : Stmt → Stmt
  | .If _ a b _ => (if k = 0 then a else b).getD i noS
  | .While _ a b _ => (if k = 0 then a else b).getD i noS
  | .For _ _ a b _ => (if k = 0 then a else b).getD i noS
  | .Try a hs b c _ => (if k = 0 then a else if k = 1 then b else c).getD i noS
  | s => s
def sAt (i : Nat) (l : List Stmt) : Stmt := l.getD i noS

/-! ### built-in names -/
theorem bt_len : bootBuiltins "len" = some (.builtin "len") := by decide +kernel
theorem bt_max : bootBuiltins "max" = some (.builtin "max") := by decide +kernel
theorem bt_min : bootBuiltins "min" = some (.builtin "min") := by decide +kernel
theorem bt_abs : bootBuiltins "abs" = some (.builtin "abs") := by decide +kernel
theorem bt_sum : bootBuiltins "sum" = some (.builtin "sum") := by decide +kernel
theorem bt_all : bootBuiltins "all" = some (.builtin "all") := by decide +kernel
theorem bt_any : bootBuiltins "any" = some (.builtin "any") := by decide +kernel
theorem bt_repr : bootBuiltins "repr" = some (.builtin "repr") := by decide +kernel
theorem bt_sorted : bootBuiltins "sorted" = some (.builtin "sorted") := by decide +kernel
theorem bt_int : bootBuiltins "int" = some (.type "int") := by decide +kernel
theorem bt_str : bootBuiltins "str" = some (.type "str") := by decide +kernel
theorem bt_list : bootBuiltins "list" = some (.type "list") := by decide +kernel
theorem bt_dict : bootBuiltins "dict" = some (.type "dict") := by decide +kernel
end PV

set_option Elab.async false
set_option linter.all false
set_option maxRecDepth 100000
set_option maxHeartbeats 4000000
namespace PV
open PySem L2
open PyProof.Rows

/-- a def of the text that stands under its name, by value -/
structure Cal (P : Program) (w : World) (K : PySem.W.Frag) (mg : Str → Option Value) (base : Heap) (G : Sig) (x : Str) (lv n : Nat) (fM : FM) : Prop where
  ex : ∃ (f : Addr) (fd : FuncData) (ps : List Str), mg x = some (.ref f) ∧ PySem.W.keepIn K (.ref f) = true ∧ Binds K fd ps [] ∧ FnG P w K mg base CX0 lv f fd ps (spI G n fM)
section
variable {X : Cx} {G : Sig} {a : Expr} {es : List Expr} {ea : SE} {pos p' : Pos} {lv k n : Nat} {x : Str} {fM : FM}
theorem q_cal (C : Cal X.prog X.w X.K X.mg X.base G x lv n fM) (hr : Room k X.A) (hl : lv ≤ k) (hgd : X.A.guards = some []) (hg : Gl X x) (ha : PA X (a :: es) (tA G E0 ea)) (hdb : (x == ("__debug__" : Str)) = false := by decide)
    (he : starEach (a :: es) X.env = (false, eval a X.env) :: starEach es X.env := by rfl) (hpl : (backTo pos (starEach es X.env)).any (·.1) = false := by rfl) :
    PE X (.Call (.Name x p') (a :: es) [] pos) (tE G E0 (evL (kFn n fM) ea)) := by
  obtain ⟨f, fd, ps, hm, hk, hb, F⟩ := C.ex
  exact q_fn F (hr.mono hl) hgd hg hm hk hb ha hdb he hpl
theorem q_cal0 (C : Cal X.prog X.w X.K X.mg X.base G x lv 0 fM) (hr : Room k X.A) (hl : lv ≤ k) (hgd : X.A.guards = some []) (hg : Gl X x) (hdb : (x == ("__debug__" : Str)) = false := by decide) :
    PE X (.Call (.Name x p') [] [] pos) (tE G E0 (evL (kFn 0 fM) evNil)) := by
  obtain ⟨f, fd, ps, hm, hk, hb, F⟩ := C.ex
  exact q_fn0 F (hr.mono hl) hgd hg hm hk hb hdb
end
/-- a def's place in the text, its body by value: what callers know of it -/
theorem cal_of {P : Program} {w : World} {K : PySem.W.Frag} {mg : Str → Option Value} {base : Heap} {CA : Nat → Addr} {x : Str} {st : Stmt} {f : Addr} {fd : FuncData} {N ps : List Str} {k n N' : Nat} {es : SS} {c : FM} (F : Fun K x x st f fd) (S : FnScope N ps (defScope st)) (m : mg x = some (.ref f))
    (hb : Binds K fd ps []) (hn : ps.length = n) (hN : N.length = N') (hc : c = runF N' es)
    (body : ∀ (cdv : Value) (A : Around) (outer : List Env) (s : Shared) (H : Hp) (E : XK), Room k (A.deeper (envOfC x (defScope st) s.heap.objs.size f cdv)) → A.guards = some [] →
      PSs (cxOf CX0 P w K mg base N x (defScope st) f cdv A outer s H E).nox (defBody st) (tS ⟨K, CA⟩ E0 es)) : Cal P w K mg base ⟨K, CA⟩ x (k + 1) n c := by
  subst hn hN hc
  exact ⟨f, fd, ps, m, F.kp, hb, ok_fn F S body⟩
theorem okF {P : Program} {w : World} {K : PySem.W.Frag} {mg : Str → Option Value} {base : Heap} {CA : Nat → Addr} {x : Str} {st : Stmt} {f : Addr} {fd : FuncData} {N ps : List Str} {k n N' : Nat} {es : SS} {c : FM} (F : Fun K x x st f fd) (S : FnScope N ps (defScope st))
    (hn : ps.length = n) (hN : N.length = N') (hc : c = runF N' es)
    (body : ∀ (cdv : Value) (A : Around) (outer : List Env) (s : Shared) (H : Hp) (E : XK), Room k (A.deeper (envOfC x (defScope st) s.heap.objs.size f cdv)) → A.guards = some [] →
      PSs (cxOf CX0 P w K mg base N x (defScope st) f cdv A outer s H E).nox (defBody st) (tS ⟨K, CA⟩ E0 es)) : FnG P w K mg base CX0 (k + 1) f fd ps (spI ⟨K, CA⟩ n c) := by
  subst hn hN hc
  exact ok_fn F S body
theorem walkG {l : PySem.W.OpenLaw} {n k : Nat} {q : Program} {loose : List Str} {XP : (Str → Option Value) → Heap → Prop} {YP : World → Heap → Prop} {d : DefRec} {K : Params → PySem.W.Frag} {x : Str}
    (hn : l.most = some n) (hn2 : n ≤ sizeLine) (hdf : d.params.defaults = []) (hr : Room k callerA) (hY : ∀ (w : World) (h : Heap), YP w h → (K w.params).In h)
    (F : ∀ (w : World) (mg : Str → Option Value) (fa : Addr) (h : Heap), (K w.params).In h → h.Ns mainGlobals mg → mg d.name = some (.ref fa) →
      ∃ (fd : FuncData) (CA : Nat → Addr) (f : FM), (∀ (s : Shared) (u : Value), BindsTo s fd ⟨[u], []⟩ [(x, u)]) ∧
        (∀ base : Heap, (K w.params).In base → base.Ns mainGlobals mg → FnG l.prog w (K w.params) mg base CX0 k fa fd [x] (spI ⟨K w.params, CA⟩ 1 f)) ∧
        ∀ ns : List Int, ns.length ≤ n → ∃ M', f [.scr ns] ⟨fun _ => none, 0⟩ = some (.val (.bl true), M')) :
    PySem.W.WalkO q loose XP YP l.row.toRowW d [] (fun f vs => PySem.call f vs) := by
  refine Att.attach_call hn hdf fun w s₀ s mg mb fa o pm cd doc a vs ns G Y ho hd hcd hmg hobj hints hlen hg => ?_
  obtain ⟨fd, CA, f, hb, hF, hf⟩ := F w mg fa _ (hY w _ Y) G.T.g hmg
  obtain ⟨M', hm⟩ := hf ns hlen
  exact law_end (hY w _ Y) G.T.g G.T.b G.T.builtins G.T.nolimit hg hobj hints (Nat.le_trans hlen hn2) hr hF hb hm
end PV

set_option Elab.async false
set_option linter.all false
set_option maxRecDepth 100000
set_option maxHeartbeats 4000000
namespace PV
open PySem L2

/-! ### evaluation, as rewriting -/
section
variable {s : SL} {M : Store} {i j : Nat} {v va vb : Va} {ea eb ec : SE} {sa sb : SS}
@[simp] theorem x_c : evC v s M = some (.val v, M) := rfl
@[simp] theorem x_var0 {a : Option Va} : evVar 0 (a :: s) M = (match a with | some v => some (.val v, M) | none => none) := by cases a <;> rfl
@[simp] theorem x_varS {a : Option Va} : evVar (i + 1) (a :: s) M = evVar i s M := rfl
@[simp] theorem x_1 {g} : ev1 g ea s M = bindO (ea s M) fun va M1 => (match g M1 va with | some r => some (.val r, M1) | none => none) := rfl
@[simp] theorem x_2 {g} : ev2 g ea eb s M = bindO (ea s M) fun va M1 => bindO (eb s M1) fun vb M2 => (match g M2 va vb with | some r => some (.val r, M2) | none => none) := rfl
@[simp] theorem x_nil : evNil s M = some (.val (.tup []), M) := rfl
@[simp] theorem x_cons : evCons ea eb s M = bindO (ea s M) fun v M1 => bindO (eb s M1) fun t M2 => (match t with | .tup l => some (.val (.tup (v :: l)), M2) | _ => none) := rfl
@[simp] theorem x_L {k} : evL k ea s M = bindO (ea s M) fun t M1 => (match t with | .tup l => k l M1 | _ => none) := rfl
@[simp] theorem x_M2 {ty k} : evM2 ty k ea eb s M = bindO (ea s M) fun o M1 => if ty M1 o = true then bindO (eb s M1) fun t M2 => (match t with | .tup l => k o l M2 | _ => none) else none := rfl
@[simp] theorem x_if : evIf ec ea eb s M = bindO (ec s M) fun c M1 => (match c with | .bl true => ea s M1 | .bl false => eb s M1 | _ => none) := rfl
@[simp] theorem x_and : evAnd ea eb s M = bindO (ea s M) fun c M1 => (match c with | .bl true => eb s M1 | .bl false => some (.val (.bl false), M1) | _ => none) := rfl
@[simp] theorem x_or : evOr ea eb s M = bindO (ea s M) fun c M1 => (match c with | .bl true => some (.val (.bl true), M1) | .bl false => eb s M1 | _ => none) := rfl
@[simp] theorem x_not : evNot ea s M = bindO (ea s M) fun c M1 => (match c with | .bl b => some (.val (.bl (!b)), M1) | _ => none) := rfl
@[simp] theorem x_chain {g g'} : evChain g g' ea eb ec s M = bindO (ea s M) fun va M1 => bindO (eb s M1) fun vb M2 => (match g M2 va vb with
  | some (.bl true) => bindO (ec s M2) fun vc M3 => (match g' M3 vb vc with | some (.bl b) => some (.val (.bl b), M3) | _ => none)
  | some (.bl false) => some (.val (.bl false), M2)
  | _ => none) := rfl
@[simp] theorem x_tru : evTru ea s M = bindO (ea s M) fun va M1 => (match (truO M1 va).map Va.bl with | some r => some (.val r, M1) | none => none) := rfl
@[simp] theorem x_yes : evYes s M = some (.val (.bl true), M) := rfl
@[simp] theorem x_B : evB ea s M = bindO (ea s M) fun v M1 => (match v with | .int i => some (.val (.int i), M1) | _ => none) := rfl
@[simp] theorem x_sl : evSl ea eb ec s M = bindO (ea s M) fun x M1 => bindO (eb s M1) fun vl M2 => bindO (ec s M2) fun vu M3 => (match boundOf vl, boundOf vu with
  | some lo, some hi => (match opSl M3 x lo hi with | some r => some (.val r, M3) | none => none)
  | _, _ => none) := rfl
@[simp] theorem x_frz : evFrz ea s M = frzO (ea s M) := rfl
@[simp] theorem frz_none : frzO none = none := rfl
@[simp] theorem frz_exc {c x} : frzO (some (.exc c x, M)) = some (.exc c x, M) := rfl
@[simp] theorem frz_non : frzO (some (.val .non, M)) = some (.val .non, M) := rfl
@[simp] theorem frz_bl {b} : frzO (some (.val (.bl b), M)) = some (.val (.bl b), M) := rfl
@[simp] theorem frz_int {b} : frzO (some (.val (.int b), M)) = some (.val (.int b), M) := rfl
@[simp] theorem frz_str {b} : frzO (some (.val (.str b), M)) = some (.val (.str b), M) := rfl
@[simp] theorem frz_lst {b} : frzO (some (.val (.lst b), M)) = some (.val (.lst b), M) := rfl
@[simp] theorem frz_tup {b} : frzO (some (.val (.tup b), M)) = some (.val (.tup b), M) := rfl
@[simp] theorem frz_dic {b} : frzO (some (.val (.dic b), M)) = some (.val (.dic b), M) := rfl
@[simp] theorem frz_cel {n : Nat} : frzO (some (.val (.cel n), M)) = (match M.c n with
    | some (.lst l) => some (.val (.lst l), M.del n)
    | some (.dic l) => some (.val (.dic l), M.del n)
    | _ => some (.val (.cel n), M)) := rfl
@[simp] theorem x_sE {e k} : sE e k s M = (match e s M with | none => none | some (.val v, M1) => k v s M1 | some (.exc c v, M1) => some (.exc c v, s, M1)) := rfl
@[simp] theorem x_nx : sNx s M = some (.nx, s, M) := rfl
@[simp] theorem x_bk : sBk s M = some (.bk, s, M) := rfl
@[simp] theorem x_ct : sCt s M = some (.ct, s, M) := rfl
@[simp] theorem x_never : sNever s M = none := rfl
@[simp] theorem x_retN : sRetN s M = some (.ret .non, s, M) := rfl
@[simp] theorem x_ret {e} : sRet e s M = (match e s M with | none => none | some (.val v, M1) => some (.ret v, s, M1) | some (.exc c v, M1) => some (.exc c v, s, M1)) := rfl
@[simp] theorem x_set {e} : sSet i e s M = (match e s M with | none => none | some (.val v, M1) => some (.nx, s.set i (some v), M1) | some (.exc c v, M1) => some (.exc c v, s, M1)) := rfl
@[simp] theorem x_drop {e} : sDrop e s M = (match e s M with | none => none | some (.val v, M1) => some (.nx, s, M1) | some (.exc c v, M1) => some (.exc c v, s, M1)) := rfl
@[simp] theorem x_asg {e t} : sAsg e t s M = (match e s M with | none => none | some (.val v, M1) => (match t v s M1 with | some s1 => some (.nx, s1, M1) | none => none) | some (.exc c v, M1) => some (.exc c v, s, M1)) := rfl
@[simp] theorem x_sIf {t} : sIf t sa sb s M = (match t s M with | none => none | some (.val v, M1) => (match v with | .bl true => sa s M1 | .bl false => sb s M1 | _ => none) | some (.exc c v, M1) => some (.exc c v, s, M1)) := rfl
@[simp] theorem x_seq : sSeq sa sb s M = (match sa s M with | some (.nx, s1, M1) => sb s1 M1 | r => r) := rfl
@[simp] theorem x_sub {e eo ei g} : sSub e eo ei g s M = sE e (fun v s M => sE eo (fun o s M => sE ei (fun i s M => (match g o i v M with | some M1 => some (.nx, s, M1) | none => none)) s M) s M) s M := rfl
@[simp] theorem x_tgName : tgName i v s M = some (s.set i (some v)) := rfl
@[simp] theorem x_tgTup {ts} {l : List Va} : tgTup ts (.tup l) s M = tgAll ts l s M := rfl
@[simp] theorem x_tgNil : tgAll [] [] s M = some s := rfl
@[simp] theorem x_tgCons {t : Tgt} {ts : List Tgt} {l : List Va} : tgAll (t :: ts) (v :: l) s M = (match t v s M with | some s1 => tgAll ts l s1 M | none => none) := rfl
@[simp] theorem x_endNx : endF (some (.nx, s, M)) = some (.val .non, M) := rfl
@[simp] theorem x_endRet : endF (some (.ret v, s, M)) = some (.val v, M) := rfl
@[simp] theorem x_endNone : endF none = none := rfl
@[simp] theorem x_endExc {c} : endF (some (.exc c v, s, M)) = some (.exc c v, M) := rfl
@[simp] theorem x_kFn {n f} {l : List Va} : kFn n f l M = if l.length = n then f l M else none := rfl
@[simp] theorem x_kPure {g} {l : List Va} : kPure g l M = (match g M l with | some r => some (.val r, M) | none => none) := rfl
@[simp] theorem x_kVal {g} {l : List Va} : kVal g v l M = (match g M v l with | some r => some (.val r, M) | none => none) := rfl
@[simp] theorem x_kMut {g} {l : List Va} {n : Nat} : kMut g (.cel n) l M = (match M.c n with | some c => (match g c l with | some (c', r) => some (.val r, M.put n c') | none => none) | none => none) := rfl
@[simp] theorem x_tup {l : List Va} : kTup l M = if l.length ≤ sizeLine then some (.val (.tup l), M) else none := rfl
@[simp] theorem x_lst {l : List Va} : kLst l M = if l.length ≤ sizeLine then some (.val (.lst l), M) else none := rfl
@[simp] theorem x_new {l : List Va} : kNew l M = if l.length ≤ sizeLine then some (.val (.cel M.nx), M.new (.lst l)) else none := rfl
theorem le_line {n : Nat} (h : n ≤ 16777216) : n ≤ sizeLine := h
theorem lt_line {n : Nat} (h : n < 16777216) : n < sizeLine := h
@[simp] theorem line_eq : sizeLine = 16777216 := rfl

/-! ### the store -/
@[simp] theorem put_same {n : Nat} {x : Cell} : (M.put n x).c n = some x := by show (if n = n then some x else M.c n) = some x; rw [if_pos rfl]
theorem put_ne {n m : Nat} {x : Cell} (h : m ≠ n) : (M.put n x).c m = M.c m := by show (if m = n then some x else M.c m) = M.c m; rw [if_neg h]
@[simp] theorem put_nx {n : Nat} {x : Cell} : (M.put n x).nx = M.nx := rfl
@[simp] theorem put_put {n : Nat} {x y : Cell} : (M.put n x).put n y = M.put n y := by
  unfold Store.put
  congr 1
  funext m
  dsimp only
  split <;> rfl
@[simp] theorem new_same {x : Cell} : (M.new x).c M.nx = some x := by show (if M.nx = M.nx then some x else M.c M.nx) = some x; rw [if_pos rfl]
theorem new_ne {m : Nat} {x : Cell} (h : m ≠ M.nx) : (M.new x).c m = M.c m := by show (if m = M.nx then some x else M.c m) = M.c m; rw [if_neg h]
@[simp] theorem new_nx {x : Cell} : (M.new x).nx = M.nx + 1 := rfl
theorem del_ne {n m : Nat} (h : m ≠ n) : (M.del n).c m = M.c m := by show (if m = n then none else M.c m) = M.c m; rw [if_neg h]
@[simp] theorem del_nx {n : Nat} : (M.del n).nx = M.nx := rfl

/-! ### operations on known values -/
@[simp] theorem y_add {i j : Int} : opAdd M (.int i) (.int j) = some (.int (i + j)) := rfl
@[simp] theorem y_sub {i j : Int} : opSub M (.int i) (.int j) = some (.int (i - j)) := rfl
theorem y_addS {x y : Str} (h : x.length + y.length ≤ 16777216) : opAdd M (.str x) (.str y) = some (.str (x ++ y)) := if_pos h
theorem y_mulR {i j : Int} (h1 : -(2 ^ 64) < j) (h2 : j < 2 ^ 64) : opMul M (.int i) (.int j) = some (.int (i * j)) := if_pos (CMul.ok (.inr ⟨h1, h2⟩))
theorem y_mulL {i j : Int} (h1 : -(2 ^ 64) < i) (h2 : i < 2 ^ 64) : opMul M (.int i) (.int j) = some (.int (i * j)) := if_pos (CMul.ok (.inl ⟨h1, h2⟩))
theorem y_mulW {i j : Int} (h : CMulW i j) : opMul M (.int i) (.int j) = some (.int (i * j)) := if_pos h.ok
theorem y_div {i j : Int} (h : 0 < j) (h2 : j < 2 ^ 200) : opDiv M (.int i) (.int j) = some (.int (i / j)) := if_pos ⟨h, by
  have : j.natAbs < 2 ^ 200 := by
    have e : ((2 ^ 200 : Nat) : Int) = 2 ^ 200 := by norm_cast
    omega
  have := PySem.Flt.log2_lt_of (by decide) this
  omega⟩
theorem y_mulN {i j : Int} (h1 : 0 ≤ i) (h2 : i < 2 ^ 200) (h3 : 0 ≤ j) (h4 : j < 2 ^ 200) : opMul M (.int i) (.int j) = some (.int (i * j)) := by
  have e : ((2 ^ 200 : Nat) : Int) = 2 ^ 200 := by norm_cast
  exact y_mulW (wide_mul (a := 200) (b := 200) (by omega) (by omega) (by decide) (by decide) (by decide))
theorem y_pow {i j : Int} (h0 : 0 ≤ j) (h : j ≤ 1000) (h1 : -(2 ^ 64) < i) (h2 : i < 2 ^ 64) : opPow M (.int i) (.int j) = some (.int (i ^ j.toNat)) := if_pos ⟨h0, by
  have hb : Builtin.Int.intBits i ≤ 64 := by
    unfold Builtin.Int.intBits
    split
    · omega
    · have e : ((2 ^ 64 : Nat) : Int) = 2 ^ 64 := by norm_cast
      have := PySem.Flt.log2_lt_of (k := 64) (by decide) (show i.natAbs < 2 ^ 64 by omega)
      omega
  have : (Builtin.Int.intBits i : Int) * j ≤ 64 * 1000 := Int.mul_le_mul (by omega) h h0 (by omega)
  omega⟩
theorem y_pow3 {i : Int} (h1 : -(2 ^ 200) < i) (h2 : i < 2 ^ 200) : opPow M (.int i) (.int 3) = some (.int (i ^ 3)) := if_pos ⟨by decide, by
  have hb : Builtin.Int.intBits i ≤ 200 := by
    unfold Builtin.Int.intBits
    split
    · omega
    · have e : ((2 ^ 200 : Nat) : Int) = 2 ^ 200 := by norm_cast
      have := PySem.Flt.log2_lt_of (k := 200) (by decide) (show i.natAbs < 2 ^ 200 by omega)
      omega
  omega⟩
theorem y_mod {i j : Int} (h : 0 < j) : opMod M (.int i) (.int j) = some (.int (i % j)) := if_pos h
@[simp] theorem y_lt {i j : Int} : opLt M (.int i) (.int j) = some (.bl (decide (i < j))) := rfl
@[simp] theorem y_le {i j : Int} : opLe M (.int i) (.int j) = some (.bl (decide (i ≤ j))) := rfl
@[simp] theorem y_gt {i j : Int} : opGt M (.int i) (.int j) = some (.bl (decide (j < i))) := rfl
@[simp] theorem y_ge {i j : Int} : opGe M (.int i) (.int j) = some (.bl (decide (j ≤ i))) := rfl
@[simp] theorem y_eqI {i j : Int} : opEq M (.int i) (.int j) = some (.bl (decide (i = j))) := rfl
@[simp] theorem y_neI {i j : Int} : opNe M (.int i) (.int j) = some (.bl (!decide (i = j))) := rfl
@[simp] theorem y_eqS {i j : Str} : opEq M (.str i) (.str j) = some (.bl (decide (i = j))) := rfl
@[simp] theorem y_neS {i j : Str} : opNe M (.str i) (.str j) = some (.bl (!decide (i = j))) := rfl
@[simp] theorem y_eqB {i j : Bool} : opEq M (.bl i) (.bl j) = some (.bl (decide (i = j))) := rfl
@[simp] theorem y_isN : opIsN M v .non = some (.bl (isNonA v)) := rfl
@[simp] theorem y_notN : opNotN M v .non = some (.bl (!isNonA v)) := rfl
@[simp] theorem y_int {i : Int} : gInt M [.int i] = some (.int i) := rfl
@[simp] theorem y_intB {b : Bool} : gInt M [.bl b] = some (.int (if b then 1 else 0)) := rfl
@[simp] theorem y_max {i j : Int} : gMax M [.int i, .int j] = some (.int (if j > i then j else i)) := rfl
@[simp] theorem y_min {i j : Int} : gMin M [.int i, .int j] = some (.int (if j < i then j else i)) := rfl
@[simp] theorem y_abs {i : Int} : gAbs M [.int i] = some (.int (if i < 0 then -i else i)) := rfl
@[simp] theorem y_isStr {x : Str} : isStrA M (.str x) = true := rfl
@[simp] theorem y_truB {b : Bool} : truO M (.bl b) = some b := rfl
@[simp] theorem y_truI {i : Int} : truO M (.int i) = some (i != 0) := rfl
@[simp] theorem y_lstL {l : List Va} : lstOf M (.lst l) = some l := rfl
@[simp] theorem y_lstC {n : Nat} : lstOf M (.cel n) = (match M.c n with | some (.lst l) => some l | _ => none) := rfl
@[simp] theorem y_lstS {l : List Int} : lstOf M (.scr l) = some (l.map Va.int) := rfl
@[simp] theorem y_ownL {l : List Va} : ownOf M (.lst l) = some l := rfl
@[simp] theorem y_ownC {n : Nat} : ownOf M (.cel n) = (match M.c n with | some (.lst l) => some l | _ => none) := rfl
@[simp] theorem y_seqL {l : List Va} : seqOf M (.lst l) = some l := rfl
@[simp] theorem y_seqT {l : List Va} : seqOf M (.tup l) = some l := rfl
@[simp] theorem y_seqC {n : Nat} : seqOf M (.cel n) = (match M.c n with | some (.lst l) => some l | _ => none) := rfl
@[simp] theorem y_seqS {l : List Int} : seqOf M (.scr l) = some (l.map Va.int) := rfl
@[simp] theorem y_lenL {l : List Va} : gLen M [.lst l] = some (.int l.length) := rfl
@[simp] theorem y_lenT {l : List Va} : gLen M [.tup l] = some (.int l.length) := rfl
theorem y_lenS {z : Str} (h : z.length ≤ 16777216) : gLen M [.str z] = some (.int z.length) := if_pos h
theorem y_strI {i : Int} (h : i.natAbs.log2 < 1920) : gStr M [.int i] = some (.str (toString i)) := if_pos h
@[simp] theorem y_strS {i : Str} : gStr M [.str i] = some (.str i) := rfl
@[simp] theorem y_ixL {l : List Va} {i : Int} : opIx M (.lst l) (.int i) = atI l i := rfl
@[simp] theorem y_ixT {l : List Va} {i : Int} : opIx M (.tup l) (.int i) = atI l i := rfl
@[simp] theorem y_ixC {n : Nat} {i : Int} : opIx M (.cel n) (.int i) = (match (match M.c n with | some (.lst l) => some l | _ => none) with | some l => atI l i | none => none) := rfl
@[simp] theorem at_0 {α : Type} {a : α} {l : List α} : atI (a :: l) 0 = some a := by
  have e : ixN (a :: l).length 0 = some 0 := by unfold ixN; simp
  unfold atI; rw [e]; rfl
@[simp] theorem at_1 {α : Type} {a b : α} {l : List α} : atI (a :: b :: l) 1 = some b := by
  have e : ixN (a :: b :: l).length 1 = some 1 := by unfold ixN; simp; omega
  unfold atI; rw [e]; rfl
@[simp] theorem at_2 {α : Type} {a b c : α} {l : List α} : atI (a :: b :: c :: l) 2 = some c := by
  have e : ixN (a :: b :: c :: l).length 2 = some 2 := by unfold ixN; simp; omega
  unfold atI; rw [e]; rfl
theorem at_nat {α : Type} {l : List α} {i : Int} (h0 : 0 ≤ i) (h : i < l.length) : ∃ x, atI l i = some x ∧ x ∈ l ∧ l[i.toNat]? = some x := by
  have e : ixN l.length i = some i.toNat := by unfold ixN; rw [if_pos h0, if_pos h]
  have hl : i.toNat < l.length := by omega
  refine ⟨l[i.toNat], ?_, List.getElem_mem hl, by simp [hl]⟩
  unfold atI
  rw [e]
  simp [hl]
end
end PV

set_option Elab.async false
set_option linter.all false
set_option maxRecDepth 100000
set_option maxHeartbeats 4000000
namespace PV
open PySem L2

/-! ### comprehensions and loops, by invariants -/
inductive Al2 {α β : Type} (P : α → β → Prop) : List α → List β → Prop
  | nil : Al2 P [] []
  | cons {a : α} {b : β} {l : List α} {m : List β} : P a b → Al2 P l m → Al2 P (a :: l) (b :: m)
theorem Al2.len {α β : Type} {P : α → β → Prop} : ∀ {l : List α} {m : List β}, Al2 P l m → l.length = m.length
  | _, _, .nil => rfl
  | _, _, .cons _ t => by simp [t.len]
theorem Al2.all {α β : Type} {P : α → β → Prop} {Q : β → Prop} (h : ∀ a b, P a b → Q b) : ∀ {l : List α} {m : List β}, Al2 P l m → ∀ b ∈ m, Q b
  | _, _, .nil, _, hb => by cases hb
  | _, _, .cons p t, b, hb => by
    rcases List.mem_cons.mp hb with e | hb
    · subst e; exact h _ _ p
    · exact t.all h b hb
theorem compL_map {chk : Store → Prop} {tg : Tgt} {tt te : SE} {sw : SL} {M : Store} {α : Type} (enc f : α → Va) (hc : chk M) : ∀ (l : List α), (∀ x ∈ l, ∃ s1, tg (enc x) sw M = some s1 ∧ tt s1 M = some (.val (.bl true), M) ∧ te s1 M = some (.val (f x), M)) →
    compL chk tg tt te sw (l.map enc) M = some (l.map f, M)
  | [], _ => by
    show compL chk tg tt te sw [] M = _
    unfold compL
    rw [if_pos hc]; rfl
  | x :: l, h => by
    obtain ⟨s1, h1, h2, h3⟩ := h x (by simp)
    have ih := compL_map (tg := tg) (tt := tt) (te := te) (sw := sw) enc f hc l fun y hy => h y (by simp [hy])
    show compL chk tg tt te sw (enc x :: l.map enc) M = _
    unfold compL
    rw [if_pos hc, h1]
    dsimp only
    rw [h2]
    dsimp only
    rw [h3]
    dsimp only
    rw [ih]; rfl
theorem compL_filter {chk : Store → Prop} {tg : Tgt} {tt te : SE} {sw : SL} {M : Store} {α : Type} (enc f : α → Va) (p : α → Bool) (hc : chk M) : ∀ (l : List α), (∀ x ∈ l, ∃ s1, tg (enc x) sw M = some s1 ∧ tt s1 M = some (.val (.bl (p x)), M) ∧ (p x = true → te s1 M = some (.val (f x), M))) →
    compL chk tg tt te sw (l.map enc) M = some ((l.filter p).map f, M)
  | [], _ => by
    show compL chk tg tt te sw [] M = _
    unfold compL
    rw [if_pos hc]; rfl
  | x :: l, h => by
    obtain ⟨s1, h1, h2, h3⟩ := h x (by simp)
    have ih := compL_filter (tg := tg) (tt := tt) (te := te) (sw := sw) enc f p hc l fun y hy => h y (by simp [hy])
    show compL chk tg tt te sw (enc x :: l.map enc) M = _
    unfold compL
    rw [if_pos hc, h1]
    dsimp only
    rw [h2]
    cases q : p x with
    | true =>
      dsimp only
      rw [h3 q]
      dsimp only
      rw [ih, List.filter_cons_of_pos q]; rfl
    | false =>
      dsimp only
      rw [ih, List.filter_cons_of_neg (by simp [q])]
theorem compL_inv {chk : Store → Prop} {tg : Tgt} {tt te : SE} {sw : SL} (Inv : Nat → Store → Prop) (Good : Va → Va → Prop) (n : Nat) : ∀ (l : List Va) (i : Nat) (M : Store), i + l.length = n → Inv i M → (∀ i M, Inv i M → chk M) →
    (∀ i x M, i < n → x ∈ l → Inv i M → ∃ s1, tg x sw M = some s1 ∧ tt s1 M = some (.val (.bl true), M) ∧ ∃ y M', te s1 M = some (.val y, M') ∧ Good x y ∧ Inv (i + 1) M') →
    ∃ ys M', compL chk tg tt te sw l M = some (ys, M') ∧ Al2 Good l ys ∧ Inv n M'
  | [], i, M, hn, h, hc, _ => by
    refine ⟨[], M, ?_, .nil, by rw [← hn]; exact h⟩
    unfold compL
    rw [if_pos (hc i M h)]
  | x :: l, i, M, hn, h, hc, hs => by
    rw [List.length_cons] at hn
    obtain ⟨s1, h1, h2, y, M1, h3, gd, h4⟩ := hs i x M (by omega) (by simp) h
    obtain ⟨ys, M2, e, a, hi⟩ := compL_inv (tg := tg) (tt := tt) (te := te) (sw := sw) Inv Good n l (i + 1) M1 (by omega) h4 hc fun j z N hj hz => hs j z N hj (by simp [hz])
    refine ⟨y :: ys, M2, ?_, .cons gd a, hi⟩
    unfold compL
    rw [if_pos (hc i M h), h1]
    dsimp only
    rw [h2]
    dsimp only
    rw [h3]
    dsimp only
    rw [e]
theorem loopF_inv {chk : Store → Prop} {tg : Tgt} {body : SS} (Inv : List Va → SL → Store → Prop) (Post : RS → Prop)
    (step : ∀ x xs s M, Inv (x :: xs) s M → chk M ∧ ∃ s1, tg x s M = some s1 ∧ match body s1 M with
      | some (.nx, s2, M2) => Inv xs s2 M2
      | some (.ct, s2, M2) => Inv xs s2 M2
      | some (.bk, s2, M2) => Post (some (.nx, s2, M2))
      | r => Post r)
    (done : ∀ s M, Inv [] s M → chk M ∧ Post (some (.nx, s, M))) : ∀ (l : List Va) (s : SL) (M : Store), Inv l s M → Post (loopF chk tg body l s M)
  | [], s, M, h => by
    obtain ⟨h1, h2⟩ := done s M h
    unfold loopF
    rw [if_pos h1]
    exact h2
  | x :: l, s, M, h => by
    obtain ⟨h1, s1, h2, h3⟩ := step x l s M h
    unfold loopF
    rw [if_pos h1, h2]
    dsimp only
    rcases q : body s1 M with _ | ⟨_ | v | _ | _ | ⟨c, v⟩, s2, M2⟩ <;> rw [q] at h3
    · exact h3
    · exact loopF_inv Inv Post step done l s2 M2 h3
    · exact h3
    · exact h3
    · exact loopF_inv Inv Post step done l s2 M2 h3
    · exact h3

/-! ### what is walked -/
section
variable {s : SL} {M : Store}
@[simp] theorem z_for {src tg body} : sFor src tg body s M = (match src s M with
  | none => none
  | some (.it l chk, M1) => loopF chk tg body l s M1
  | some (.exc c v, M1) => some (.exc c v, s, M1)) := rfl
@[simp] theorem z_lc {src tg tt te vs} : evLc src tg tt te vs s M = (match src s M with
  | none => none
  | some (.it l chk, M1) => (match compL chk tg tt te (wipeI s vs) l M1 with
    | some (ys, M2) => some (.val (.lst ys), M2)
    | none => none)
  | some (.exc c v, M1) => some (.exc c v, M1)) := rfl
@[simp] theorem z_lcC {src tg tt te vs} : evLcC src tg tt te vs s M = (match src s M with
  | none => none
  | some (.it l chk, M1) => (match compL chk tg tt te (wipeI s vs) l M1 with
    | some (ys, M2) => some (.val (.cel M2.nx), M2.new (.lst ys))
    | none => none)
  | some (.exc c v, M1) => some (.exc c v, M1)) := rfl
theorem z_itL {e : SE} {l : List Va} {M1 : Store} (h : e s M = some (.val (.lst l), M1)) : itA e s M = some (.it l (fun _ => some l = some l), M1) := by
  unfold itA itL
  rw [h]; rfl
theorem z_itC {e : SE} {l : List Va} {n : Nat} {M1 : Store} (h : e s M = some (.val (.cel n), M1)) (h2 : M1.c n = some (.lst l)) : itA e s M = some (.it l (fun M => lstOf M (.cel n) = some l), M1) := by
  unfold itA itL
  rw [h]
  dsimp only
  rw [y_lstC, h2]
theorem z_itT {e : SE} {l : List Va} {M1 : Store} (h : e s M = some (.val (.tup l), M1)) : itA e s M = some (.it l (fun _ => True), M1) := by
  unfold itA itT
  rw [h]; rfl
theorem z_itS {e : SE} {z : Str} {M1 : Store} (h : e s M = some (.val (.str z), M1)) (hz : z.length ≤ 16777216) : itA e s M = some (.it (z.cps.toList.map fun c => Va.str ⟨#[c]⟩) (fun _ => True), M1) := by
  unfold itA itS
  rw [h]
  exact if_pos hz
theorem z_r1 {e : SE} {n : Int} {M1 : Store} (h : e s M = some (.val (.tup [.int n]), M1)) (h1 : n ≤ 100000) (h2 : -(2 ^ 62) ≤ n) : itR1 e s M = some (.it ((List.range n.toNat).map fun (i : Nat) => Va.int i) (fun _ => True), M1) := by
  unfold itR1
  rw [h]
  dsimp only
  rw [if_pos ⟨h1, h2⟩]
def rngO (r : Res) : Option (OutI × Store) := match r with
  | some (.val (.tup [.int n]), M1) => if n ≤ 100000 ∧ -(2 ^ 62) ≤ n then some (.it ((List.range n.toNat).map fun (i : Nat) => Va.int i) (fun _ => True), M1) else none
  | some (.exc c v, M1) => some (.exc c v, M1)
  | _ => none
@[simp] theorem z_itR1 {e : SE} : itR1 e s M = rngO (e s M) := rfl
theorem z_rng {n : Int} (h1 : n ≤ 100000) (h2 : -(2 ^ 62) ≤ n) : rngO (some (.val (.tup [.int n]), M)) = some (.it ((List.range n.toNat).map fun (i : Nat) => Va.int i) (fun _ => True), M) := if_pos ⟨h1, h2⟩
def anyO (r : Res) : Option (OutI × Store) := match r with
  | some (.val (.str z), M1) => if z.length ≤ sizeLine then some (.it (z.cps.toList.map fun c => Va.str ⟨#[c]⟩) (fun _ => True), M1) else none
  | some (.val (.tup l), M1) => some (.it l (fun _ => True), M1)
  | some (.val (.lst l), M1) => some (.it l (fun _ => True), M1)
  | some (.val (.scr l), M1) => some (.it (l.map Va.int) (fun _ => True), M1)
  | some (.val (.cel n), M1) => (match M1.c n with
    | some (.lst l) => some (.it l (fun M => lstOf M (.cel n) = some l), M1)
    | _ => none)
  | some (.exc c v, M1) => some (.exc c v, M1)
  | _ => none
@[simp] theorem z_itA {e : SE} : itA e s M = anyO (e s M) := by
  unfold itA itS itT itL
  rcases q : e s M with _ | ⟨x | ⟨c, x⟩, M1⟩
  · rfl
  · cases x <;> simp [anyO, tupOf, lstOf]
    rename_i n
    rcases M1.c n with _ | _ | _ | _ <;> rfl
  · rfl
@[simp] theorem z_anyL {l : List Va} : anyO (some (.val (.lst l), M)) = some (.it l (fun _ => True), M) := rfl
@[simp] theorem z_anyT {l : List Va} : anyO (some (.val (.tup l), M)) = some (.it l (fun _ => True), M) := rfl
@[simp] theorem z_anyI {l : List Int} : anyO (some (.val (.scr l), M)) = some (.it (l.map Va.int) (fun _ => True), M) := rfl
@[simp] theorem z_anyC {n : Nat} : anyO (some (.val (.cel n), M)) = (match M.c n with
    | some (.lst l) => some (.it l (fun M => lstOf M (.cel n) = some l), M)
    | _ => none) := rfl
theorem z_anyS {z : Str} (h : z.length ≤ 16777216) : anyO (some (.val (.str z), M)) = some (.it (z.cps.toList.map fun c => Va.str ⟨#[c]⟩) (fun _ => True), M) := if_pos h
@[simp] theorem z_wipe0 : wipeI s [] = s := rfl
@[simp] theorem z_wipeS {v : Nat} {vs : List Nat} : wipeI s (v :: vs) = (wipeI s vs).set v none := rfl
end

/-! ### texts as lists of signs -/
abbrev tl (x : Str) : List Nat := x.cps.toList
theorem tl_len (x : Str) : x.length = (tl x).length := by simp [tl, Str.length]
theorem tl_ext {x y : Str} (h : tl x = tl y) : x = y := TL.ext_tl h
theorem len_app (x y : Str) : (x ++ y).length = x.length + y.length := by
  rw [tl_len, tl_len, tl_len, show tl (x ++ y) = tl x ++ tl y from TL.tl_append x y, List.length_append]

/-! ### repr -/
theorem repr_of {M : Store} {x : Va} {d : PyData} (h : PdR M x d) (h1 : d.showable = true) (h2 : d.hasDict = false) (h3 : d.shown.length ≤ 16777216) (h4 : d.depth ≤ 60) : kRepr [x] M = some (.val (.str d.shown), M) := by
  unfold kRepr
  dsimp only
  rw [pdOf_eq h]
  dsimp only
  rw [if_pos ⟨h1, h2, h3, h4⟩]
theorem shown_ok {d : PyData} {B W : Nat} (hB : 8 ≤ B) (hl : d.leavesShort B = true) (hw : d.weight ≤ W) (h : (B + 2) * W + B ≤ 16777216) : d.shown.length ≤ 16777216 := by
  have h1 := PyData.shown_le B hB d hl
  have h2 : (B + 2) * d.weight ≤ (B + 2) * W := Nat.mul_le_mul_left _ hw
  omega
end PV

set_option Elab.async false
set_option linter.all false
set_option maxRecDepth 100000
set_option maxHeartbeats 4000000
namespace PV
open PySem L2

/-! ### texts: numbers, pieces -/
def nmS (n : Int) : Str := Str.ofString (toString n)
theorem y_strN {M : Store} {i : Int} (h : i.natAbs.log2 < 1920) : gStr M [.int i] = some (.str (nmS i)) := if_pos h
theorem nm_tl (n : Int) : tl (nmS n) = if n < 0 then 45 :: TL.numL n.natAbs else TL.numL n.natAbs := by
  cases n with
  | ofNat m =>
    rw [if_neg (show ¬ Int.ofNat m < 0 from Int.not_lt.mpr (Int.natCast_nonneg m))]
    exact TL.tl_num m
  | negSucc m =>
    rw [if_pos (Int.negSucc_lt_zero m)]
    have e : toString (Int.negSucc m) = "-" ++ toString (m + 1) := rfl
    have e2 : toString (m + 1) = toString (((m + 1 : Nat) : Int)) := rfl
    show TL.tl (Str.ofString (toString (Int.negSucc m))) = _
    rw [e, TL.tl_ofString, String.toList_append, List.map_append, ← TL.tl_ofString (toString (m + 1)), e2, TL.tl_num]
    rfl
theorem nm_digits {n : Int} {c : Nat} (h : c ∈ tl (nmS n)) : c = 45 ∨ (48 ≤ c ∧ c ≤ 57) := by
  rw [nm_tl] at h
  split at h
  · rcases List.mem_cons.mp h with h | h
    · exact .inl h
    · exact .inr (TL.numL_digits _ c h)
  · exact .inr (TL.numL_digits _ c h)
theorem numL_head : ∀ (n : Nat), (TL.numL n).head? = some 48 → n = 0 := by
  intro n
  induction n using Nat.strongRecOn with
  | _ n ih =>
    intro h
    by_cases hn : n < 10
    · rw [TL.numL_lt hn] at h
      simp at h
      omega
    · have q := TL.numL_ne (n / 10)
      rw [TL.numL_step (by omega)] at h
      have : (TL.numL (n / 10)).head? = some 48 := by
        generalize TL.numL (n / 10) = l at h q
        cases l with
        | nil => exact absurd rfl q
        | cons a l => exact h
      have := ih (n / 10) (by omega) this
      omega
theorem nm_len {n : Int} {k : Nat} (hk : 0 < k) (h : n.natAbs < 10 ^ k) : (tl (nmS n)).length ≤ k + 1 := by
  have := TL.numL_len hk h
  rw [nm_tl]
  split
  · rw [List.length_cons]; omega
  · omega
theorem nm_val {n : Int} (h : n.natAbs < 10 ^ 600) : intText? (nmS n) = some n := by
  have hl := TL.numL_len (by decide) h
  by_cases hn : n < 0
  · have e : (nmS n).cps.toList = 45 :: TL.numL n.natAbs := by
      have := nm_tl n
      rw [if_pos hn] at this
      exact this
    rw [intText_neg e (TL.numL_digits _) (TL.numL_ne _) (by rw [tl_len, nm_tl, if_pos hn, List.length_cons]; omega), TL.numL_val]
    congr 1
    omega
  · have e : (nmS n).cps.toList = TL.numL n.natAbs := by
      have := nm_tl n
      rw [if_neg hn] at this
      exact this
    rw [intText_digits (by rw [e]; exact TL.numL_digits _) (by rw [e]; exact TL.numL_ne _) (by rw [tl_len, nm_tl, if_neg hn]; omega), e, TL.numL_val]
    congr 1
    omega
theorem starts_pre {x y : Str} (hy : TL.tl y ≠ []) : Txt.startswith x y = TL.pre (TL.tl y) (TL.tl x) := by
  have h := TL.at_iff (x := x) (y := y) hy 0
  rw [List.drop_zero] at h
  have e : Txt.startswith x y = true ↔ TL.pre (TL.tl y) (TL.tl x) = true := by
    rw [← h]
    unfold Txt.startswith
    rw [Bool.and_eq_true, decide_eq_true_eq]
    exact Iff.rfl
  cases a : Txt.startswith x y <;> cases b : TL.pre (TL.tl y) (TL.tl x) <;> simp_all
theorem cut_from {z : Str} (k : Nat) : tl (cutS z (some (k : Int)) none) = (tl z).drop k := by
  show (((tl z).drop (HT.sIx z.length 0 (some (k : Int)))).take (HT.sIx z.length z.length none - HT.sIx z.length 0 (some (k : Int)))) = _
  rw [HT.sIx_nat, HT.sIx_none]
  have e : z.length = (tl z).length := tl_len z
  rw [e]
  generalize tl z = l
  clear e
  by_cases h : k ≤ l.length
  · rw [Nat.min_eq_left h, List.take_of_length_le]
    rw [List.length_drop]; omega
  · rw [Nat.min_eq_right (by omega), Nat.sub_self, List.take_zero, List.drop_eq_nil_of_le (by omega)]
theorem cut_le (z : Str) (lo hi : Option Int) : (cutS z lo hi).length ≤ z.length := cutS_length z lo hi
theorem join_len (sep : Str) (parts : List Str) : (tl (Txt.join sep parts)) = TL.joinL (tl sep) (parts.map TL.tl) := by
  show TL.tl _ = _
  rw [TL.join_eq, TL.tl_join]
theorem split_ok {parts : List Str} {sep : Str} {s : Nat} {S : List Nat} (e : tl sep = s :: S) (hk : (tl sep).all (fun c => decide (c < 256)) = true) (hne : parts ≠ []) (hp : ∀ p ∈ parts, s ∉ tl p) : Txt.split (Txt.join sep parts) sep = parts := TL.split_join e (by rw [← Array.all_toList]; exact hk) hne hp
@[simp] theorem isN_non : isNonA .non = true := rfl
@[simp] theorem isN_bl {b : Bool} : isNonA (.bl b) = false := rfl
@[simp] theorem isN_int {b : Int} : isNonA (.int b) = false := rfl
@[simp] theorem isN_str {b : Str} : isNonA (.str b) = false := rfl
@[simp] theorem isN_lst {b : List Va} : isNonA (.lst b) = false := rfl
@[simp] theorem isN_tup {b : List Va} : isNonA (.tup b) = false := rfl
@[simp] theorem isN_cel {b : Nat} : isNonA (.cel b) = false := rfl
/-- a joined text, its parts glued behind one another with the separator ahead -/
theorem join_glue (S : List Nat) : ∀ (rows : List (List Nat)), TL.joinL S rows = ((rows.map fun r => S ++ r).flatten).drop S.length
  | [] => by simp [TL.joinL]
  | [r] => by simp [TL.joinL]
  | r :: q :: t => by
    have ih := join_glue S (q :: t)
    show r ++ (S ++ TL.joinL S (q :: t)) = _
    rw [ih]
    simp only [List.map_cons, List.flatten_cons, List.append_assoc, List.drop_left]
theorem joinL_len (S : List Nat) : ∀ (rows : List (List Nat)) (B : Nat), (∀ r ∈ rows, r.length ≤ B) → (TL.joinL S rows).length ≤ rows.length * (B + S.length)
  | [], _, _ => by simp [TL.joinL]
  | [r], B, h => by
    have := h r (by simp)
    simp [TL.joinL]; omega
  | r :: q :: t, B, h => by
    have ih := joinL_len S (q :: t) B fun x hx => h x (by simp [hx])
    have := h r (by simp)
    show (r ++ (S ++ TL.joinL S (q :: t))).length ≤ _
    rw [List.length_append, List.length_append, List.length_cons, Nat.succ_mul]
    omega
theorem sum_len {α : Type} (f : α → Nat) (B : Nat) : ∀ (l : List α), (∀ x ∈ l, f x ≤ B) → (l.map f).sum ≤ l.length * B
  | [], _ => by simp
  | x :: l, h => by
    have ih := sum_len f B l fun y hy => h y (by simp [hy])
    have := h x (by simp)
    rw [List.map_cons, List.sum_cons, List.length_cons, Nat.succ_mul]
    omega
end PV

set_option Elab.async false
set_option linter.all false
set_option maxRecDepth 100000
set_option maxHeartbeats 4000000
namespace Lw
open PySem L2 PV
noncomputable section
def m_is_name : SS :=
    (sRet (evAnd (evChain opLe opLe (evC (.int 1)) (evL (kPure gLen) (evCons (evVar 0) evNil)) (evC (.int 8))) (evL (kPure gAll) (evCons (evLc (itA (evVar 0)) (tgName 1) evYes (ev2 opInD (evVar 1) (evC (.str "abcdefghijklmnopqrstuvwxyz"))) [1]) evNil))))
def c_is_name : FM := runF 2 m_is_name
def m_show_run : SS :=
    (sRet (evM2 isStrA (kVal gJoin) (evC (.str "; ")) (evCons (evLc (itA (evVar 0)) (tgName 1) evYes (evM2 isStrA (kVal gJoin) (evC (.str " ")) (evCons (evLc (itA (evVar 1)) (tgName 2) evYes (evL (kPure gStr) (evCons (evVar 2) evNil)) [2]) evNil)) [1]) evNil)))
def c_show_run : FM := runF 3 m_show_run
def m_read_number : SS :=
    (sSeq (sSet 1 (evIf (evTru (evM2 isStrA (kVal gStarts) (evVar 0) (evCons (evC (.str "-")) evNil))) (evSl (evVar 0) (evB (evC (.int 1))) (evC .non)) (evVar 0)))
    (sSeq (sIf (evOr (evNot (evChain opLe opLe (evC (.int 1)) (evL (kPure gLen) (evCons (evVar 1) evNil)) (evC (.int 60)))) (evTru (evL (kPure gAny) (evCons (evLc (itA (evVar 1)) (tgName 2) evYes (ev2 opNotInD (evVar 2) (evC (.str "0123456789"))) [2]) evNil)))) (sRet (evC .non)) sNx)
    (sSeq (sIf (evAnd (ev2 opEq (ev2 opIx (evVar 1) (evC (.int 0))) (evC (.str "0"))) (ev2 opNe (evVar 0) (evC (.str "0")))) (sRet (evC .non)) sNx)
    (sRet (evL (kPure gInt) (evCons (evVar 0) evNil))))))
def c_read_number : FM := runF 3 m_read_number
def m_read_deed : SS :=
    (sSeq (sSet 1 (evM2 isStrA (kVal gSplit) (evVar 0) (evCons (evC (.str " ")) evNil)))
    (sSeq (sIf (ev2 opNe (evL (kPure gLen) (evCons (evVar 1) evNil)) (evC (.int 3))) (sRet (evC .non)) sNx)
    (sSeq (sSet 2 (evL (kFn 1 c_read_number) (evCons (evIf (ev2 opEq (ev2 opIx (evVar 1) (evC (.int 0))) (evC (.str "new"))) (ev2 opIx (evVar 1) (evC (.int 2))) (ev2 opIx (evVar 1) (evC (.int 1)))) evNil)))
    (sSeq (sSet 3 (evIf (ev2 opEq (ev2 opIx (evVar 1) (evC (.int 0))) (evC (.str "new"))) (ev2 opIx (evVar 1) (evC (.int 1))) (ev2 opIx (evVar 1) (evC (.int 2)))))
    (sSeq (sIf (evOr (ev2 opNotInD (ev2 opIx (evVar 1) (evC (.int 0))) (evL kTup (evCons (evC (.str "new")) (evCons (evC (.str "step")) evNil)))) (evOr (ev2 opIsN (evVar 2) (evC .non)) (evNot (evTru (evL (kFn 1 c_is_name) (evCons (evVar 3) evNil)))))) (sRet (evC .non)) sNx)
    (sRet (evIf (ev2 opEq (ev2 opIx (evVar 1) (evC (.int 0))) (evC (.str "new"))) (evL kTup (evCons (evC (.str "new")) (evCons (evVar 3) (evCons (evVar 2) evNil)))) (evL kTup (evCons (evC (.str "step")) (evCons (evVar 2) (evCons (evVar 3) evNil)))))))))))
def c_read_deed : FM := runF 4 m_read_deed
def m_read_run : SS :=
    (sSeq (sIf (ev2 opEq (evVar 0) (evC (.str ""))) (sRet (evL kNew evNil)) sNx)
    (sSeq (sSet 1 (evLcC (itA (evM2 isStrA (kVal gSplit) (evVar 0) (evCons (evC (.str "; ")) evNil))) (tgName 2) evYes (evL (kFn 1 c_read_deed) (evCons (evVar 2) evNil)) [2]))
    (sSeq (sIf (ev2 opInD (evC .non) (evVar 1)) sNever sNx)
    (sRet (evVar 1)))))
def c_read_run : FM := runF 3 m_read_run
def m__law_well : SS :=
    (sSeq (sSet 2 (evL (kPure gMax) (evCons (evVar 0) (evCons (ev2 opSub (evC (.int 0)) (evVar 0)) evNil))))
    (sRet (evL kNew (evCons (evL (kPure gMax) (evCons (evC (.int 0)) (evCons (ev2 opSub (evVar 2) (ev2 opPow (evC (.int 10)) (evC (.int 18)))) evNil))) (evCons (ev2 opMod (evL (kPure gInt) (evCons (ev2 opAdd (ev2 opMul (evVar 0) (evC (.int 86028157))) (ev2 opMul (ev2 opAdd (evVar 1) (evC (.int 5))) (evC (.int 32452867)))) evNil)) (ev2 opAdd (ev2 opPow (evC (.int 10)) (evC (.int 26))) (evC (.int 711)))) (evCons (evC (.int 0)) evNil))))))
def c__law_well : FM := runF 3 m__law_well
def m__law_draw : SS :=
    (sSeq (sIf (ev2 opGt (ev2 opIx (evVar 0) (evC (.int 0))) (evC (.int 0))) (sSeq (sSet 3 (ev2 opMod (evL (kPure gInt) (evCons (ev2 opIx (evVar 0) (evC (.int 0))) evNil)) (evVar 1)))
    (sSeq (sSub (ev2 opDiv (ev2 opIx (evVar 0) (evC (.int 0))) (evVar 1)) (evVar 0) (evC (.int 0)) cSetAt)
    (sRet (evVar 3)))) sNx)
    (sSeq (sSub (ev2 opAdd (ev2 opIx (evVar 0) (evC (.int 2))) (evC (.int 1))) (evVar 0) (evC (.int 2)) cSetAt)
    (sSeq (sSet 2 (ev2 opMod (evL (kPure gInt) (evCons (ev2 opPow (ev2 opAdd (ev2 opIx (evVar 0) (evC (.int 1))) (ev2 opMul (ev2 opIx (evVar 0) (evC (.int 2))) (evC (.int 49979693)))) (evC (.int 3))) evNil)) (ev2 opAdd (ev2 opPow (evC (.int 10)) (evC (.int 28))) (evC (.int 333)))))
    (sRet (ev2 opMod (ev2 opDiv (ev2 opMod (evL (kPure gInt) (evCons (ev2 opAdd (ev2 opMul (evVar 2) (evVar 2)) (ev2 opDiv (evVar 2) (evC (.int 7927)))) evNil)) (ev2 opAdd (ev2 opPow (evC (.int 10)) (evC (.int 24))) (evC (.int 403)))) (evC (.int 104759))) (evVar 1))))))
def c__law_draw : FM := runF 4 m__law_draw
def m__law_word : SS :=
    (sSeq (sSet 2 (evC (.str "abcdefghijklmnopqrstuvwxyz")))
    (sSeq (sSet 3 (evL (kFn 2 c__law_draw) (evCons (evVar 0) (evCons (evC (.int 6)) evNil))))
    (sSeq (sSet 4 (ev2 opIx (evL kLst (evCons (evC (.str "columns")) (evCons (evC (.str "kind")) (evCons (evC (.str "check")) (evCons (evC (.str "new")) (evCons (evC (.str "step")) (evCons (evC (.str "held")) (evCons (evC (.str "taken")) evNil)))))))) (evL (kFn 2 c__law_draw) (evCons (evVar 0) (evCons (evC (.int 7)) evNil)))))
    (sSeq (sIf (evAnd (ev2 opEq (evVar 3) (evC (.int 5))) (ev2 opNe (evVar 1) (evL kLst evNil))) (sSeq (sSet 6 (ev2 opIx (evVar 1) (evL (kFn 2 c__law_draw) (evCons (evVar 0) (evCons (evL (kPure gLen) (evCons (evVar 1) evNil)) evNil)))))
    (sSeq (sSet 7 (evL (kFn 2 c__law_draw) (evCons (evVar 0) (evCons (ev2 opAdd (evL (kPure gLen) (evCons (evVar 6) evNil)) (evC (.int 1))) evNil))))
    (sSet 4 (evSl (ev2 opAdd (ev2 opAdd (evSl (evVar 6) (evC .non) (evB (evVar 7))) (ev2 opIx (evVar 2) (evL (kFn 2 c__law_draw) (evCons (evVar 0) (evCons (evC (.int 26)) evNil))))) (evSl (evVar 6) (evB (ev2 opAdd (evVar 7) (evL (kFn 2 c__law_draw) (evCons (evVar 0) (evCons (evC (.int 2)) evNil))))) (evC .non))) (evC .non) (evB (evC (.int 8))))))) (sIf (ev2 opLt (evVar 3) (evC (.int 4))) (sSet 4 (evM2 isStrA (kVal gJoin) (evC (.str "")) (evCons (evLc (itR1 (evCons (ev2 opAdd (evC (.int 1)) (evL (kFn 2 c__law_draw) (evCons (evVar 0) (evCons (evC (.int 8)) evNil)))) evNil)) (tgName 8) evYes (ev2 opIx (evVar 2) (evL (kFn 2 c__law_draw) (evCons (evVar 0) (evCons (evC (.int 26)) evNil)))) [8]) evNil))) sNx))
    (sSeq (sFor (itR1 (evCons (evC (.int 676)) evNil)) (tgName 5) (sSeq (sIf (ev2 opNotInD (evVar 4) (evVar 1)) (sRet (evVar 4)) sNx)
    (sSet 4 (ev2 opAdd (ev2 opIx (evVar 2) (ev2 opMod (evVar 5) (evC (.int 26)))) (ev2 opIx (evVar 2) (ev2 opDiv (evVar 5) (evC (.int 26))))))))
    (sRet (evVar 4)))))))
def c__law_word : FM := runF 9 m__law_word
def m__law_integer : SS :=
    (sSeq (sSet 1 (evL (kFn 2 c__law_draw) (evCons (evVar 0) (evCons (evC (.int 10)) evNil))))
    (sSeq (sFor (itR1 (evCons (ev2 opMul (evL (kFn 2 c__law_draw) (evCons (evVar 0) (evCons (evC (.int 3)) evNil))) (evL (kFn 2 c__law_draw) (evCons (evVar 0) (evCons (evC (.int 3)) evNil)))) evNil)) (tgName 2) (sSet 1 (ev2 opAdd (ev2 opMul (evVar 1) (ev2 opPow (evC (.int 10)) (evC (.int 14)))) (evL (kFn 2 c__law_draw) (evCons (evVar 0) (evCons (ev2 opPow (evC (.int 10)) (evC (.int 14))) evNil))))))
    (sRet (ev2 opIx (evL kLst (evCons (evVar 1) (evCons (ev2 opSub (evC (.int 0)) (evVar 1)) evNil))) (evL (kFn 2 c__law_draw) (evCons (evVar 0) (evCons (evC (.int 2)) evNil)))))))
def c__law_integer : FM := runF 3 m__law_integer
def m__law_wild : SS :=
    (sSeq (sIf (ev2 opEq (evL (kFn 2 c__law_draw) (evCons (evVar 0) (evCons (evC (.int 2)) evNil))) (evC (.int 0))) (sRet (evL kTup (evCons (evC (.str "new")) (evCons (evL (kFn 2 c__law_word) (evCons (evVar 0) (evCons (evL kLst evNil) evNil))) (evCons (evL (kFn 1 c__law_integer) (evCons (evVar 0) evNil)) evNil))))) sNx)
    (sRet (evL kTup (evCons (evC (.str "step")) (evCons (evL (kFn 1 c__law_integer) (evCons (evVar 0) evNil)) (evCons (evL (kFn 2 c__law_word) (evCons (evVar 0) (evCons (evL kLst evNil) evNil))) evNil))))))
def c__law_wild : FM := runF 1 m__law_wild
def m__law_run_text : SS :=
    (sSeq (sSet 1 (evC (.str "")))
    (sSeq (sFor (itA (evVar 0)) (tgTup [(tgName 2), (tgName 3), (tgName 4)]) (sSet 1 (ev2 opAdd (ev2 opAdd (ev2 opAdd (ev2 opAdd (ev2 opAdd (ev2 opAdd (evVar 1) (evC (.str "; "))) (evVar 2)) (evC (.str " "))) (evL (kPure gStr) (evCons (evVar 3) evNil))) (evC (.str " "))) (evL (kPure gStr) (evCons (evVar 4) evNil)))))
    (sRet (evSl (evVar 1) (evB (evC (.int 2))) (evC .non)))))
def c__law_run_text : FM := runF 5 m__law_run_text
def m__law_deeds : SS :=
    (sSeq (sSet 2 (evL (kFn 2 c__law_draw) (evCons (evVar 0) (evCons (evC (.int 10)) evNil))))
    (sSeq (sIf (ev2 opEq (evL (kFn 2 c__law_draw) (evCons (evVar 0) (evCons (evC (.int 6)) evNil))) (evC (.int 0))) (sSet 2 (evL (kFn 2 c__law_draw) (evCons (evVar 0) (evCons (ev2 opAdd (evVar 1) (evC (.int 1))) evNil)))) sNx)
    (sRet (evLc (itR1 (evCons (evVar 2) evNil)) (tgName 3) evYes (evL (kFn 1 c__law_wild) (evCons (evVar 0) evNil)) [3]))))
def c__law_deeds : FM := runF 4 m__law_deeds
def m__law_list_right : SS :=
    (sSeq (sSet 1 (evL (kFn 1 c__law_run_text) (evCons (evVar 0) evNil)))
    (sSeq (sSet 2 (evL (kPure gList) (evCons (evVar 0) evNil)))
    (sSeq (sIf (evOr (ev2 opNe (evL kRepr (evCons (evL (kFn 1 c_show_run) (evCons (evVar 2) evNil)) evNil)) (evL kRepr (evCons (evVar 1) evNil))) (ev2 opNe (evL kRepr (evCons (evVar 2) evNil)) (evL kRepr (evCons (evVar 0) evNil)))) (sRet (evC (.bl false))) sNx)
    (sSeq (sSet 3 (evL (kFn 1 c_read_run) (evCons (evVar 1) evNil)))
    (sSeq (sIf (ev2 opNe (evL kRepr (evCons (evVar 3) evNil)) (evL kRepr (evCons (evVar 0) evNil))) (sRet (evC (.bl false))) sNx)
    (sSeq (sIf (ev2 opNe (evL kRepr (evCons (evL (kFn 1 c_show_run) (evCons (evVar 3) evNil)) evNil)) (evL kRepr (evCons (evVar 1) evNil))) (sRet (evC (.bl false))) sNx)
    (sSeq (sDrop (evM2 isLstA (kMut cAppend) (evVar 3) (evCons (evL kTup (evCons (evC (.str "new")) (evCons (evC (.str "late")) (evCons (evC (.int 1)) evNil)))) evNil)))
    (sRet (ev2 opEq (evL kRepr (evCons (evL (kFn 1 c_read_run) (evCons (evVar 1) evNil)) evNil)) (evL kRepr (evCons (evVar 0) evNil)))))))))))
def c__law_list_right : FM := runF 4 m__law_list_right
def m__law_right : SS :=
    (sSeq (sSet 1 (evL (kFn 2 c__law_deeds) (evCons (evVar 0) (evCons (evC (.int 190)) evNil))))
    (sSeq (sSet 2 (evL (kFn 2 c__law_deeds) (evCons (evVar 0) (evCons (evC (.int 10)) evNil))))
    (sSeq (sIf (evOr (evNot (evTru (evL (kFn 1 c__law_list_right) (evCons (evVar 1) evNil)))) (evOr (evNot (evTru (evL (kFn 1 c__law_list_right) (evCons (evVar 2) evNil)))) (evNot (evTru (evL (kFn 1 c__law_list_right) (evCons (ev2 opAdd (evVar 1) (evVar 2)) evNil)))))) (sRet (evC (.bl false))) sNx)
    (sSeq (sIf (evOr (ev2 opEq (evVar 1) (evL kLst evNil)) (ev2 opEq (evVar 2) (evL kLst evNil))) (sRet (evC (.bl true))) sNx)
    (sRet (ev2 opEq (ev2 opAdd (ev2 opAdd (evL (kFn 1 c_show_run) (evCons (evVar 1) evNil)) (evC (.str "; "))) (evL (kFn 1 c_show_run) (evCons (evVar 2) evNil))) (evL (kFn 1 c_show_run) (evCons (ev2 opAdd (evVar 1) (evVar 2)) evNil))))))))
def c__law_right : FM := runF 3 m__law_right
def m_law : SS :=
    (sSeq (sSet 1 (ev2 opAdd (evSl (evVar 0) (evC .non) (evB (evC (.int 8)))) (ev2 opMul (evL kLst (evCons (evC (.int 0)) evNil)) (evL (kPure gInt) (evCons (ev2 opEq (evVar 0) (evL kLst evNil)) evNil)))))
    (sSeq (sFor (itR1 (evCons (evL (kPure gLen) (evCons (evVar 1) evNil)) evNil)) (tgName 2) (sIf (evNot (evTru (evL (kFn 1 c__law_right) (evCons (evL (kFn 2 c__law_well) (evCons (ev2 opIx (evVar 1) (evVar 2)) (evCons (evVar 2) evNil))) evNil)))) (sRet (evC (.bl false))) sNx))
    (sRet (evC (.bl true)))))
def c_law : FM := runF 3 m_law
end
end Lw

set_option Elab.async false
set_option linter.all false
set_option maxRecDepth 100000
set_option maxHeartbeats 1000000
namespace Lw
open PySem L2 PV
/-- a source of numbers stands at w, less than b of its mixed ones drawn -/
structure Wl (M : Store) (w : Nat) (b : Nat) : Prop where
  ex : ∃ x y z : Int, M.c w = some (.lst [.int x, .int y, .int z]) ∧ 0 ≤ y ∧ y < 2 ^ 100 ∧ 0 ≤ z ∧ z ≤ b
  lt : w < M.nx
/-- all below stays but the source -/
structure Kp (M M' : Store) (w : Nat) : Prop where
  nx : M.nx ≤ M'.nx
  kp : ∀ n, n < M.nx → n ≠ w → M'.c n = M.c n
theorem Kp.refl {M : Store} {w : Nat} : Kp M M w := ⟨Nat.le_refl _, fun _ _ _ => rfl⟩
theorem Kp.trans {M M1 M2 : Store} {w : Nat} (a : Kp M M1 w) (b : Kp M1 M2 w) : Kp M M2 w := ⟨Nat.le_trans a.nx b.nx, fun n h1 h2 => (b.kp n (Nat.lt_of_lt_of_le h1 a.nx) h2).trans (a.kp n h1 h2)⟩
theorem Kp.put {M : Store} {w : Nat} {x : Cell} : Kp M (M.put w x) w := ⟨Nat.le_refl _, fun n _ h => put_ne h⟩
theorem Wl.mono {M : Store} {w b b' : Nat} (h : Wl M w b) (hb : b ≤ b') : Wl M w b' := by
  obtain ⟨⟨x, y, z, h1, h2, h3, h4, h5⟩, h6⟩ := h
  exact ⟨⟨x, y, z, h1, h2, h3, h4, by omega⟩, h6⟩
theorem ix3_0 : ixN 3 0 = some 0 := rfl
theorem ix3_2 : ixN 3 2 = some 2 := rfl
theorem draw1 (M : Store) (w : Nat) (x y z m : Int) (h : M.c w = some (.lst [.int x, .int y, .int z])) (hm : 0 < m) (hm2 : m < 2 ^ 200) (hx : 0 < x) : c__law_draw [.cel w, .int m] M = some (.val (.int (x % m)), M.put w (.lst [.int (x / m), .int y, .int z])) := by
  unfold c__law_draw runF m__law_draw
  simp [startI, h, hx, y_mod hm, y_div hm hm2, cSetAt, ix3_0]
theorem draw2 (M : Store) (w : Nat) (x y z m : Int) (h : M.c w = some (.lst [.int x, .int y, .int z])) (hm : 0 < m) (hm2 : m < 2 ^ 200) (hx : ¬ 0 < x) (hy : 0 ≤ y) (hy2 : y < 2 ^ 100) (hz : 0 ≤ z) (hz2 : z < 2 ^ 60) :
    ∃ r, c__law_draw [.cel w, .int m] M = some (.val (.int r), M.put w (.lst [.int x, .int y, .int (z + 1)])) ∧ 0 ≤ r ∧ r < m := by
  unfold c__law_draw runF m__law_draw
  simp (disch := omega) [startI, h, hx, y_mod, y_div, y_pow, y_pow3, y_mulR, y_mulN, cSetAt, ix3_2]
  exact ⟨Int.emod_nonneg _ (by omega), Int.emod_lt_of_pos _ hm⟩
theorem draw {M : Store} {w b : Nat} (h : Wl M w b) (m : Int) (hm : 0 < m) (hm2 : m < 2 ^ 200) (hb : b < 2 ^ 50) : ∃ r M', c__law_draw [.cel w, .int m] M = some (.val (.int r), M') ∧ 0 ≤ r ∧ r < m ∧ Wl M' w (b + 1) ∧ Kp M M' w := by
  obtain ⟨⟨x, y, z, h1, h2, h3, h4, h5⟩, h6⟩ := h
  by_cases hx : 0 < x
  · exact ⟨_, _, draw1 M w x y z m h1 hm hm2 hx, Int.emod_nonneg _ (by omega), Int.emod_lt_of_pos _ hm, ⟨⟨_, _, _, put_same, h2, h3, h4, by omega⟩, h6⟩, Kp.put⟩
  · obtain ⟨r, e, r0, r1⟩ := draw2 M w x y z m h1 hm hm2 hx h2 h3 h4 (by omega)
    exact ⟨r, _, e, r0, r1, ⟨⟨_, _, _, put_same, h2, h3, by omega, by omega⟩, h6⟩, Kp.put⟩
theorem well (cell k : Int) (M : Store) : ∃ M', c__law_well [.int cell, .int k] M = some (.val (.cel M.nx), M') ∧ Wl M' M.nx 0 ∧ M'.nx = M.nx + 1 ∧ ∀ n, n ≠ M.nx → M'.c n = M.c n := by
  unfold c__law_well runF m__law_well
  simp (disch := omega) [startI, y_mod, y_pow, y_mulR]
  exact ⟨⟨⟨_, _, _, new_same, by omega, by omega, by omega, by omega⟩, by simp⟩, fun n h => new_ne h⟩
/-! ### words -/
def Nm (z : Str) : Prop := 1 ≤ (tl z).length ∧ (tl z).length ≤ 8 ∧ ∀ c ∈ tl z, 97 ≤ c ∧ c ≤ 122
instance (z : Str) : Decidable (Nm z) := by unfold Nm; infer_instance
def lets : Str := "abcdefghijklmnopqrstuvwxyz"
theorem let_at {M : Store} {r : Int} (h0 : 0 ≤ r) (h1 : r < 26) : ∃ c, opIx M (.str "abcdefghijklmnopqrstuvwxyz") (.int r) = some (.str ⟨#[c]⟩) ∧ 97 ≤ c ∧ c ≤ 122 := by
  have hl : (tl lets).length = 26 := by decide
  obtain ⟨c, e, hm, _⟩ := at_nat (l := tl lets) h0 (by rw [hl]; exact h1)
  have ha : ∀ c ∈ tl lets, 97 ≤ c ∧ c ≤ 122 := by decide
  refine ⟨c, ?_, ha c hm⟩
  show (if lets.length ≤ sizeLine then (atI (tl lets) r).map fun c => Va.str ⟨#[c]⟩ else none) = _
  rw [if_pos (by decide), e]; rfl
theorem ne_nil {M : Store} : opNe M (.lst []) (.lst []) = some (.bl false) := by
  unfold opNe eqS eqP
  rw [pdOf_eq (.lst rfl .nil)]
  rfl
theorem notIn_nil {M : Store} {z : Str} : opNotInD M (.str z) (.lst []) = some (.bl true) := rfl
theorem strsOf_one : ∀ {ys : List Va}, (∀ y ∈ ys, ∃ c, y = .str ⟨#[c]⟩ ∧ 97 ≤ c ∧ c ≤ 122) → ∃ zs : List Str, strsOf ys = some zs ∧ zs.length = ys.length ∧ ∀ z ∈ zs, ∃ c, tl z = [c] ∧ 97 ≤ c ∧ c ≤ 122
  | [], _ => ⟨[], rfl, rfl, fun _ h => by cases h⟩
  | y :: ys, h => by
    obtain ⟨c, rfl, hc⟩ := h y (by simp)
    obtain ⟨zs, e, l, a⟩ := strsOf_one (ys := ys) fun z hz => h z (by simp [hz])
    refine ⟨⟨#[c]⟩ :: zs, by simp [strsOf, e], by simp [l], fun z hz => ?_⟩
    rcases List.mem_cons.mp hz with e | hz
    · subst e; exact ⟨c, rfl, hc⟩
    · exact a z hz
theorem join_one : ∀ {zs : List Str}, (∀ z ∈ zs, ∃ c, tl z = [c] ∧ 97 ≤ c ∧ c ≤ 122) → (TL.joinL [] (zs.map TL.tl)).length = zs.length ∧ (∀ c ∈ TL.joinL [] (zs.map TL.tl), 97 ≤ c ∧ c ≤ 122) ∧ (zs.map (·.length)).sum = zs.length
  | [], _ => ⟨rfl, fun _ h => (nomatch h), rfl⟩
  | [z], h => by
    obtain ⟨c, e, hc⟩ := h z (by simp)
    have e' : TL.tl z = [c] := e
    refine ⟨by simp [TL.joinL, e'], fun d hd => ?_, by rw [List.map_cons, List.map_nil, List.sum_cons, tl_len, e]; rfl⟩
    simp [TL.joinL, e'] at hd
    subst hd; exact hc
  | z :: y :: r, h => by
    obtain ⟨c, e, hc⟩ := h z (by simp)
    have e' : TL.tl z = [c] := e
    obtain ⟨h1, h2, h3⟩ := join_one (zs := y :: r) fun x hx => h x (by simp [hx])
    have q : TL.joinL [] ((z :: y :: r).map TL.tl) = c :: TL.joinL [] ((y :: r).map TL.tl) := by
      simp [TL.joinL, e']
    refine ⟨by rw [q, List.length_cons, h1]; rfl, fun d hd => ?_, ?_⟩
    · rw [q] at hd
      rcases List.mem_cons.mp hd with e2 | hd
      · subst e2; exact hc
      · exact h2 d hd
    · rw [List.map_cons, List.sum_cons, h3, tl_len, e]
      simp only [List.length_cons, List.length_nil]; omega
theorem word {M : Store} {w b : Nat} (h : Wl M w b) (hb : b < 2 ^ 40) : ∃ z M', c__law_word [.cel w, .lst []] M = some (.val (.str z), M') ∧ Nm z ∧ Wl M' w (b + 12) ∧ Kp M M' w := by
  obtain ⟨r1, M1, e1, a1, a2, h1, k1⟩ := draw h 6 (by omega) (by omega) (by omega)
  obtain ⟨r2, M2, e2, b1, b2, h2, k2⟩ := draw h1 7 (by omega) (by omega) (by omega)
  obtain ⟨w0, q0, q1, _⟩ := at_nat (l := [Va.str "columns", .str "kind", .str "check", .str "new", .str "step", .str "held", .str "taken"]) b1 (by simpa using b2)
  have hw0 : ∃ z0, w0 = .str z0 ∧ Nm z0 := by
    simp at q1
    rcases q1 with q | q | q | q | q | q | q <;> exact ⟨_, q, by decide⟩
  obtain ⟨z0, rfl, hz0⟩ := hw0
  have step : ∀ (z : Str) (s5 s6 s7 s8 : Option Va) (M : Store), loopF (fun _ => True) (tgName 5) (sSeq (sIf (ev2 opNotInD (evVar 4) (evVar 1)) (sRet (evVar 4)) sNx)
      (sSet 4 (ev2 opAdd (ev2 opIx (evVar 2) (ev2 opMod (evVar 5) (evC (.int 26)))) (ev2 opIx (evVar 2) (ev2 opDiv (evVar 5) (evC (.int 26))))))) ((List.range 676).map fun (i : Nat) => Va.int i)
      [some (.cel w), some (.lst []), some (.str "abcdefghijklmnopqrstuvwxyz"), some (.int r1), some (.str z), s5, s6, s7, s8] M = some (.ret (.str z), [some (.cel w), some (.lst []), some (.str "abcdefghijklmnopqrstuvwxyz"), some (.int r1), some (.str z), some (.int 0), s6, s7, s8], M) := by
    intro z s5 s6 s7 s8 M
    have er : (List.range 676).map (fun (i : Nat) => Va.int i) = Va.int 0 :: ((List.range 675).map fun (i : Nat) => Va.int ((i + 1 : Nat) : Int)) := by
      show (List.range (675 + 1)).map _ = _
      rw [List.range_succ_eq_map, List.map_cons, List.map_map]
      rfl
    rw [er]
    unfold loopF
    simp [notIn_nil]
  unfold c__law_word runF m__law_word
  by_cases hr : r1 < 4
  · obtain ⟨r3, M3, e3, c1, c2, h3, k3⟩ := draw h2 8 (by omega) (by omega) (by omega)
    obtain ⟨ys, M4, e4, al, h4, k4⟩ := compL_inv (chk := fun _ => True) (tg := tgName 8) (tt := evYes) (te := ev2 opIx (evVar 2) (evL (kFn 2 c__law_draw) (evCons (evVar 0) (evCons (evC (.int 26)) evNil))))
      (sw := [some (.cel w), some (.lst []), some (.str "abcdefghijklmnopqrstuvwxyz"), some (.int r1), some (.str z0), none, none, none, none])
      (fun i M => Wl M w (b + 3 + i) ∧ Kp M3 M w) (fun _ y => ∃ c, y = .str ⟨#[c]⟩ ∧ 97 ≤ c ∧ c ≤ 122) (1 + r3).toNat ((List.range (1 + r3).toNat).map fun (i : Nat) => Va.int i) 0 M3 (by simp) ⟨h3, Kp.refl⟩ (fun _ _ _ => trivial) (fun i x N hi hx ⟨hN, kN⟩ => by
        obtain ⟨r, N', e, d1, d2, h', k'⟩ := draw hN 26 (by omega) (by omega) (by omega)
        obtain ⟨c, ec, hc⟩ := let_at (M := N') d1 d2
        refine ⟨_, rfl, rfl, .str ⟨#[c]⟩, N', ?_, ⟨c, rfl, hc⟩, h'.mono (by omega), kN.trans k'⟩
        simp [e, ec])
    obtain ⟨zs, f1, f2, f3⟩ := strsOf_one (ys := ys) (fun y hy => al.all (Q := fun y => ∃ c, y = .str ⟨#[c]⟩ ∧ 97 ≤ c ∧ c ≤ 122) (fun _ _ h => h) y hy)
    obtain ⟨g1, g2, g3⟩ := join_one f3
    have hl : ys.length = (1 + r3).toNat := by have := al.len; simp at this; omega
    refine ⟨Txt.join "" zs, M4, ?_, ?_, h4.mono (by omega), ((k1.trans k2).trans k3).trans k4⟩
    · have h5 : ¬ r1 = 5 := by omega
      simp (disch := omega) [startI, e1, e2, q0, ne_nil, hr, h5, e3, z_rng, e4, gJoin, f1, g3, step]
      have : zs.length + zs.length * (Str.ofString "").length ≤ 16777216 := by
        have : (Str.ofString "").length = 0 := rfl
        rw [this]; omega
      simp [this, step]
    · have e : tl (Txt.join "" zs) = TL.joinL [] (zs.map TL.tl) := by
        show TL.tl _ = _
        rw [TL.join_eq, TL.tl_join]; rfl
      unfold Nm
      rw [e, g1]
      exact ⟨by omega, by omega, g2⟩
  · refine ⟨z0, M2, ?_, hz0, h2.mono (by omega), k1.trans k2⟩
    by_cases h5 : r1 = 5
    · simp (disch := omega) [startI, e1, e2, q0, ne_nil, h5, z_rng]
      rw [← h5]
      simp [step]
    · simp (disch := omega) [startI, e1, e2, q0, ne_nil, hr, h5, z_rng, step]
/-! ### numbers -/
theorem int_loop {chk : Store → Prop} (hc : ∀ M, chk M) (w : Nat) : ∀ (l : List Va) (i : Nat) (n : Int) (s2 : Option Va) (M : Store) (b : Nat), i + l.length ≤ 4 → 0 ≤ n → n < 10 ^ (14 * i + 1) → Wl M w b → b + l.length < 2 ^ 40 →
    ∃ n' s2' M', loopF chk (tgName 2) (sSet 1 (ev2 opAdd (ev2 opMul (evVar 1) (ev2 opPow (evC (.int 10)) (evC (.int 14)))) (evL (kFn 2 c__law_draw) (evCons (evVar 0) (evCons (ev2 opPow (evC (.int 10)) (evC (.int 14))) evNil))))) l [some (.cel w), some (.int n), s2] M = some (.nx, [some (.cel w), some (.int n'), s2'], M') ∧ 0 ≤ n' ∧ n' < 10 ^ 57 ∧ Wl M' w (b + l.length) ∧ Kp M M' w
  | [], i, n, s2, M, b, hi, h0, h1, hw, hb => by
    refine ⟨n, s2, M, ?_, h0, ?_, hw, Kp.refl⟩
    · unfold loopF
      rw [if_pos (hc M)]
    · refine Int.lt_of_lt_of_le h1 ?_
      have : i = 0 ∨ i = 1 ∨ i = 2 ∨ i = 3 ∨ i = 4 := by simp at hi; omega
      rcases this with e | e | e | e | e <;> subst e <;> decide
  | x :: l, i, n, s2, M, b, hi, h0, h1, hw, hb => by
    rw [List.length_cons] at hi hb
    obtain ⟨r, M1, e1, r0, r1, w1, k1⟩ := draw hw 100000000000000 (by omega) (by omega) (by omega)
    have hn : n * 100000000000000 + r < 10 ^ (14 * (i + 1) + 1) := by
      have : i = 0 ∨ i = 1 ∨ i = 2 ∨ i = 3 := by omega
      rcases this with e | e | e | e <;> subst e <;> simp at h1 ⊢ <;> omega
    obtain ⟨n', s2', M', e, a1, a2, a3, a4⟩ := int_loop hc w l (i + 1) (n * 100000000000000 + r) (some x) M1 (b + 1) (by omega) (by omega) hn w1 (by omega)
    refine ⟨n', s2', M', ?_, a1, a2, ?_, k1.trans a4⟩
    · unfold loopF
      rw [if_pos (hc M)]
      simp (disch := omega) [y_pow, y_mulR, e1]
      exact e
    · rw [List.length_cons]
      have : b + (l.length + 1) = b + 1 + l.length := by omega
      rw [this]; exact a3
theorem integer {M : Store} {w b : Nat} (h : Wl M w b) (hb : b < 2 ^ 39) : ∃ n M', c__law_integer [.cel w] M = some (.val (.int n), M') ∧ n.natAbs < 10 ^ 57 ∧ Wl M' w (b + 8) ∧ Kp M M' w := by
  obtain ⟨r1, M1, e1, a1, a2, h1, k1⟩ := draw h 10 (by omega) (by omega) (by omega)
  obtain ⟨r2, M2, e2, b1, b2, h2, k2⟩ := draw h1 3 (by omega) (by omega) (by omega)
  obtain ⟨r3, M3, e3, c1, c2, h3, k3⟩ := draw h2 3 (by omega) (by omega) (by omega)
  have hm : 0 ≤ r2 * r3 ∧ r2 * r3 ≤ 4 := by
    have : r2 = 0 ∨ r2 = 1 ∨ r2 = 2 := by omega
    rcases this with e | e | e <;> subst e <;> omega
  obtain ⟨n, s2, M4, e4, d1, d2, h4, k4⟩ := int_loop (chk := fun _ => True) (fun _ => trivial) w ((List.range (r2 * r3).toNat).map fun (i : Nat) => Va.int i) 0 r1 none M3 (b + 3) (by simp; omega) a1 (by simpa using a2) h3 (by simp; omega)
  obtain ⟨r5, M5, e5, f1, f2, h5, k5⟩ := draw h4 2 (by omega) (by omega) (by simp; omega)
  simp at h4 h5
  have hl : (b + 3) + (r2 * r3).toNat + 1 ≤ b + 8 := by omega
  have key : ∀ x : Int, atI [Va.int n, Va.int (0 - n)] r5 = some (.int x) → x.natAbs < 10 ^ 57 → ∃ n M', c__law_integer [.cel w] M = some (.val (.int n), M') ∧ n.natAbs < 10 ^ 57 ∧ Wl M' w (b + 8) ∧ Kp M M' w := by
    intro x hx hx2
    refine ⟨x, M5, ?_, hx2, h5.mono hl, (((k1.trans k2).trans k3).trans k4).trans k5⟩
    unfold c__law_integer runF m__law_integer
    simp (disch := omega) [startI, e1, e2, e3, y_mulR, z_rng]
    rw [e4]
    simp [e5]
    have : (0 - n : Int) = - n := by omega
    rw [this] at hx
    simp [hx]
  have : r5 = 0 ∨ r5 = 1 := by omega
  rcases this with e | e <;> subst e
  · exact key n (by simp) (by omega)
  · exact key (0 - n) (by simp) (by omega)
end Lw

set_option Elab.async false
set_option linter.all false
set_option maxRecDepth 100000
set_option maxHeartbeats 1000000
set_option exponentiation.threshold 3000
namespace Lw
open PySem L2 PV
/-! ### deeds -/
inductive Dd
  | nw (z : Str) (n : Int)
  | st (n : Int) (z : Str)
def Dd.va : Dd → Va
  | .nw z n => .tup [.str "new", .str z, .int n]
  | .st n z => .tup [.str "step", .int n, .str z]
def Dd.ok : Dd → Prop
  | .nw z n => Nm z ∧ n.natAbs < 10 ^ 57
  | .st n z => Nm z ∧ n.natAbs < 10 ^ 57
def Dd.row : Dd → List Str
  | .nw z n => ["new", z, nmS n]
  | .st n z => ["step", nmS n, z]
def Dd.txt (d : Dd) : Str := Txt.join " " d.row
theorem wild {M : Store} {w b : Nat} (h : Wl M w b) (hb : b < 2 ^ 38) : ∃ d M', c__law_wild [.cel w] M = some (.val (Dd.va d), M') ∧ d.ok ∧ Wl M' w (b + 30) ∧ Kp M M' w := by
  obtain ⟨r1, M1, e1, a1, a2, h1, k1⟩ := draw h 2 (by omega) (by omega) (by omega)
  unfold c__law_wild runF m__law_wild
  by_cases hr : r1 = 0
  · obtain ⟨z, M2, e2, hz, h2, k2⟩ := word h1 (by omega)
    obtain ⟨n, M3, e3, hn, h3, k3⟩ := integer h2 (by omega)
    subst hr
    refine ⟨.nw z n, M3, ?_, ⟨hz, hn⟩, h3.mono (by omega), (k1.trans k2).trans k3⟩
    simp [startI, e1, e2, e3, Dd.va]
  · obtain ⟨n, M2, e2, hn, h2, k2⟩ := integer h1 (by omega)
    obtain ⟨z, M3, e3, hz, h3, k3⟩ := word h2 (by omega)
    refine ⟨.st n z, M3, ?_, ⟨hz, hn⟩, h3.mono (by omega), (k1.trans k2).trans k3⟩
    simp [startI, e1, e2, e3, hr, Dd.va]
theorem dds_of : ∀ {ys : List Va}, (∀ y ∈ ys, ∃ d : Dd, d.ok ∧ y = d.va) → ∃ l : List Dd, ys = l.map Dd.va ∧ ∀ d ∈ l, d.ok
  | [], _ => ⟨[], rfl, fun _ h => nomatch h⟩
  | y :: ys, h => by
    obtain ⟨d, hd, rfl⟩ := h y (by simp)
    obtain ⟨l, rfl, hl⟩ := dds_of (ys := ys) fun z hz => h z (by simp [hz])
    exact ⟨d :: l, rfl, fun x hx => by rcases List.mem_cons.mp hx with e | hx; (subst e; exact hd); exact hl x hx⟩
theorem deeds {M : Store} {w b : Nat} (most : Int) (hm : 0 ≤ most ∧ most ≤ 200) (h : Wl M w b) (hb : b < 2 ^ 30) : ∃ (l : List Dd) (M' : Store), c__law_deeds [.cel w, .int most] M = some (.val (.lst (l.map Dd.va)), M') ∧ l.length ≤ 200 ∧ (∀ d ∈ l, d.ok) ∧ Wl M' w (b + 6100) ∧ Kp M M' w := by
  obtain ⟨r1, M1, e1, a1, a2, h1, k1⟩ := draw h 10 (by omega) (by omega) (by omega)
  obtain ⟨r2, M2, e2, b1, b2, h2, k2⟩ := draw h1 6 (by omega) (by omega) (by omega)
  have lc : ∀ (size : Int) (M3 : Store), 0 ≤ size → size ≤ 200 → Wl M3 w (b + 3) → ∃ (l : List Dd) (M' : Store), compL (fun _ => True) (tgName 3) evYes (evL (kFn 1 c__law_wild) (evCons (evVar 0) evNil)) [some (.cel w), some (.int most), some (.int size), none] ((List.range size.toNat).map fun (i : Nat) => Va.int i) M3 = some (l.map Dd.va, M') ∧ l.length ≤ 200 ∧ (∀ d ∈ l, d.ok) ∧ Wl M' w (b + 6100) ∧ Kp M3 M' w := by
    intro size M3 s0 s1 h3
    obtain ⟨ys, M4, e4, al, h4, k4⟩ := compL_inv (chk := fun _ => True) (tg := tgName 3) (tt := evYes) (te := evL (kFn 1 c__law_wild) (evCons (evVar 0) evNil))
      (sw := [some (.cel w), some (.int most), some (.int size), none])
      (fun i M => Wl M w (b + 3 + 30 * i) ∧ Kp M3 M w) (fun _ y => ∃ d : Dd, d.ok ∧ y = d.va) size.toNat ((List.range size.toNat).map fun (i : Nat) => Va.int i) 0 M3 (by simp) ⟨h3, Kp.refl⟩ (fun _ _ _ => trivial) (fun i x N hi hx ⟨hN, kN⟩ => by
        obtain ⟨d, N', e, hd, h', k'⟩ := wild hN (by omega)
        refine ⟨_, rfl, rfl, Dd.va d, N', ?_, ⟨d, hd, rfl⟩, h'.mono (by omega), kN.trans k'⟩
        simp [e])
    obtain ⟨l, rfl, hl⟩ := dds_of (ys := ys) (fun y hy => al.all (Q := fun y => ∃ d : Dd, d.ok ∧ y = d.va) (fun _ _ h => h) y hy)
    have hlen := al.len
    simp at hlen
    exact ⟨l, M4, e4, by omega, hl, h4.mono (by omega), k4⟩
  unfold c__law_deeds runF m__law_deeds
  by_cases hr : r2 = 0
  · obtain ⟨r3, M3, e3, c1, c2, h3, k3⟩ := draw h2 (most + 1) (by omega) (by omega) (by omega)
    obtain ⟨l, M4, e4, d1, d2, d3, d4⟩ := lc r3 M3 c1 (by omega) h3
    subst hr
    refine ⟨l, M4, ?_, d1, d2, d3, ((k1.trans k2).trans k3).trans d4⟩
    simp (disch := omega) [startI, e1, e2, e3, z_rng, e4]
  · obtain ⟨l, M4, e4, d1, d2, d3, d4⟩ := lc r1 M2 a1 (by omega) (h2.mono (by omega))
    refine ⟨l, M4, ?_, d1, d2, d3, (k1.trans k2).trans d4⟩
    simp (disch := omega) [startI, e1, e2, hr, z_rng, e4]
theorem log57 {n : Nat} (h : n < 10 ^ 57) : n.log2 < 1920 := by
  by_cases h0 : n = 0
  · subst h0; decide
  · exact (Nat.log2_lt h0).mpr (Nat.lt_trans h (by decide))
theorem Dd.row_ok {d : Dd} (h : d.ok) : ∀ p ∈ d.row, (tl p).length ≤ 58 ∧ 32 ∉ tl p ∧ 59 ∉ tl p ∧ ∀ c ∈ tl p, c < 256 := by
  have hN : ∀ n : Int, n.natAbs < 10 ^ 57 → (tl (nmS n)).length ≤ 58 ∧ 32 ∉ tl (nmS n) ∧ 59 ∉ tl (nmS n) ∧ ∀ c ∈ tl (nmS n), c < 256 := fun n hn => by
    refine ⟨nm_len (by decide) hn, fun hc => ?_, fun hc => ?_, fun c hc => ?_⟩ <;> (have := nm_digits hc; omega)
  have hW : ∀ z : Str, Nm z → (tl z).length ≤ 58 ∧ 32 ∉ tl z ∧ 59 ∉ tl z ∧ ∀ c ∈ tl z, c < 256 := fun z ⟨_, h1, h2⟩ => by
    refine ⟨by omega, fun hc => ?_, fun hc => ?_, fun c hc => ?_⟩ <;> (have := h2 _ hc; omega)
  cases d with
  | nw z n =>
    intro p hp
    simp [Dd.row] at hp
    rcases hp with rfl | rfl | rfl
    · decide
    · exact hW _ h.1
    · exact hN _ h.2
  | st n z =>
    intro p hp
    simp [Dd.row] at hp
    rcases hp with rfl | rfl | rfl
    · decide
    · exact hN _ h.2
    · exact hW _ h.1
theorem Dd.tl_txt (d : Dd) : tl d.txt = TL.joinL [32] (d.row.map TL.tl) := by
  show TL.tl _ = _
  unfold Dd.txt
  rw [TL.join_eq, TL.tl_join]; rfl
theorem Dd.row_len (d : Dd) : d.row.length = 3 := by cases d <;> rfl
theorem joinL_mem (S : List Nat) : ∀ (rows : List (List Nat)) (c : Nat), c ∈ TL.joinL S rows → c ∈ S ∨ ∃ r ∈ rows, c ∈ r
  | [], c, h => by simp [TL.joinL] at h
  | [r], c, h => by simp [TL.joinL] at h; exact .inr ⟨r, by simp, h⟩
  | r :: q :: t, c, h => by
    have e : TL.joinL S (r :: q :: t) = r ++ (S ++ TL.joinL S (q :: t)) := rfl
    rw [e, List.mem_append, List.mem_append] at h
    rcases h with h | h | h
    · exact .inr ⟨r, by simp, h⟩
    · exact .inl h
    · rcases joinL_mem S (q :: t) c h with h | ⟨x, hx, h⟩
      · exact .inl h
      · exact .inr ⟨x, by simp [hx], h⟩
theorem Dd.txt_ok {d : Dd} (h : d.ok) : (tl d.txt).length ≤ 177 ∧ 59 ∉ tl d.txt ∧ ∀ c ∈ tl d.txt, c < 256 := by
  have hr := Dd.row_ok h
  rw [Dd.tl_txt]
  refine ⟨?_, fun hc => ?_, fun c hc => ?_⟩
  · have := joinL_len [32] (d.row.map TL.tl) 58 (fun r hr' => by
      obtain ⟨p, hp, rfl⟩ := List.mem_map.mp hr'
      exact (hr p hp).1)
    rw [List.length_map, Dd.row_len] at this
    simpa using this
  · rcases joinL_mem _ _ _ hc with h | ⟨x, hx, h⟩
    · simp at h
    · obtain ⟨p, hp, rfl⟩ := List.mem_map.mp hx
      exact (hr p hp).2.2.1 h
  · rcases joinL_mem _ _ _ hc with h | ⟨x, hx, h⟩
    · simp at h; omega
    · obtain ⟨p, hp, rfl⟩ := List.mem_map.mp hx
      exact (hr p hp).2.2.2 c h
/-- the whole text of a list of deeds -/
def txts (l : List Dd) : Str := Txt.join "; " (l.map Dd.txt)
theorem tl_txts (l : List Dd) : tl (txts l) = ((l.map fun d => [59, 32] ++ tl d.txt).flatten).drop 2 := by
  show TL.tl _ = _
  unfold txts
  rw [TL.join_eq, TL.tl_join]
  have e : TL.tl "; " = [59, 32] := rfl
  rw [e, join_glue, List.map_map, List.map_map]
  rfl
theorem flat_len (l : List Dd) (h : ∀ d ∈ l, d.ok) : ((l.map fun d => [59, 32] ++ tl d.txt).flatten).length ≤ l.length * 200 := by
  induction l with
  | nil => simp
  | cons d l ih =>
    have h1 := ih fun x hx => h x (by simp [hx])
    have h2 := (Dd.txt_ok (h d (by simp))).1
    simp only [List.map_cons, List.flatten_cons, List.length_append, List.length_cons, List.length_nil]
    omega
theorem txts_len {l : List Dd} (h : ∀ d ∈ l, d.ok) : (txts l).length ≤ l.length * 200 := by
  have := flat_len l h
  rw [tl_len, tl_txts, List.length_drop]; omega
theorem run_loop {chk : Store → Prop} (hc : ∀ M, chk M) (L : Va) (M : Store) : ∀ (l : List Dd) (t : Str) (s2 s3 s4 : Option Va), (∀ d ∈ l, d.ok) → t.length + l.length * 300 ≤ 1000000 →
    ∃ t' s2' s3' s4', loopF chk (tgTup [(tgName 2), (tgName 3), (tgName 4)]) (sSet 1 (ev2 opAdd (ev2 opAdd (ev2 opAdd (ev2 opAdd (ev2 opAdd (ev2 opAdd (evVar 1) (evC (.str "; "))) (evVar 2)) (evC (.str " "))) (evL (kPure gStr) (evCons (evVar 3) evNil))) (evC (.str " "))) (evL (kPure gStr) (evCons (evVar 4) evNil)))) (l.map Dd.va) [some L, some (.str t), s2, s3, s4] M = some (.nx, [some L, some (.str t'), s2', s3', s4'], M) ∧ tl t' = tl t ++ (l.map fun d => [59, 32] ++ tl d.txt).flatten
  | [], t, s2, s3, s4, _, _ => by
    refine ⟨t, s2, s3, s4, ?_, by simp⟩
    show loopF chk _ _ [] _ M = _
    unfold loopF
    rw [if_pos (hc M)]
  | d :: l, t, s2, s3, s4, hd, hl => by
    rw [List.length_cons] at hl
    have hok := hd d (by simp)
    have hro := Dd.row_ok hok
    obtain ⟨t1, s21, s31, s41, e1, q1⟩ : ∃ t1 s21 s31 s41, (match tgTup [(tgName 2), (tgName 3), (tgName 4)] d.va [some L, some (.str t), s2, s3, s4] M with | none => none | some s1 => sSet 1 (ev2 opAdd (ev2 opAdd (ev2 opAdd (ev2 opAdd (ev2 opAdd (ev2 opAdd (evVar 1) (evC (.str "; "))) (evVar 2)) (evC (.str " "))) (evL (kPure gStr) (evCons (evVar 3) evNil))) (evC (.str " "))) (evL (kPure gStr) (evCons (evVar 4) evNil))) s1 M) = some (.nx, [some L, some (.str t1), s21, s31, s41], M) ∧ tl t1 = tl t ++ ([59, 32] ++ tl d.txt) := by
      have k1 : (Str.ofString "; ").length = 2 := rfl
      have k2 : (Str.ofString " ").length = 1 := rfl
      have k3 : (Str.ofString "new").length = 3 := rfl
      have k4 : (Str.ofString "step").length = 4 := rfl
      rw [Dd.tl_txt]
      cases d with
      | nw z n =>
        have hz : z.length ≤ 58 := by rw [tl_len]; exact (hro z (by simp [Dd.row])).1
        have hlg : n.natAbs.log2 < 1920 := log57 hok.2
        have hn : (nmS n).length ≤ 58 := by rw [tl_len]; exact (hro (nmS n) (by simp [Dd.row])).1
        refine ⟨t ++ "; " ++ "new" ++ " " ++ z ++ " " ++ nmS n, some (.str "new"), some (.str z), some (.int n), ?_, ?_⟩
        · simp (disch := (first | omega | exact hlg | (simp only [len_app]; omega))) [Dd.va, y_addS, y_strN]
        · show TL.tl _ = _
          simp only [TL.tl_append]
          simp [Dd.row, TL.joinL, nmS]
          rfl
      | st n z =>
        have hz : z.length ≤ 58 := by rw [tl_len]; exact (hro z (by simp [Dd.row])).1
        have hlg : n.natAbs.log2 < 1920 := log57 hok.2
        have hn : (nmS n).length ≤ 58 := by rw [tl_len]; exact (hro (nmS n) (by simp [Dd.row])).1
        refine ⟨t ++ "; " ++ "step" ++ " " ++ nmS n ++ " " ++ z, some (.str "step"), some (.int n), some (.str z), ?_, ?_⟩
        · simp (disch := (first | omega | exact hlg | (simp only [len_app]; omega))) [Dd.va, y_addS, y_strN]
        · show TL.tl _ = _
          simp only [TL.tl_append]
          simp [Dd.row, TL.joinL, nmS]
          rfl
    have ht1 : t1.length ≤ t.length + 180 := by
      have := (Dd.txt_ok hok).1
      rw [tl_len t1, q1, List.length_append, List.length_append, ← tl_len]
      simp only [List.length_cons, List.length_nil]; omega
    obtain ⟨t', s2', s3', s4', e2, q2⟩ := run_loop hc L M l t1 s21 s31 s41 (fun x hx => hd x (by simp [hx])) (by omega)
    refine ⟨t', s2', s3', s4', ?_, ?_⟩
    · show loopF chk _ _ (d.va :: l.map Dd.va) _ M = _
      unfold loopF
      rw [if_pos (hc M)]
      revert e1
      cases tgTup [(tgName 2), (tgName 3), (tgName 4)] d.va [some L, some (.str t), s2, s3, s4] M with
      | none => intro e; cases e
      | some s1 =>
        intro e
        dsimp only at e ⊢
        rw [e]
        exact e2
    · rw [q2, q1, List.map_cons, List.flatten_cons, List.append_assoc]
theorem run_text {M : Store} {l : List Dd} (h : ∀ d ∈ l, d.ok) (hl : l.length ≤ 400) : c__law_run_text [.lst (l.map Dd.va)] M = some (.val (.str (txts l)), M) := by
  obtain ⟨t', s2', s3', s4', e, q⟩ := run_loop (chk := fun _ => True) (fun _ => trivial) (.lst (l.map Dd.va)) M l "" none none none h (by
    have : (Str.ofString "").length = 0 := rfl
    rw [this]; omega)
  have q' : tl t' = (l.map fun d => [59, 32] ++ tl d.txt).flatten := by rw [q]; rfl
  have ht : t'.length ≤ 16777216 := by
    have := flat_len l h
    rw [tl_len, q']; omega
  have hr : cutS t' (some 2) none = txts l := by
    apply tl_ext
    rw [show (some 2 : Option Int) = some ((2 : Nat) : Int) from rfl, cut_from, q', tl_txts]
  unfold c__law_run_text runF m__law_run_text
  simp [startI, e, opSl, ht, boundOf, hr]
end Lw

set_option Elab.async false
set_option linter.all false
set_option maxRecDepth 100000
set_option maxHeartbeats 1000000
set_option exponentiation.threshold 3000
namespace Lw
open PySem L2 PV
/-! ### the functions of the program at such lists -/
def Holds (M : Store) (x : Va) (l : List Va) : Prop := x = .lst l ∨ ∃ n, x = .cel n ∧ M.c n = some (.lst l)
theorem Holds.any {M : Store} {x : Va} {l : List Va} (h : Holds M x l) : ∃ chk : Store → Prop, anyO (some (.val x, M)) = some (.it l chk, M) ∧ chk M := by
  rcases h with rfl | ⟨n, rfl, hn⟩
  · exact ⟨_, rfl, trivial⟩
  · refine ⟨fun M => lstOf M (.cel n) = some l, ?_, ?_⟩
    · rw [z_anyC, hn]
    · show lstOf M (.cel n) = some l
      rw [y_lstC, hn]
theorem Holds.lst {M : Store} {x : Va} {l : List Va} (h : Holds M x l) : lstOf M x = some l := by
  rcases h with rfl | ⟨n, rfl, hn⟩
  · rfl
  · rw [y_lstC, hn]
theorem rowsum {d : Dd} (h : d.ok) : ((d.row.map (·.length)).sum : Nat) ≤ 174 := by
  have := sum_len (·.length) 58 d.row fun p hp => by
    show p.length ≤ 58
    rw [tl_len]
    exact (Dd.row_ok h p hp).1
  rw [Dd.row_len] at this
  exact this
theorem show_run {M : Store} {x : Va} {l : List Dd} (hx : Holds M x (l.map Dd.va)) (h : ∀ d ∈ l, d.ok) (hl : l.length ≤ 400) : c_show_run [x] M = some (.val (.str (txts l)), M) := by
  obtain ⟨chk, e, hc⟩ := hx.any
  have c := compL_map (M := M) (chk := chk) (tg := tgName 1) (tt := evYes) (te := (evM2 isStrA (kVal gJoin) (evC (.str " ")) (evCons (evLc (itA (evVar 1)) (tgName 2) evYes (evL (kPure gStr) (evCons (evVar 2) evNil)) [2]) evNil))) (sw := [some x, none, none]) Dd.va (fun d => .str d.txt) hc l (fun d hd => by
    refine ⟨_, rfl, rfl, ?_⟩
    have hs := rowsum (h d hd)
    have k2 : (Str.ofString " ").length = 1 := rfl
    have inn : compL (fun _ => True) (tgName 2) evYes (evL (kPure gStr) (evCons (evVar 2) evNil)) [some x, some d.va, none] (match d with | .nw z n => [.str "new", .str z, .int n] | .st n z => [.str "step", .int n, .str z]) M = some (d.row.map Va.str, M) := by
      have hlg : ∀ n : Int, n.natAbs < 10 ^ 57 → n.natAbs.log2 < 1920 := fun n hn => log57 hn
      cases d with
      | nw z n =>
        have := hlg n (h _ hd).2
        simp (disch := omega) [compL, y_strN, Dd.row]
      | st n z =>
        have := hlg n (h _ hd).2
        simp (disch := omega) [compL, y_strN, Dd.row]
    have hj : gJoin M (.str " ") [.lst (d.row.map Va.str)] = some (.str d.txt) := by
      unfold gJoin
      simp only [y_seqL, strsOf_map]
      rw [if_pos (by rw [Dd.row_len, k2]; omega)]
      rfl
    cases d with
    | nw z n =>
      simp only [Dd.va] at inn
      simp [Dd.va, inn, hj]
    | st n z =>
      simp only [Dd.va] at inn
      simp [Dd.va, inn, hj])
  have hj : gJoin M (.str "; ") [.lst (l.map fun d => Va.str d.txt)] = some (.str (txts l)) := by
    unfold gJoin
    have em : (l.map fun d => Va.str d.txt) = (l.map Dd.txt).map Va.str := by rw [List.map_map]; rfl
    simp only [y_seqL, em, strsOf_map]
    have k2 : (Str.ofString "; ").length = 2 := rfl
    have := sum_len (fun z : Str => z.length) 177 (l.map Dd.txt) fun p hp => by
      obtain ⟨d, hd, rfl⟩ := List.mem_map.mp hp
      show d.txt.length ≤ 177
      rw [tl_len]
      exact (Dd.txt_ok (h d hd)).1
    rw [List.length_map] at this
    rw [if_pos (by rw [List.length_map, k2]; omega)]
    rfl
  unfold c_show_run runF m_show_run
  simp [startI, e, c, hj]
/-! numbers and names -/
theorem blsOf_false {α : Type} : ∀ (l : List α), blsOf (l.map fun _ => Va.bl false) = some (l.map fun _ => false)
  | [] => rfl
  | _ :: l => by simp [blsOf, blsOf_false l]
theorem blsOf_true {α : Type} : ∀ (l : List α), blsOf (l.map fun _ => Va.bl true) = some (l.map fun _ => true)
  | [] => rfl
  | _ :: l => by simp [blsOf, blsOf_true l]
theorem any0 {α : Type} {M : Store} (l : List α) : gAny M [.lst (l.map fun _ => Va.bl false)] = some (.bl false) := by
  unfold gAny
  simp only [y_lstL, blsOf_false, Option.map_some]
  congr 2
  induction l with
  | nil => rfl
  | cons a l ih => simpa using ih
theorem all1 {α : Type} {M : Store} (l : List α) : gAll M [.lst (l.map fun _ => Va.bl true)] = some (.bl true) := by
  unfold gAll
  simp only [y_lstL, blsOf_true, Option.map_some]
  congr 2
  induction l with
  | nil => rfl
  | cons a l ih => simpa using ih
theorem is_name {M : Store} {z : Str} (h : Nm z) : c_is_name [.str z] M = some (.val (.bl true), M) := by
  obtain ⟨h1, h2, h3⟩ := h
  have hl : z.length ≤ 16777216 := by rw [tl_len]; omega
  have hl1 : (1 : Int) ≤ z.length := by rw [tl_len]; omega
  have hl2 : (z.length : Int) ≤ 8 := by rw [tl_len]; omega
  have c := compL_map (M := M) (chk := fun _ => True) (tg := tgName 1) (tt := evYes) (te := (ev2 opInD (evVar 1) (evC (.str "abcdefghijklmnopqrstuvwxyz")))) (sw := [some (.str z), none]) (fun c => Va.str ⟨#[c]⟩) (fun _ => Va.bl true) trivial z.cps.toList (fun c hc => by
    refine ⟨_, rfl, rfl, ?_⟩
    have := h3 c hc
    have ho : opInD M (.str ⟨#[c]⟩) (.str "abcdefghijklmnopqrstuvwxyz") = some (.bl true) := by
      have : opIn M (.str ⟨#[c]⟩) (.str "abcdefghijklmnopqrstuvwxyz") = some (.bl (decide (c ∈ tl lets))) := rfl
      have hm : c ∈ tl lets := by
        have e : tl lets = (List.range 26).map (97 + ·) := by decide
        rw [e, List.mem_map]
        exact ⟨c - 97, List.mem_range.mpr (by omega), by omega⟩
      unfold opInD
      rw [this]
      simp [hm]
    simp [ho])
  unfold c_is_name runF m_is_name
  simp (disch := omega) [startI, y_lenS, hl1, hl2, z_anyS, c, all1]
theorem read_number {M : Store} {n : Int} (h : n.natAbs < 10 ^ 57) : c_read_number [.str (nmS n)] M = some (.val (.int n), M) := by
  have hL := TL.numL_len (k := 57) (by decide) h
  have hT := nm_len (n := n) (k := 57) (by decide) h
  have hne := TL.numL_ne n.natAbs
  have hdg := TL.numL_digits n.natAbs
  have hs : ∃ z, c_read_number [.str (nmS n)] M = (endF (sSeq (sIf (evOr (evNot (evChain opLe opLe (evC (.int 1)) (evL (kPure gLen) (evCons (evVar 1) evNil)) (evC (.int 60)))) (evTru (evL (kPure gAny) (evCons (evLc (itA (evVar 1)) (tgName 2) evYes (ev2 opNotInD (evVar 2) (evC (.str "0123456789"))) [2]) evNil)))) (sRet (evC .non)) sNx)
    (sSeq (sIf (evAnd (ev2 opEq (ev2 opIx (evVar 1) (evC (.int 0))) (evC (.str "0"))) (ev2 opNe (evVar 0) (evC (.str "0")))) (sRet (evC .non)) sNx)
    (sRet (evL (kPure gInt) (evCons (evVar 0) evNil)))) [some (.str (nmS n)), some (.str z), none] M)) ∧ tl z = TL.numL n.natAbs := by
    have hz : (nmS n).length ≤ 16777216 := by rw [tl_len]; omega
    by_cases hn : n < 0
    · refine ⟨cutS (nmS n) (some 1) none, ?_, ?_⟩
      · have hp : Txt.startswith (nmS n) "-" = true := by
          rw [starts_pre (by decide)]
          have e : TL.tl (nmS n) = 45 :: TL.numL n.natAbs := by
            have := nm_tl n
            rw [if_pos hn] at this
            exact this
          rw [e]
          have e2 : TL.tl "-" = [45] := rfl
          rw [e2]
          rfl
        unfold c_read_number runF m_read_number
        simp [startI, gStarts, hp, opSl, hz, boundOf]
      · rw [show (some 1 : Option Int) = some ((1 : Nat) : Int) from rfl, cut_from, nm_tl, if_pos hn]
        rfl
    · refine ⟨nmS n, ?_, by rw [nm_tl, if_neg hn]⟩
      have hp : Txt.startswith (nmS n) "-" = false := by
        rw [starts_pre (by decide)]
        have e : TL.tl (nmS n) = TL.numL n.natAbs := by
          have := nm_tl n
          rw [if_neg hn] at this
          exact this
        have e2 : TL.tl "-" = [45] := rfl
        rw [e, e2]
        generalize TL.numL n.natAbs = l at hne hdg
        cases l with
        | nil => exact absurd rfl hne
        | cons a l =>
          have := hdg a (by simp)
          have ha : (45 == a) = false := by rw [beq_eq_false_iff_ne]; omega
          have hb : (a == 45) = false := by rw [beq_eq_false_iff_ne]; omega
          simp [TL.pre]
          omega
      unfold c_read_number runF m_read_number
      simp [startI, gStarts, hp]
  obtain ⟨z, e, hz⟩ := hs
  rw [e]
  have z0 : z.length ≤ 16777216 := by rw [tl_len, hz]; omega
  have z1 : (1 : Int) ≤ z.length := by
    rw [tl_len, hz]
    cases q : TL.numL n.natAbs with
    | nil => exact absurd q hne
    | cons a l => simp only [List.length_cons]; omega
  have z2 : (z.length : Int) ≤ 60 := by rw [tl_len, hz]; omega
  have c := compL_map (M := M) (chk := fun _ => True) (tg := tgName 2) (tt := evYes) (te := (ev2 opNotInD (evVar 2) (evC (.str "0123456789")))) (sw := [some (.str (nmS n)), some (.str z), none]) (fun c => Va.str ⟨#[c]⟩) (fun _ => Va.bl false) trivial z.cps.toList (fun c hc => by
    refine ⟨_, rfl, rfl, ?_⟩
    have hc' : c ∈ TL.numL n.natAbs := by rw [← hz]; exact hc
    have := hdg c hc'
    have ho : opNotInD M (.str ⟨#[c]⟩) (.str "0123456789") = some (.bl false) := by
      have : opNotIn M (.str ⟨#[c]⟩) (.str "0123456789") = some (.bl (!decide (c ∈ tl "0123456789"))) := rfl
      have hm : c ∈ tl "0123456789" := by
        have e : tl "0123456789" = (List.range 10).map (48 + ·) := by decide
        rw [e, List.mem_map]
        exact ⟨c - 48, List.mem_range.mpr (by omega), by omega⟩
      unfold opNotInD
      rw [this]
      simp [hm]
    simp [ho])
  have hi : gInt M [.str (nmS n)] = some (.int n) := by
    unfold gInt
    have : (nmS n).length ≤ 640 := by rw [tl_len]; omega
    simp only
    rw [if_pos this, nm_val (Nat.lt_of_lt_of_le h (Nat.pow_le_pow_right (by decide) (by decide)))]
    rfl
  obtain ⟨d, t, hd⟩ : ∃ d t, z.cps.toList = d :: t := by
    have hz' : z.cps.toList = TL.numL n.natAbs := hz
    rw [hz']
    cases q : TL.numL n.natAbs with
    | nil => exact absurd q hne
    | cons a l => exact ⟨a, l, rfl⟩
  have hx : opIx M (.str z) (.int 0) = some (.str ⟨#[d]⟩) := by
    unfold opIx
    simp only
    rw [if_pos (le_line z0), hd, at_0]; rfl
  have h0 : (⟨#[d]⟩ : Str) = "0" → nmS n = "0" := by
    intro e
    have hd0 : d = 48 := by
      have : [d] = [48] := congrArg tl e
      simpa using this
    have : n.natAbs = 0 := numL_head _ (by
      have hz' : z.cps.toList = TL.numL n.natAbs := hz
      rw [← hz', hd, hd0]; rfl)
    have : n = 0 := by omega
    subst this
    rfl
  by_cases hq : (⟨#[d]⟩ : Str) = "0"
  · simp (disch := omega) [y_lenS, z1, z2, z_anyS, c, any0, hx, hq, eq_true (h0 hq), hi]
  · simp (disch := omega) [y_lenS, z1, z2, z_anyS, c, any0, hx, hq, hi]
end Lw

set_option Elab.async false
set_option linter.all false
set_option maxRecDepth 100000
set_option maxHeartbeats 1000000
set_option exponentiation.threshold 3000
namespace Lw
open PySem L2 PV
theorem in_words {M : Store} : opNotInD M (.str "new") (.tup [.str "new", .str "step"]) = some (.bl false) ∧ opNotInD M (.str "step") (.tup [.str "new", .str "step"]) = some (.bl false) := ⟨rfl, rfl⟩
theorem split_row {d : Dd} (h : d.ok) : Txt.split d.txt " " = d.row := split_ok (parts := d.row) (sep := " ") (s := 32) (S := []) rfl (by decide) (by cases d <;> simp [Dd.row]) fun p hp => (Dd.row_ok h p hp).2.1
theorem gsplit_row {M : Store} {d : Dd} (h : d.ok) : gSplit M (.str d.txt) [.str " "] = some (.lst (d.row.map Va.str)) := by
  unfold gSplit
  have := (Dd.txt_ok h).1
  simp only
  rw [if_pos ⟨rfl, le_line (by rw [tl_len]; omega)⟩, split_row h]
theorem neS {a b : Str} (h : a ≠ b) : (a = b) = False := eq_false h
theorem read_deed {M : Store} {d : Dd} (h : d.ok) : c_read_deed [.str d.txt] M = some (.val d.va, M) := by
  have hg := gsplit_row (M := M) h
  have hw := in_words (M := M)
  have hne : (Str.ofString "step" : Str) ≠ Str.ofString "new" := by decide
  cases d with
  | nw z n =>
    unfold c_read_deed runF m_read_deed
    simp [startI, hg, Dd.row, read_number h.2, hw, is_name h.1, Dd.va]
  | st n z =>
    unfold c_read_deed runF m_read_deed
    simp [startI, hg, Dd.row, read_number h.2, hw, is_name h.1, Dd.va, neS hne]
/-! the data -/
def Dd.pd : Dd → PyData
  | .nw z n => .tuple [.str "new", .str z, .int n]
  | .st n z => .tuple [.str "step", .int n, .str z]
theorem Dd.reads {M : Store} (d : Dd) : PdR M d.va d.pd := by
  cases d with
  | nw z n => exact .tup (.cons (.str _) (.cons (.str _) (.cons (.int _) .nil)))
  | st n z => exact .tup (.cons (.str _) (.cons (.int _) (.cons (.str _) .nil)))
theorem dds_reads {M : Store} : ∀ l : List Dd, PdRs M (l.map Dd.va) (l.map Dd.pd)
  | [] => .nil
  | d :: l => .cons d.reads (dds_reads l)
theorem lst_reads {M : Store} {x : Va} {l : List Dd} (h : Holds M x (l.map Dd.va)) : PdR M x (.list (l.map Dd.pd)) := .lst h.lst (dds_reads l)
theorem strOk_of {z : Str} (h : ∀ c ∈ tl z, c < 256) : PySem.PyData.strOk z = true := by
  unfold PySem.PyData.strOk
  rw [Array.all_eq_true_iff_forall_mem]
  intro c hc
  have := h c (Array.mem_toList_iff.mpr hc)
  exact decide_eq_true (by omega)
theorem Nm.lt {z : Str} (h : Nm z) : ∀ c ∈ tl z, c < 256 := fun c hc => by
  have := h.2.2 c hc
  omega
theorem short_str {z : Str} (h : ∀ c ∈ tl z, c < 256) : (PyData.str z).leavesShort 60 = true := by
  unfold PyData.leavesShort
  rw [List.all_eq_true]
  intro c hc
  have := h c hc
  exact decide_eq_true (by omega)
theorem short_int {n : Int} (h : n.natAbs < 10 ^ 57) : (PyData.int n).leavesShort 60 = true := by
  unfold PyData.leavesShort
  refine decide_eq_true ?_
  show (nmS n).length ≤ 60
  have := nm_len (by decide) h
  rw [tl_len]; omega
theorem weight_int {n : Int} (h : n.natAbs < 10 ^ 57) : (PyData.int n).weight ≤ 192 := by
  unfold PyData.weight
  split
  · omega
  · rename_i h0
    have : n.natAbs ≠ 0 := by
      intro e
      apply h0
      rw [beq_iff_eq]; omega
    have := (Nat.log2_lt (k := 190) this).mpr (Nat.lt_trans h (by decide))
    omega
theorem Dd.facts {d : Dd} (h : d.ok) : d.pd.leavesShort 60 = true ∧ d.pd.weight ≤ 250 ∧ d.pd.depth ≤ 1 ∧ d.pd.canLay0 = true ∧ d.pd.showable = true ∧ d.pd.hasDict = false := by
  have hz : ∀ z : Str, Nm z → (PyData.str z).weight ≤ 8 := fun z hz => by
    unfold PyData.weight
    exact hz.2.1
  cases d with
  | nw z n =>
    have a1 := short_str h.1.lt
    have a2 := short_int h.2
    have a3 := weight_int h.2
    have a4 := hz z h.1
    have a5 := strOk_of h.1.lt
    have a6 : (PyData.str "new").leavesShort 60 = true := by decide
    have a7 : (PyData.str "new").weight ≤ 8 := by decide
    have a8 : PySem.PyData.strOk "new" = true := strOk_of (by decide)
    have a9 := log57 h.2
    refine ⟨by simp [Dd.pd, PyData.leavesShort, PyData.leavesShortAll] at *; simp [a1, a2, a6], ?_, ?_, ?_, ?_, ?_⟩
    · simp only [Dd.pd, PyData.weight, PyData.weightAll] at *; omega
    · simp [Dd.pd, PyData.depth, PyData.depthAll]
    · simp [Dd.pd, PyData.canLay0, PyData.canLayAll0, a5, a8]
    · simp [Dd.pd, PyData.showable, PyData.showableAll, a9]
    · simp [Dd.pd, PyData.hasDict, PyData.hasDictAll]
  | st n z =>
    have a1 := short_str h.1.lt
    have a2 := short_int h.2
    have a3 := weight_int h.2
    have a4 := hz z h.1
    have a5 := strOk_of h.1.lt
    have a6 : (PyData.str "step").leavesShort 60 = true := by decide
    have a7 : (PyData.str "step").weight ≤ 8 := by decide
    have a8 : PySem.PyData.strOk "step" = true := strOk_of (by decide)
    have a9 := log57 h.2
    refine ⟨by simp [Dd.pd, PyData.leavesShort, PyData.leavesShortAll] at *; simp [a1, a2, a6], ?_, ?_, ?_, ?_, ?_⟩
    · simp only [Dd.pd, PyData.weight, PyData.weightAll] at *; omega
    · simp [Dd.pd, PyData.depth, PyData.depthAll]
    · simp [Dd.pd, PyData.canLay0, PyData.canLayAll0, a5, a8]
    · simp [Dd.pd, PyData.showable, PyData.showableAll, a9]
    · simp [Dd.pd, PyData.hasDict, PyData.hasDictAll]
theorem all_facts : ∀ {l : List Dd}, (∀ d ∈ l, d.ok) → PyData.leavesShortAll 60 (l.map Dd.pd) = true ∧ PyData.weightAll (l.map Dd.pd) ≤ l.length * 251 ∧ PyData.depthAll (l.map Dd.pd) ≤ 1 ∧ PyData.canLayAll0 (l.map Dd.pd) = true ∧ PyData.showableAll (l.map Dd.pd) = true ∧ PyData.hasDictAll (l.map Dd.pd) = false
  | [], _ => by simp [PyData.leavesShortAll, PyData.weightAll, PyData.depthAll, PyData.canLayAll0, PyData.showableAll, PyData.hasDictAll]
  | d :: l, h => by
    obtain ⟨a1, a2, a3, a4, a5, a6⟩ := Dd.facts (h d (by simp))
    obtain ⟨b1, b2, b3, b4, b5, b6⟩ := all_facts (l := l) fun x hx => h x (by simp [hx])
    refine ⟨by simp [PyData.leavesShortAll, a1, b1], ?_, ?_, by simp [PyData.canLayAll0, a4, b4], by simp [PyData.showableAll, a5, b5], by simp [PyData.hasDictAll, a6, b6]⟩
    · simp only [List.map_cons, PyData.weightAll, List.length_cons]; omega
    · simp only [List.map_cons, PyData.depthAll]; omega
theorem repr_lst {M : Store} {x : Va} {l : List Dd} (hx : Holds M x (l.map Dd.va)) (h : ∀ d ∈ l, d.ok) (hl : l.length ≤ 400) : kRepr [x] M = some (.val (.str (PyData.list (l.map Dd.pd)).shown), M) := by
  obtain ⟨b1, b2, b3, b4, b5, b6⟩ := all_facts h
  refine repr_of (lst_reads hx) (by simpa [PyData.showable] using b5) (by simpa [PyData.hasDict] using b6) (shown_ok (B := 60) (W := 400 * 251) (by decide) (by simpa [PyData.leavesShort] using b1) ?_ (by decide)) ?_
  · simp only [PyData.weight]; omega
  · simp only [PyData.depth]; omega
theorem txts_lt {l : List Dd} (h : ∀ d ∈ l, d.ok) : ∀ c ∈ tl (txts l), c < 256 := by
  intro c hc
  rw [tl_txts] at hc
  have hc := List.mem_of_mem_drop hc
  rw [List.mem_flatten] at hc
  obtain ⟨r, hr, hc⟩ := hc
  obtain ⟨d, hd, rfl⟩ := List.mem_map.mp hr
  rcases List.mem_append.mp hc with hc | hc
  · simp at hc; omega
  · exact (Dd.txt_ok (h d hd)).2.2 c hc
theorem repr_txts {M : Store} {l : List Dd} (h : ∀ d ∈ l, d.ok) (hl : l.length ≤ 400) : kRepr [.str (txts l)] M = some (.val (.str (PyData.str (txts l)).shown), M) := by
  have := txts_len h
  rw [tl_len] at this
  refine repr_of (.str _) (by simp [PyData.showable]) (by simp [PyData.hasDict]) (shown_ok (B := 60) (W := 80000) (by decide) (short_str (txts_lt h)) ?_ (by decide)) ?_
  · simp only [PyData.weight]
    show (tl (txts l)).length ≤ 80000
    omega
  · simp [PyData.depth]
theorem txts_ne {l : List Dd} (hl : l ≠ []) : txts l ≠ "" := by
  intro e
  cases l with
  | nil => exact hl rfl
  | cons d l =>
    have e2 := congrArg tl e
    rw [tl_txts] at e2
    have e3 : tl (Str.ofString "") = [] := rfl
    rw [e3] at e2
    have e4 := congrArg List.length e2
    rw [List.length_drop, List.map_cons, List.flatten_cons, List.length_append, List.length_append] at e4
    have : 1 ≤ (tl d.txt).length := by
      rw [Dd.tl_txt]
      have k3 : (Str.ofString "new").cps.size = 3 := rfl
      have k4 : (Str.ofString "step").cps.size = 4 := rfl
      cases d <;> simp [Dd.row, TL.joinL] <;> omega
    simp only [List.length_cons, List.length_nil] at e4
    omega
theorem read_run {M : Store} {l : List Dd} (h : ∀ d ∈ l, d.ok) (hl : l.length ≤ 400) : c_read_run [.str (txts l)] M = some (.val (.cel M.nx), M.new (.lst (l.map Dd.va))) := by
  unfold c_read_run runF m_read_run
  by_cases h0 : l = []
  · subst h0
    have : txts [] = "" := rfl
    simp [startI, this]
  · have hg : gSplit M (.str (txts l)) [.str "; "] = some (.lst ((l.map Dd.txt).map Va.str)) := by
      unfold gSplit
      have := txts_len h
      simp only
      rw [if_pos ⟨rfl, le_line (by omega)⟩]
      have : Txt.split (txts l) "; " = l.map Dd.txt := split_ok (parts := l.map Dd.txt) (sep := "; ") (s := 59) (S := [32]) rfl (by decide) (by simpa using h0) fun p hp => by
        obtain ⟨d, hd, rfl⟩ := List.mem_map.mp hp
        exact (Dd.txt_ok (h d hd)).2.1
      rw [this]
    have c := compL_map (M := M) (chk := fun _ => True) (tg := tgName 2) (tt := evYes) (te := (evL (kFn 1 c_read_deed) (evCons (evVar 2) evNil))) (sw := [some (.str (txts l)), none, none]) (fun d : Dd => Va.str d.txt) Dd.va trivial l (fun d hd => by
      refine ⟨_, rfl, rfl, ?_⟩
      simp [read_deed (h d hd)])
    have hn : opInD (M.new (.lst (l.map Dd.va))) .non (.cel M.nx) = some (.bl false) := by
      have hH : Holds (M.new (.lst (l.map Dd.va))) (.cel M.nx) (l.map Dd.va) := .inr ⟨_, rfl, new_same⟩
      have e1 : opIn (M.new (.lst (l.map Dd.va))) .non (.cel M.nx) = none := by
        unfold opIn
        simp only [y_seqC, new_same]
        cases l with
        | nil => exact absurd rfl h0
        | cons d l => cases d <;> simp [Dd.va, flatA]
      unfold opInD
      rw [e1]
      unfold inP
      rw [pdOf_eq .non, pdOf_eq (lst_reads hH)]
      obtain ⟨b1, b2, b3, b4, b5, b6⟩ := all_facts h
      have s1 : SeqAt.shaped (.list (l.map Dd.pd)) = true := by
        unfold SeqAt.shaped
        simp only [PyData.canLay0, PyData.depth, b4]
        simp; omega
      simp only [Option.bind_some, pdList]
      rw [if_pos ⟨by decide, s1⟩]
      have : (l.map Dd.pd).any (fun z => PyData.eqv z .none) = false := by
        rw [List.any_eq_false]
        intro x hx
        obtain ⟨d, hd, rfl⟩ := List.mem_map.mp hx
        cases d <;> simp [Dd.pd, PyData.eqv]
      rw [this]; rfl
    have em : (l.map Dd.txt).map Va.str = l.map fun d => Va.str d.txt := by rw [List.map_map]; rfl
    rw [em] at hg
    simp [startI, neS (txts_ne h0), hg, c, hn]
theorem list_right {M : Store} {l : List Dd} (h : ∀ d ∈ l, d.ok) (hl : l.length ≤ 400) : ∃ M', c__law_list_right [.lst (l.map Dd.va)] M = some (.val (.bl true), M') ∧ M.nx ≤ M'.nx ∧ ∀ n, n < M.nx → M'.c n = M.c n := by
  have H1 : ∀ M, Holds M (.lst (l.map Dd.va)) (l.map Dd.va) := fun M => .inl rfl
  have H2 : Holds (M.new (.lst (l.map Dd.va))) (.cel M.nx) (l.map Dd.va) := .inr ⟨_, rfl, new_same⟩
  have r1 := fun M => repr_lst (H1 M) h hl
  have r2 := repr_lst H2 h hl
  have r3 := fun M => repr_txts (M := M) h hl
  have s1 := fun M => show_run (H1 M) h hl
  have s2 := show_run H2 h hl
  have rr := fun M => read_run (M := M) h hl
  let M2 := (M.new (.lst (l.map Dd.va))).put M.nx (.lst (l.map Dd.va ++ [.tup [.str "new", .str "late", .int 1]]))
  have r4 := repr_lst (M := M2.new (.lst (l.map Dd.va))) (x := .cel M2.nx) (.inr ⟨_, rfl, new_same⟩) h hl
  have r5 : kRepr [.cel (M.nx + 1)] (((M.new (.lst (l.map Dd.va))).put M.nx (.lst (l.map Dd.va ++ [.tup [.str "new", .str "late", .int 1]]))).new (.lst (l.map Dd.va))) = some (.val (.str (PyData.list (l.map Dd.pd)).shown), (((M.new (.lst (l.map Dd.va))).put M.nx (.lst (l.map Dd.va ++ [.tup [.str "new", .str "late", .int 1]]))).new (.lst (l.map Dd.va)))) := r4
  refine ⟨M2.new (.lst (l.map Dd.va)), ?_, ?_, ?_⟩
  · unfold c__law_list_right runF m__law_list_right
    have hlen : l.length < 16777216 := by omega
    simp [startI, run_text h hl, gList, s1, r1, r3, rr, r2, s2, isLstA, cAppend, hlen, r5, M2]
  · show M.nx ≤ M.nx + 1 + 1
    omega
  · intro n hn
    have : M2.nx = M.nx + 1 := rfl
    rw [new_ne (by omega), put_ne (by omega), new_ne (by omega)]
end Lw

set_option Elab.async false
set_option linter.all false
set_option maxRecDepth 100000
set_option maxHeartbeats 1000000
set_option exponentiation.threshold 3000
namespace Lw
open PySem L2 PV
theorem eq_nil {M : Store} {l : List Dd} (h : ∀ d ∈ l, d.ok) : opEq M (.lst (l.map Dd.va)) (.lst []) = some (.bl (decide (l = []))) := by
  unfold opEq eqS eqP
  rw [pdOf_eq (lst_reads (.inl rfl)), pdOf_eq (.lst rfl .nil)]
  obtain ⟨b1, b2, b3, b4, b5, b6⟩ := all_facts h
  have s1 : SeqAt.shaped (.list (l.map Dd.pd)) = true := by
    unfold SeqAt.shaped
    simp only [PyData.canLay0, PyData.depth, b4]
    simp; omega
  simp only
  rw [if_pos ⟨s1, by decide⟩]
  cases l <;> simp [PyData.eqv, PyData.eqvAll]
theorem flat_2 {l : List Dd} (h : l ≠ []) : ∃ r, (l.map fun d => [59, 32] ++ tl d.txt).flatten = 59 :: 32 :: r := by
  cases l with
  | nil => exact absurd rfl h
  | cons d l => exact ⟨_, rfl⟩
theorem txts_app {a b : List Dd} (ha : a ≠ []) (hb : b ≠ []) : txts a ++ "; " ++ txts b = txts (a ++ b) := by
  apply tl_ext
  show TL.tl _ = _
  rw [TL.tl_append, TL.tl_append]
  show tl (txts a) ++ [59, 32] ++ tl (txts b) = tl (txts (a ++ b))
  rw [tl_txts, tl_txts, tl_txts, List.map_append, List.flatten_append]
  obtain ⟨r, hr⟩ := flat_2 ha
  obtain ⟨q, hq⟩ := flat_2 hb
  rw [hr, hq]
  simp
theorem right {M : Store} {w : Nat} (h : Wl M w 0) : ∃ M', c__law_right [.cel w] M = some (.val (.bl true), M') := by
  obtain ⟨l1, M1, e1, n1, o1, h1, k1⟩ := deeds 190 (by omega) h (by omega)
  obtain ⟨l2, M2, e2, n2, o2, h2, k2⟩ := deeds 10 (by omega) h1 (by omega)
  have o3 : ∀ d ∈ l1 ++ l2, d.ok := fun d hd => (List.mem_append.mp hd).elim (o1 d) (o2 d)
  have n3 : (l1 ++ l2).length ≤ 400 := by rw [List.length_append]; omega
  obtain ⟨M3, e3, _⟩ := list_right (M := M2) o1 (by omega)
  obtain ⟨M4, e4, _⟩ := list_right (M := M3) o2 (by omega)
  obtain ⟨M5, e5, _⟩ := list_right (M := M4) o3 n3
  have hadd : ∀ M, opAdd M (.lst (l1.map Dd.va)) (.lst (l2.map Dd.va)) = some (.lst ((l1 ++ l2).map Dd.va)) := fun M => by
    unfold opAdd
    simp only [y_ownL]
    rw [if_pos (by rw [List.length_map, List.length_map]; exact le_line (by omega)), List.map_append]
  have s1 := fun M => show_run (M := M) (.inl rfl) o1 (by omega)
  have s2 := fun M => show_run (M := M) (.inl rfl) o2 (by omega)
  have s3 := fun M => show_run (M := M) (.inl rfl) o3 n3
  simp only [List.map_append] at e5 s3 hadd
  refine ⟨M5, ?_⟩
  unfold c__law_right runF m__law_right
  have q1 := fun M => eq_nil (M := M) o1
  have q2 := fun M => eq_nil (M := M) o2
  have t1 := txts_len o1
  have t2 := txts_len o2
  have k2 : (Str.ofString "; ").length = 2 := rfl
  by_cases ha : l1 = []
  · simp [startI, e1, e2, e3, e4, hadd, e5, q1, eq_true ha]
  · by_cases hb : l2 = []
    · simp [startI, e1, e2, e3, e4, hadd, e5, q1, q2, eq_false ha, eq_true hb]
    · have := txts_app ha hb
      simp (disch := (first | omega | (simp only [len_app]; omega))) [startI, e1, e2, e3, e4, hadd, e5, q1, q2, eq_false ha, eq_false hb, s1, s2, s3, y_addS, this]
/-- the walk over the cells -/
theorem cells_ok {chk : Store → Prop} (hc : ∀ M, chk M) (s0 : Option Va) (cs : List Int) (hcs : cs.length ≤ 8) : ∀ (l : List Va) (s2 : Option Va) (M : Store), (∀ x ∈ l, ∃ i : Int, x = .int i ∧ 0 ≤ i ∧ i < cs.length) →
    ∃ s2' M', loopF chk (tgName 2) (sIf (evNot (evTru (evL (kFn 1 c__law_right) (evCons (evL (kFn 2 c__law_well) (evCons (ev2 opIx (evVar 1) (evVar 2)) (evCons (evVar 2) evNil))) evNil)))) (sRet (evC (.bl false))) sNx) l [s0, some (.lst (cs.map Va.int)), s2] M = some (.nx, [s0, some (.lst (cs.map Va.int)), s2'], M')
  | [], s2, M, _ => by
    refine ⟨s2, M, ?_⟩
    unfold loopF
    rw [if_pos (hc M)]
  | x :: l, s2, M, h => by
    obtain ⟨i, rfl, h0, h1⟩ := h x (by simp)
    obtain ⟨v, e, hv, _⟩ := at_nat (l := cs.map Va.int) h0 (by rw [List.length_map]; exact h1)
    obtain ⟨c, _, rfl⟩ := List.mem_map.mp hv
    obtain ⟨M1, e1, w1, _⟩ := well c i M
    obtain ⟨M2, e2⟩ := right w1
    obtain ⟨s2', M', e3⟩ := cells_ok hc s0 cs hcs l (some (.int i)) M2 fun y hy => h y (by simp [hy])
    refine ⟨s2', M', ?_⟩
    unfold loopF
    rw [if_pos (hc M)]
    simp [e, e1, e2, e3]
theorem eq_scr {M : Store} {ns : List Int} : opEq M (.scr ns) (.lst []) = some (.bl (decide (ns = []))) := by
  have hr : ∀ ns : List Int, PdRs M (ns.map Va.int) (ns.map PyData.int) := fun ns => by
    induction ns with
    | nil => exact .nil
    | cons n ns ih => exact .cons (.int _) ih
  unfold opEq eqS eqP
  rw [pdOf_eq (.lst (l := ns.map Va.int) rfl (hr ns)), pdOf_eq (.lst rfl .nil)]
  simp only
  rw [if_pos ⟨PySem.W.ke_shaped_ints ns, by decide⟩]
  cases ns <;> simp [PyData.eqv, PyData.eqvAll]
theorem cut_to {α : Type} (l : List α) (k : Nat) : cutA l none (some (k : Int)) = l.take k := by
  unfold cutA
  rw [HT.sIx_nat, HT.sIx_none]
  by_cases h : k ≤ l.length
  · rw [Nat.min_eq_left h]; simp
  · rw [Nat.min_eq_right (by omega), List.drop_zero, List.take_of_length_le (by omega), List.take_of_length_le (by omega)]
theorem lawOk (ns : List Int) (hl : ns.length ≤ 63) : ∃ M', c_law [.scr ns] ⟨fun _ => none, 0⟩ = some (.val (.bl true), M') := by
  have key : ∀ (cs : List Int), cs.length ≤ 8 → ev2 opAdd (evSl (evVar 0) (evC .non) (evB (evC (.int 8)))) (ev2 opMul (evL kLst (evCons (evC (.int 0)) evNil)) (evL (kPure gInt) (evCons (ev2 opEq (evVar 0) (evL kLst evNil)) evNil))) [some (.scr ns), none, none] ⟨fun _ => none, 0⟩ = some (.val (.lst (cs.map Va.int)), ⟨fun _ => none, 0⟩) → ∃ M', c_law [.scr ns] ⟨fun _ => none, 0⟩ = some (.val (.bl true), M') := by
    intro cs hc e
    obtain ⟨s2', M', e3⟩ := cells_ok (chk := fun _ => True) (fun _ => trivial) (some (.scr ns)) cs hc ((List.range cs.length).map fun (i : Nat) => Va.int i) none ⟨fun _ => none, 0⟩ (by
      intro x hx
      obtain ⟨i, hi, rfl⟩ := List.mem_map.mp hx
      have := List.mem_range.mp hi
      exact ⟨i, rfl, by omega, by omega⟩)
    refine ⟨M', ?_⟩
    unfold c_law runF m_law
    have e0 : startI 3 [Va.scr ns] = [some (.scr ns), none, none] := rfl
    rw [e0, x_seq, x_set, e]
    simp (disch := omega) [z_rng, e3]
  by_cases h : ns = []
  · subst h
    refine key [0] (by decide) ?_
    simp [opSl, boundOf, eq_scr, opMul, opAdd, cutA]
  · refine key (ns.take 8) (by simp; omega) ?_
    have hb : cutA (ns.map Va.int) none (some 8) = (ns.take 8).map Va.int := by
      rw [show (some 8 : Option Int) = some ((8 : Nat) : Int) from rfl, cut_to, List.map_take]
    have hlen : min 8 ns.length ≤ 16777216 := by omega
    simp [opSl, boundOf, eq_scr, opMul, opAdd, hb, eq_false h, hlen]
end Lw

set_option Elab.async false
set_option linter.all false
set_option maxRecDepth 100000
set_option maxHeartbeats 4000000
namespace Lw
open PySem L2 PV
def top (i : Nat) : Stmt := PySem.Challenge.pw_paidinparts_k53_texts_of_deeds.main.body.getD i noS
structure Tx (mg : Str → Option Value) : Prop where
  b_all : mg "all" = none
  b_any : mg "any" = none
  b_int : mg "int" = none
  b_len : mg "len" = none
  b_list : mg "list" = none
  b_max : mg "max" = none
  b_range : mg "range" = none
  b_repr : mg "repr" = none
  b_str : mg "str" = none
  g_DIGITS : ∃ t, mg "DIGITS" = some (.str "0123456789" t)
  g_LETTERS : ∃ t, mg "LETTERS" = some (.str "abcdefghijklmnopqrstuvwxyz" t)
  g_MOST_DIGITS : ∃ t, mg "MOST_DIGITS" = some (.int 60 t)
  g_MOST_LETTERS : ∃ t, mg "MOST_LETTERS" = some (.int 8 t)
section
variable {P : Program} {w : World} {K : PySem.W.Frag} {mg : Str → Option Value} {base : Heap} {CA : Nat → Addr}
abbrev s_is_name : Stmt := top 6
abbrev N_is_name : List Str := ["text", "letter"]
theorem sc_is_name : FnScope N_is_name ["text"] (defScope s_is_name) := ⟨rfl, rfl, rfl, by decide +kernel, rfl, by decide +kernel, by decide +kernel⟩
theorem b_is_name (T : Tx mg)  {f : Addr} (cdv : Value) (A : Around) (outer : List Env) (s : Shared) (H : Hp) (E : XK) (hr : Room 0 (A.deeper (PyProof.Rows.envOfC "is_name" (defScope s_is_name) s.heap.objs.size f cdv))) (hgd : A.guards = some []) :
    PSs (cxOf CX0 P w K mg base N_is_name "is_name" (defScope s_is_name) f cdv A outer s H E).nox (defBody s_is_name) (tS ⟨K, CA⟩ E0 m_is_name) := by
  let G : Sig := ⟨K, CA⟩
  exact (qss_one (qs_ret (q_and (q_chain op_le s_le op_le s_le qc_int (q_callB (call_len_seq.or (call_len_str.or call_lenD)) (s_len rfl) (by rfl) T.b_len bt_len (qa_cons (qv 0) qa_nil)) (qg_intE (by rfl) T.g_MOST_LETTERS)) (q_one (q_callB (cr_all rfl) (s_all rfl) (by rfl) T.b_all bt_all (qa_cons (q_lc (own := [("letter", 1)]) (E2 := E0) rfl sc_is_name.nd (qi_any rfl (qv 0)) (blkOk_by (N := N_is_name) (sc := (defScope s_is_name)) (by decide +kernel)) (fun _ _ _ _ _ => (qg_name (i := 1) sc_is_name.nd rfl (by first | exact Or.inl rfl | exact Or.inr rfl))) (fun _ _ _ _ _ => qts_nil) (fun _ _ _ _ _ => (q_cmp ((op_in_sign.or op_in_seq).or (op_inP (G := G) rfl hr)) (s_inD rfl) (qv 1) (qg_strE (by rfl) T.g_LETTERS) (by rfl)))) qa_nil))))))
theorem w_is_name {f : Addr} {fd : FuncData} (F : Fun K "is_name" "is_name" s_is_name f fd) (m : mg "is_name" = some (.ref f)) (T : Tx mg)  : Cal P w K mg base ⟨K, CA⟩ "is_name" 1 1 c_is_name :=
  cal_of F sc_is_name m (F.binds fun _ _ _ _ _ _ us hl => match us, hl with | [_], _ => rfl) rfl rfl rfl (b_is_name T )
abbrev s_show_run : Stmt := top 8
abbrev N_show_run : List Str := ["deeds", "deed", "entry"]
theorem sc_show_run : FnScope N_show_run ["deeds"] (defScope s_show_run) := ⟨rfl, rfl, rfl, by decide +kernel, rfl, by decide +kernel, by decide +kernel⟩
theorem b_show_run (T : Tx mg)  {f : Addr} (cdv : Value) (A : Around) (outer : List Env) (s : Shared) (H : Hp) (E : XK) (hr : Room 0 (A.deeper (PyProof.Rows.envOfC "show_run" (defScope s_show_run) s.heap.objs.size f cdv))) (hgd : A.guards = some []) :
    PSs (cxOf CX0 P w K mg base N_show_run "show_run" (defScope s_show_run) f cdv A outer s H E).nox (defBody s_show_run) (tS ⟨K, CA⟩ E0 m_show_run) := by
  let G : Sig := ⟨K, CA⟩
  exact (qss_one (qs_ret (q_bm rfl PySem.F.plainAttrs_str PySem.F.slot_str_join PySem.F.type_str_join mt_join tyStr (s_join rfl) qc_str (qa_cons (q_lc (own := [("deed", 1)]) (E2 := E0) rfl sc_show_run.nd (qi_any rfl (qv 0)) (blkOk_by (N := N_show_run) (sc := (defScope s_show_run)) (by decide +kernel)) (fun _ _ _ _ _ => (qg_name (i := 1) sc_show_run.nd rfl (by first | exact Or.inl rfl | exact Or.inr rfl))) (fun _ _ _ _ _ => qts_nil) (fun _ _ _ _ _ => (q_bm rfl PySem.F.plainAttrs_str PySem.F.slot_str_join PySem.F.type_str_join mt_join tyStr (s_join rfl) qc_str (qa_cons (q_lc (own := [("entry", 2)]) (E2 := E0) rfl sc_show_run.nd (qi_any rfl (qv 1)) (blkOk_by (N := N_show_run) (sc := (relS (eSc (eAt 1 (sEx 0 (sAt 0 (defBody s_show_run))))) (defScope s_show_run))) (by decide +kernel)) (fun _ _ _ _ _ => (qg_name (i := 2) sc_show_run.nd rfl (by first | exact Or.inl rfl | exact Or.inr rfl))) (fun _ _ _ _ _ => qts_nil) (fun _ _ _ _ _ => (q_callTy (call_str_int.or SkE.call_str_str) s_str (by rfl) T.b_str bt_str (qa_cons (qv 2) qa_nil)))) qa_nil)))) qa_nil))))
theorem w_show_run {f : Addr} {fd : FuncData} (F : Fun K "show_run" "show_run" s_show_run f fd) (m : mg "show_run" = some (.ref f)) (T : Tx mg)  : Cal P w K mg base ⟨K, CA⟩ "show_run" 1 1 c_show_run :=
  cal_of F sc_show_run m (F.binds fun _ _ _ _ _ _ us hl => match us, hl with | [_], _ => rfl) rfl rfl rfl (b_show_run T )
abbrev s_read_number : Stmt := top 12
abbrev N_read_number : List Str := ["word", "digits", "digit"]
theorem sc_read_number : FnScope N_read_number ["word"] (defScope s_read_number) := ⟨rfl, rfl, rfl, by decide +kernel, rfl, by decide +kernel, by decide +kernel⟩
theorem b_read_number (T : Tx mg)  {f : Addr} (cdv : Value) (A : Around) (outer : List Env) (s : Shared) (H : Hp) (E : XK) (hr : Room 0 (A.deeper (PyProof.Rows.envOfC "read_number" (defScope s_read_number) s.heap.objs.size f cdv))) (hgd : A.guards = some []) :
    PSs (cxOf CX0 P w K mg base N_read_number "read_number" (defScope s_read_number) f cdv A outer s H E).nox (defBody s_read_number) (tS ⟨K, CA⟩ E0 m_read_number) := by
  let G : Sig := ⟨K, CA⟩
  exact (qss_cons (qs_set (i := 1) sc_read_number.nd rfl (by first | exact Or.inl rfl | exact Or.inr rfl) (q_if (qt_tru rfl (q_bm rfl PySem.F.plainAttrs_str PySem.F.slot_str_startswith PySem.F.type_str_startswith mt_startswith tyStr s_starts (qv 0) (qa_cons qc_str qa_nil))) (q_sl rfl (qv 0) (qo_b qc_int) qo_none) (qv 0)))
      (qss_cons (qs_if (qt_pw (qw_or (qt_not (qt_chain op_le s_le op_le s_le qc_int (q_callB (call_len_seq.or (call_len_str.or call_lenD)) (s_len rfl) (by rfl) T.b_len bt_len (qa_cons (qv 1) qa_nil)) (qg_intE (by rfl) T.g_MOST_DIGITS))) (qw_or1 (qt_tru rfl (q_callB (cr_any rfl) (s_any rfl) (by rfl) T.b_any bt_any (qa_cons (q_lc (own := [("digit", 2)]) (E2 := E0) rfl sc_read_number.nd (qi_any rfl (qv 1)) (blkOk_by (N := N_read_number) (sc := (defScope s_read_number)) (by decide +kernel)) (fun _ _ _ _ _ => (qg_name (i := 2) sc_read_number.nd rfl (by first | exact Or.inl rfl | exact Or.inr rfl))) (fun _ _ _ _ _ => qts_nil) (fun _ _ _ _ _ => (q_cmp ((op_notIn_sign.or op_notIn_seq).or (op_notInP (G := G) rfl hr)) (s_notInD rfl) (qv 2) (qg_strE (by rfl) T.g_DIGITS) (by rfl)))) qa_nil)))))) (qss_one (qs_ret qc_non)) qss_nil)
      (qss_cons (qs_if (qt_pw (qw_and (qt_cmp (op_eq.or (op_eqA (G := G) rfl hr)) s_eq (q_ix ix_seq (s_ix rfl) (qv 1) qc_int) qc_str (nomark _)) (qw_and1 (qt_cmp (op_ne.or (op_neA (G := G) rfl hr)) s_ne (qv 0) qc_str (nomark _))))) (qss_one (qs_ret qc_non)) qss_nil)
      (qss_one (qs_ret (q_callTy (call_int1.or call_int_str) s_int (by rfl) T.b_int bt_int (qa_cons (qv 0) qa_nil)))))))
theorem w_read_number {f : Addr} {fd : FuncData} (F : Fun K "read_number" "read_number" s_read_number f fd) (m : mg "read_number" = some (.ref f)) (T : Tx mg)  : Cal P w K mg base ⟨K, CA⟩ "read_number" 1 1 c_read_number :=
  cal_of F sc_read_number m (F.binds fun _ _ _ _ _ _ us hl => match us, hl with | [_], _ => rfl) rfl rfl rfl (b_read_number T )
abbrev s_read_deed : Stmt := top 13
abbrev N_read_deed : List Str := ["row", "words", "number", "name"]
theorem sc_read_deed : FnScope N_read_deed ["row"] (defScope s_read_deed) := ⟨rfl, rfl, rfl, by decide +kernel, rfl, by decide +kernel, by decide +kernel⟩
theorem b_read_deed (T : Tx mg) (C_read_number : Cal P w K mg base ⟨K, CA⟩ "read_number" 1 1 c_read_number) (C_is_name : Cal P w K mg base ⟨K, CA⟩ "is_name" 1 1 c_is_name) {f : Addr} (cdv : Value) (A : Around) (outer : List Env) (s : Shared) (H : Hp) (E : XK) (hr : Room 1 (A.deeper (PyProof.Rows.envOfC "read_deed" (defScope s_read_deed) s.heap.objs.size f cdv))) (hgd : A.guards = some []) :
    PSs (cxOf CX0 P w K mg base N_read_deed "read_deed" (defScope s_read_deed) f cdv A outer s H E).nox (defBody s_read_deed) (tS ⟨K, CA⟩ E0 m_read_deed) := by
  let G : Sig := ⟨K, CA⟩
  exact (qss_cons (qs_set (i := 1) sc_read_deed.nd rfl (by first | exact Or.inl rfl | exact Or.inr rfl) (q_bm rfl PySem.F.plainAttrs_str PySem.F.slot_str_split PySem.F.type_str_split mt_split tyStr s_split (qv 0) (qa_cons qc_str qa_nil)))
      (qss_cons (qs_if (qt_cmp (op_ne.or (op_neA (G := G) rfl hr)) s_ne (q_callB (call_len_seq.or (call_len_str.or call_lenD)) (s_len rfl) (by rfl) T.b_len bt_len (qa_cons (qv 1) qa_nil)) qc_int (nomark _)) (qss_one (qs_ret qc_non)) qss_nil)
      (qss_cons (qs_set (i := 2) sc_read_deed.nd rfl (by first | exact Or.inl rfl | exact Or.inr rfl) (q_cal C_read_number hr (by decide) hgd (by rfl) (qa_cons (q_if (qt_cmp (op_eq.or (op_eqA (G := G) rfl hr)) s_eq (q_ix ix_seq (s_ix rfl) (qv 1) qc_int) qc_str (nomark _)) (q_ix ix_seq (s_ix rfl) (qv 1) qc_int) (q_ix ix_seq (s_ix rfl) (qv 1) qc_int)) qa_nil)))
      (qss_cons (qs_set (i := 3) sc_read_deed.nd rfl (by first | exact Or.inl rfl | exact Or.inr rfl) (q_if (qt_cmp (op_eq.or (op_eqA (G := G) rfl hr)) s_eq (q_ix ix_seq (s_ix rfl) (qv 1) qc_int) qc_str (nomark _)) (q_ix ix_seq (s_ix rfl) (qv 1) qc_int) (q_ix ix_seq (s_ix rfl) (qv 1) qc_int)))
      (qss_cons (qs_if (qt_pw (qw_or (qt_cmp ((op_notIn_sign.or op_notIn_seq).or (op_notInP (G := G) rfl hr)) (s_notInD rfl) (q_ix ix_seq (s_ix rfl) (qv 1) qc_int) (q_tup (qa_cons qc_str (qa_cons qc_str qa_nil))) (by rfl)) (qw_or (qt_cmp op_isN s_isN (qv 2) qc_non (nomark _)) (qw_or1 (qt_not (qt_tru rfl (q_cal C_is_name hr (by decide) hgd (by rfl) (qa_cons (qv 3) qa_nil)))))))) (qss_one (qs_ret qc_non)) qss_nil)
      (qss_one (qs_ret (q_if (qt_cmp (op_eq.or (op_eqA (G := G) rfl hr)) s_eq (q_ix ix_seq (s_ix rfl) (qv 1) qc_int) qc_str (nomark _)) (q_tup (qa_cons qc_str (qa_cons (qv 3) (qa_cons (qv 2) qa_nil)))) (q_tup (qa_cons qc_str (qa_cons (qv 2) (qa_cons (qv 3) qa_nil))))))))))))
theorem w_read_deed {f : Addr} {fd : FuncData} (F : Fun K "read_deed" "read_deed" s_read_deed f fd) (m : mg "read_deed" = some (.ref f)) (T : Tx mg) (C_read_number : Cal P w K mg base ⟨K, CA⟩ "read_number" 1 1 c_read_number) (C_is_name : Cal P w K mg base ⟨K, CA⟩ "is_name" 1 1 c_is_name) : Cal P w K mg base ⟨K, CA⟩ "read_deed" 2 1 c_read_deed :=
  cal_of F sc_read_deed m (F.binds fun _ _ _ _ _ _ us hl => match us, hl with | [_], _ => rfl) rfl rfl rfl (b_read_deed T C_read_number C_is_name)
abbrev s_read_run : Stmt := top 14
abbrev N_read_run : List Str := ["text", "deeds", "row"]
theorem sc_read_run : FnScope N_read_run ["text"] (defScope s_read_run) := ⟨rfl, rfl, rfl, by decide +kernel, rfl, by decide +kernel, by decide +kernel⟩
theorem b_read_run (T : Tx mg) (C_read_deed : Cal P w K mg base ⟨K, CA⟩ "read_deed" 2 1 c_read_deed) {f : Addr} (cdv : Value) (A : Around) (outer : List Env) (s : Shared) (H : Hp) (E : XK) (hr : Room 2 (A.deeper (PyProof.Rows.envOfC "read_run" (defScope s_read_run) s.heap.objs.size f cdv))) (hgd : A.guards = some []) :
    PSs (cxOf CX0 P w K mg base N_read_run "read_run" (defScope s_read_run) f cdv A outer s H E).nox (defBody s_read_run) (tS ⟨K, CA⟩ E0 m_read_run) := by
  let G : Sig := ⟨K, CA⟩
  exact (qss_cons (qs_if (qt_cmp (op_eq.or (op_eqA (G := G) rfl hr)) s_eq (qv 0) qc_str (nomark _)) (qss_one (qs_ret (q_lstC qa_nil))) qss_nil)
      (qss_cons (qs_setLcC (i := 1) (own := [("row", 2)]) (E2 := E0) rfl sc_read_run.nd rfl rfl (sw_true rfl rfl rfl (by decide +kernel)) (qi_any rfl (q_bm rfl PySem.F.plainAttrs_str PySem.F.slot_str_split PySem.F.type_str_split mt_split tyStr s_split (qv 0) (qa_cons qc_str qa_nil))) (blkOk_by (N := N_read_run) (sc := (defScope s_read_run)) (by decide +kernel)) (fun _ _ _ _ _ => (qg_name (i := 2) sc_read_run.nd rfl (by first | exact Or.inl rfl | exact Or.inr rfl))) (fun _ _ _ _ _ => qts_nil) (fun _ _ _ _ _ => (q_cal C_read_deed hr (by decide) hgd (by rfl) (qa_cons (qv 2) qa_nil))))
      (qss_cons (qs_if (qt_cmp ((op_in_sign.or op_in_seq).or (op_inP (G := G) rfl hr)) (s_inD rfl) qc_non (qv 1) (by rfl)) (qss_one qs_never) qss_nil)
      (qss_one (qs_ret (qv 1))))))
theorem w_read_run {f : Addr} {fd : FuncData} (F : Fun K "read_run" "read_run" s_read_run f fd) (m : mg "read_run" = some (.ref f)) (T : Tx mg) (C_read_deed : Cal P w K mg base ⟨K, CA⟩ "read_deed" 2 1 c_read_deed) : Cal P w K mg base ⟨K, CA⟩ "read_run" 3 1 c_read_run :=
  cal_of F sc_read_run m (F.binds fun _ _ _ _ _ _ us hl => match us, hl with | [_], _ => rfl) rfl rfl rfl (b_read_run T C_read_deed)
abbrev s__law_well : Stmt := top 16
abbrev N__law_well : List Str := ["cell", "k", "size"]
theorem sc__law_well : FnScope N__law_well ["cell", "k"] (defScope s__law_well) := ⟨rfl, rfl, rfl, by decide +kernel, rfl, by decide +kernel, by decide +kernel⟩
theorem b__law_well (T : Tx mg)  {f : Addr} (cdv : Value) (A : Around) (outer : List Env) (s : Shared) (H : Hp) (E : XK) (hr : Room 0 (A.deeper (PyProof.Rows.envOfC "_law_well" (defScope s__law_well) s.heap.objs.size f cdv))) (hgd : A.guards = some []) :
    PSs (cxOf CX0 P w K mg base N__law_well "_law_well" (defScope s__law_well) f cdv A outer s H E).nox (defBody s__law_well) (tS ⟨K, CA⟩ E0 m__law_well) := by
  let G : Sig := ⟨K, CA⟩
  exact (qss_cons (qs_set (i := 2) sc__law_well.nd rfl (by first | exact Or.inl rfl | exact Or.inr rfl) (q_callB ((call_max2 rfl).or (cr_max rfl)) (s_max rfl) (by rfl) T.b_max bt_max (qa_cons (qv 0) (qa_cons (q_sub qc_int (qv 0)) qa_nil))))
      (qss_one (qs_ret (q_lstC (qa_cons (q_callB ((call_max2 rfl).or (cr_max rfl)) (s_max rfl) (by rfl) T.b_max bt_max (qa_cons qc_int (qa_cons (q_sub (qv 2) (q_pow qc_int qc_int)) qa_nil))) (qa_cons (q_mod (q_callTy (call_int1.or call_int_str) s_int (by rfl) T.b_int bt_int (qa_cons (q_add (q_mul (qv 0) qc_int) (q_mul (q_add (qv 1) qc_int) qc_int)) qa_nil)) (q_add (q_pow qc_int qc_int) qc_int)) (qa_cons qc_int qa_nil)))))))
theorem w__law_well {f : Addr} {fd : FuncData} (F : Fun K "_law_well" "_law_well" s__law_well f fd) (m : mg "_law_well" = some (.ref f)) (T : Tx mg)  : Cal P w K mg base ⟨K, CA⟩ "_law_well" 1 2 c__law_well :=
  cal_of F sc__law_well m (F.binds fun _ _ _ _ _ _ us hl => match us, hl with | [_, _], _ => rfl) rfl rfl rfl (b__law_well T )
abbrev s__law_draw : Stmt := top 17
abbrev N__law_draw : List Str := ["well", "many", "mixed", "drawn"]
theorem sc__law_draw : FnScope N__law_draw ["well", "many"] (defScope s__law_draw) := ⟨rfl, rfl, rfl, by decide +kernel, rfl, by decide +kernel, by decide +kernel⟩
theorem b__law_draw (T : Tx mg)  {f : Addr} (cdv : Value) (A : Around) (outer : List Env) (s : Shared) (H : Hp) (E : XK) (hr : Room 0 (A.deeper (PyProof.Rows.envOfC "_law_draw" (defScope s__law_draw) s.heap.objs.size f cdv))) (hgd : A.guards = some []) :
    PSs (cxOf CX0 P w K mg base N__law_draw "_law_draw" (defScope s__law_draw) f cdv A outer s H E).nox (defBody s__law_draw) (tS ⟨K, CA⟩ E0 m__law_draw) := by
  let G : Sig := ⟨K, CA⟩
  exact (qss_cons (qs_if (qt_cmp op_gt s_gt (q_ix ix_seq (s_ix rfl) (qv 0) qc_int) qc_int (nomark _)) (qss_cons (qs_set (i := 3) sc__law_draw.nd rfl (by first | exact Or.inl rfl | exact Or.inr rfl) (q_mod (q_callTy (call_int1.or call_int_str) s_int (by rfl) T.b_int bt_int (qa_cons (q_ix ix_seq (s_ix rfl) (qv 0) qc_int) qa_nil)) (qv 1)))
      (qss_cons (qs_sub set_list s_setAt (q_div (q_ix ix_seq (s_ix rfl) (qv 0) qc_int) (qv 1)) (qv 0) qc_int)
      (qss_one (qs_ret (qv 3))))) qss_nil)
      (qss_cons (qs_sub set_list s_setAt (q_add (q_ix ix_seq (s_ix rfl) (qv 0) qc_int) qc_int) (qv 0) qc_int)
      (qss_cons (qs_set (i := 2) sc__law_draw.nd rfl (by first | exact Or.inl rfl | exact Or.inr rfl) (q_mod (q_callTy (call_int1.or call_int_str) s_int (by rfl) T.b_int bt_int (qa_cons (q_pow (q_add (q_ix ix_seq (s_ix rfl) (qv 0) qc_int) (q_mul (q_ix ix_seq (s_ix rfl) (qv 0) qc_int) qc_int)) qc_int) qa_nil)) (q_add (q_pow qc_int qc_int) qc_int)))
      (qss_one (qs_ret (q_mod (q_div (q_mod (q_callTy (call_int1.or call_int_str) s_int (by rfl) T.b_int bt_int (qa_cons (q_add (q_mul (qv 2) (qv 2)) (q_div (qv 2) qc_int)) qa_nil)) (q_add (q_pow qc_int qc_int) qc_int)) qc_int) (qv 1)))))))
theorem w__law_draw {f : Addr} {fd : FuncData} (F : Fun K "_law_draw" "_law_draw" s__law_draw f fd) (m : mg "_law_draw" = some (.ref f)) (T : Tx mg)  : Cal P w K mg base ⟨K, CA⟩ "_law_draw" 1 2 c__law_draw :=
  cal_of F sc__law_draw m (F.binds fun _ _ _ _ _ _ us hl => match us, hl with | [_, _], _ => rfl) rfl rfl rfl (b__law_draw T )
abbrev s__law_word : Stmt := top 18
abbrev N__law_word : List Str := ["well", "taken", "letters", "way", "word", "spare", "near", "at", "k"]
theorem sc__law_word : FnScope N__law_word ["well", "taken"] (defScope s__law_word) := ⟨rfl, rfl, rfl, by decide +kernel, rfl, by decide +kernel, by decide +kernel⟩
theorem b__law_word (T : Tx mg) (C__law_draw : Cal P w K mg base ⟨K, CA⟩ "_law_draw" 1 2 c__law_draw) {f : Addr} (cdv : Value) (A : Around) (outer : List Env) (s : Shared) (H : Hp) (E : XK) (hr : Room 1 (A.deeper (PyProof.Rows.envOfC "_law_word" (defScope s__law_word) s.heap.objs.size f cdv))) (hgd : A.guards = some []) :
    PSs (cxOf CX0 P w K mg base N__law_word "_law_word" (defScope s__law_word) f cdv A outer s H E).nox (defBody s__law_word) (tS ⟨K, CA⟩ E0 m__law_word) := by
  let G : Sig := ⟨K, CA⟩
  exact (qss_cons (qs_set (i := 2) sc__law_word.nd rfl (by first | exact Or.inl rfl | exact Or.inr rfl) qc_str)
      (qss_cons (qs_set (i := 3) sc__law_word.nd rfl (by first | exact Or.inl rfl | exact Or.inr rfl) (q_cal C__law_draw hr (by decide) hgd (by rfl) (qa_cons (qv 0) (qa_cons qc_int qa_nil))))
      (qss_cons (qs_set (i := 4) sc__law_word.nd rfl (by first | exact Or.inl rfl | exact Or.inr rfl) (q_ix ix_seq (s_ix rfl) (q_lst (qa_cons qc_str (qa_cons qc_str (qa_cons qc_str (qa_cons qc_str (qa_cons qc_str (qa_cons qc_str (qa_cons qc_str qa_nil)))))))) (q_cal C__law_draw hr (by decide) hgd (by rfl) (qa_cons (qv 0) (qa_cons qc_int qa_nil)))))
      (qss_cons (qs_if (qt_pw (qw_and (qt_cmp (op_eq.or (op_eqA (G := G) rfl hr)) s_eq (qv 3) qc_int (nomark _)) (qw_and1 (qt_cmp (op_ne.or (op_neA (G := G) rfl hr)) s_ne (qv 1) (q_lst qa_nil) (nomark _))))) (qss_cons (qs_set (i := 6) sc__law_word.nd rfl (by first | exact Or.inl rfl | exact Or.inr rfl) (q_ix ix_seq (s_ix rfl) (qv 1) (q_cal C__law_draw hr (by decide) hgd (by rfl) (qa_cons (qv 0) (qa_cons (q_callB (call_len_seq.or (call_len_str.or call_lenD)) (s_len rfl) (by rfl) T.b_len bt_len (qa_cons (qv 1) qa_nil)) qa_nil)))))
      (qss_cons (qs_set (i := 7) sc__law_word.nd rfl (by first | exact Or.inl rfl | exact Or.inr rfl) (q_cal C__law_draw hr (by decide) hgd (by rfl) (qa_cons (qv 0) (qa_cons (q_add (q_callB (call_len_seq.or (call_len_str.or call_lenD)) (s_len rfl) (by rfl) T.b_len bt_len (qa_cons (qv 6) qa_nil)) qc_int) qa_nil))))
      (qss_one (qs_set (i := 4) sc__law_word.nd rfl (by first | exact Or.inl rfl | exact Or.inr rfl) (q_sl rfl (q_add (q_add (q_sl rfl (qv 6) qo_none (qo_b (qv 7))) (q_ix ix_seq (s_ix rfl) (qv 2) (q_cal C__law_draw hr (by decide) hgd (by rfl) (qa_cons (qv 0) (qa_cons qc_int qa_nil))))) (q_sl rfl (qv 6) (qo_b (q_add (qv 7) (q_cal C__law_draw hr (by decide) hgd (by rfl) (qa_cons (qv 0) (qa_cons qc_int qa_nil))))) qo_none)) qo_none (qo_b qc_int)))))) (qss_one (qs_if (qt_cmp op_lt s_lt (qv 3) qc_int (nomark _)) (qss_one (qs_set (i := 4) sc__law_word.nd rfl (by first | exact Or.inl rfl | exact Or.inr rfl) (q_bm rfl PySem.F.plainAttrs_str PySem.F.slot_str_join PySem.F.type_str_join mt_join tyStr (s_join rfl) qc_str (qa_cons (q_lc (own := [("k", 8)]) (E2 := E0) rfl sc__law_word.nd (qi_range1 (by rfl) T.b_range (qa_cons (q_add qc_int (q_cal C__law_draw hr (by decide) hgd (by rfl) (qa_cons (qv 0) (qa_cons qc_int qa_nil)))) qa_nil)) (blkOk_by (N := N__law_word) (sc := (defScope s__law_word)) (by decide +kernel)) (fun _ _ _ _ _ => (qg_name (i := 8) sc__law_word.nd rfl (by first | exact Or.inl rfl | exact Or.inr rfl))) (fun _ _ _ _ _ => qts_nil) (fun _ _ _ _ _ => (q_ix ix_seq (s_ix rfl) (qv 2) (q_cal C__law_draw hr (by decide) hgd (by rfl) (qa_cons (qv 0) (qa_cons qc_int qa_nil)))))) qa_nil)))) qss_nil)))
      (qss_cons (qs_for PassesOwn.never rfl (qi_range1 (by rfl) T.b_range (qa_cons qc_int qa_nil)) (qg_name (i := 5) sc__law_word.nd rfl (by first | exact Or.inl rfl | exact Or.inr rfl)) (qss_cons (qs_if (qt_cmp ((op_notIn_sign.or op_notIn_seq).or (op_notInP (G := G) rfl hr)) (s_notInD rfl) (qv 4) (qv 1) (by rfl)) (qss_one (qs_ret (qv 4))) qss_nil)
      (qss_one (qs_set (i := 4) sc__law_word.nd rfl (by first | exact Or.inl rfl | exact Or.inr rfl) (q_add (q_ix ix_seq (s_ix rfl) (qv 2) (q_mod (qv 5) qc_int)) (q_ix ix_seq (s_ix rfl) (qv 2) (q_div (qv 5) qc_int)))))))
      (qss_one (qs_ret (qv 4))))))))
theorem w__law_word {f : Addr} {fd : FuncData} (F : Fun K "_law_word" "_law_word" s__law_word f fd) (m : mg "_law_word" = some (.ref f)) (T : Tx mg) (C__law_draw : Cal P w K mg base ⟨K, CA⟩ "_law_draw" 1 2 c__law_draw) : Cal P w K mg base ⟨K, CA⟩ "_law_word" 2 2 c__law_word :=
  cal_of F sc__law_word m (F.binds fun _ _ _ _ _ _ us hl => match us, hl with | [_, _], _ => rfl) rfl rfl rfl (b__law_word T C__law_draw)
abbrev s__law_integer : Stmt := top 19
abbrev N__law_integer : List Str := ["well", "far", "k"]
theorem sc__law_integer : FnScope N__law_integer ["well"] (defScope s__law_integer) := ⟨rfl, rfl, rfl, by decide +kernel, rfl, by decide +kernel, by decide +kernel⟩
theorem b__law_integer (T : Tx mg) (C__law_draw : Cal P w K mg base ⟨K, CA⟩ "_law_draw" 1 2 c__law_draw) {f : Addr} (cdv : Value) (A : Around) (outer : List Env) (s : Shared) (H : Hp) (E : XK) (hr : Room 1 (A.deeper (PyProof.Rows.envOfC "_law_integer" (defScope s__law_integer) s.heap.objs.size f cdv))) (hgd : A.guards = some []) :
    PSs (cxOf CX0 P w K mg base N__law_integer "_law_integer" (defScope s__law_integer) f cdv A outer s H E).nox (defBody s__law_integer) (tS ⟨K, CA⟩ E0 m__law_integer) := by
  let G : Sig := ⟨K, CA⟩
  exact (qss_cons (qs_set (i := 1) sc__law_integer.nd rfl (by first | exact Or.inl rfl | exact Or.inr rfl) (q_cal C__law_draw hr (by decide) hgd (by rfl) (qa_cons (qv 0) (qa_cons qc_int qa_nil))))
      (qss_cons (qs_for PassesOwn.never rfl (qi_range1 (by rfl) T.b_range (qa_cons (q_mul (q_cal C__law_draw hr (by decide) hgd (by rfl) (qa_cons (qv 0) (qa_cons qc_int qa_nil))) (q_cal C__law_draw hr (by decide) hgd (by rfl) (qa_cons (qv 0) (qa_cons qc_int qa_nil)))) qa_nil)) (qg_name (i := 2) sc__law_integer.nd rfl (by first | exact Or.inl rfl | exact Or.inr rfl)) (qss_one (qs_set (i := 1) sc__law_integer.nd rfl (by first | exact Or.inl rfl | exact Or.inr rfl) (q_add (q_mul (qv 1) (q_pow qc_int qc_int)) (q_cal C__law_draw hr (by decide) hgd (by rfl) (qa_cons (qv 0) (qa_cons (q_pow qc_int qc_int) qa_nil)))))))
      (qss_one (qs_ret (q_ix ix_seq (s_ix rfl) (q_lst (qa_cons (qv 1) (qa_cons (q_sub qc_int (qv 1)) qa_nil))) (q_cal C__law_draw hr (by decide) hgd (by rfl) (qa_cons (qv 0) (qa_cons qc_int qa_nil))))))))
theorem w__law_integer {f : Addr} {fd : FuncData} (F : Fun K "_law_integer" "_law_integer" s__law_integer f fd) (m : mg "_law_integer" = some (.ref f)) (T : Tx mg) (C__law_draw : Cal P w K mg base ⟨K, CA⟩ "_law_draw" 1 2 c__law_draw) : Cal P w K mg base ⟨K, CA⟩ "_law_integer" 2 1 c__law_integer :=
  cal_of F sc__law_integer m (F.binds fun _ _ _ _ _ _ us hl => match us, hl with | [_], _ => rfl) rfl rfl rfl (b__law_integer T C__law_draw)
abbrev s__law_wild : Stmt := top 20
abbrev N__law_wild : List Str := ["well"]
theorem sc__law_wild : FnScope N__law_wild ["well"] (defScope s__law_wild) := ⟨rfl, rfl, rfl, by decide +kernel, rfl, by decide +kernel, by decide +kernel⟩
theorem b__law_wild (T : Tx mg) (C__law_draw : Cal P w K mg base ⟨K, CA⟩ "_law_draw" 1 2 c__law_draw) (C__law_word : Cal P w K mg base ⟨K, CA⟩ "_law_word" 2 2 c__law_word) (C__law_integer : Cal P w K mg base ⟨K, CA⟩ "_law_integer" 2 1 c__law_integer) {f : Addr} (cdv : Value) (A : Around) (outer : List Env) (s : Shared) (H : Hp) (E : XK) (hr : Room 2 (A.deeper (PyProof.Rows.envOfC "_law_wild" (defScope s__law_wild) s.heap.objs.size f cdv))) (hgd : A.guards = some []) :
    PSs (cxOf CX0 P w K mg base N__law_wild "_law_wild" (defScope s__law_wild) f cdv A outer s H E).nox (defBody s__law_wild) (tS ⟨K, CA⟩ E0 m__law_wild) := by
  let G : Sig := ⟨K, CA⟩
  exact (qss_cons (qs_if (qt_cmp (op_eq.or (op_eqA (G := G) rfl hr)) s_eq (q_cal C__law_draw hr (by decide) hgd (by rfl) (qa_cons (qv 0) (qa_cons qc_int qa_nil))) qc_int (nomark _)) (qss_one (qs_ret (q_tup (qa_cons qc_str (qa_cons (q_cal C__law_word hr (by decide) hgd (by rfl) (qa_cons (qv 0) (qa_cons (q_lst qa_nil) qa_nil))) (qa_cons (q_cal C__law_integer hr (by decide) hgd (by rfl) (qa_cons (qv 0) qa_nil)) qa_nil)))))) qss_nil)
      (qss_one (qs_ret (q_tup (qa_cons qc_str (qa_cons (q_cal C__law_integer hr (by decide) hgd (by rfl) (qa_cons (qv 0) qa_nil)) (qa_cons (q_cal C__law_word hr (by decide) hgd (by rfl) (qa_cons (qv 0) (qa_cons (q_lst qa_nil) qa_nil))) qa_nil)))))))
theorem w__law_wild {f : Addr} {fd : FuncData} (F : Fun K "_law_wild" "_law_wild" s__law_wild f fd) (m : mg "_law_wild" = some (.ref f)) (T : Tx mg) (C__law_draw : Cal P w K mg base ⟨K, CA⟩ "_law_draw" 1 2 c__law_draw) (C__law_word : Cal P w K mg base ⟨K, CA⟩ "_law_word" 2 2 c__law_word) (C__law_integer : Cal P w K mg base ⟨K, CA⟩ "_law_integer" 2 1 c__law_integer) : Cal P w K mg base ⟨K, CA⟩ "_law_wild" 3 1 c__law_wild :=
  cal_of F sc__law_wild m (F.binds fun _ _ _ _ _ _ us hl => match us, hl with | [_], _ => rfl) rfl rfl rfl (b__law_wild T C__law_draw C__law_word C__law_integer)
abbrev s__law_run_text : Stmt := top 21
abbrev N__law_run_text : List Str := ["deeds", "text", "first", "second", "third"]
theorem sc__law_run_text : FnScope N__law_run_text ["deeds"] (defScope s__law_run_text) := ⟨rfl, rfl, rfl, by decide +kernel, rfl, by decide +kernel, by decide +kernel⟩
theorem b__law_run_text (T : Tx mg)  {f : Addr} (cdv : Value) (A : Around) (outer : List Env) (s : Shared) (H : Hp) (E : XK) (hr : Room 0 (A.deeper (PyProof.Rows.envOfC "_law_run_text" (defScope s__law_run_text) s.heap.objs.size f cdv))) (hgd : A.guards = some []) :
    PSs (cxOf CX0 P w K mg base N__law_run_text "_law_run_text" (defScope s__law_run_text) f cdv A outer s H E).nox (defBody s__law_run_text) (tS ⟨K, CA⟩ E0 m__law_run_text) := by
  let G : Sig := ⟨K, CA⟩
  exact (qss_cons (qs_set (i := 1) sc__law_run_text.nd rfl (by first | exact Or.inl rfl | exact Or.inr rfl) qc_str)
      (qss_cons (qs_for PassesOwn.never rfl (qi_any rfl (qv 0)) (qg_tup rfl (qgs_cons (qg_name (i := 2) sc__law_run_text.nd rfl (by first | exact Or.inl rfl | exact Or.inr rfl)) (qgs_cons (qg_name (i := 3) sc__law_run_text.nd rfl (by first | exact Or.inl rfl | exact Or.inr rfl)) (qgs_cons (qg_name (i := 4) sc__law_run_text.nd rfl (by first | exact Or.inl rfl | exact Or.inr rfl)) qgs_nil)))) (qss_one (qs_set (i := 1) sc__law_run_text.nd rfl (by first | exact Or.inl rfl | exact Or.inr rfl) (q_add (q_add (q_add (q_add (q_add (q_add (qv 1) qc_str) (qv 2)) qc_str) (q_callTy (call_str_int.or SkE.call_str_str) s_str (by rfl) T.b_str bt_str (qa_cons (qv 3) qa_nil))) qc_str) (q_callTy (call_str_int.or SkE.call_str_str) s_str (by rfl) T.b_str bt_str (qa_cons (qv 4) qa_nil))))))
      (qss_one (qs_ret (q_sl rfl (qv 1) (qo_b qc_int) qo_none)))))
theorem w__law_run_text {f : Addr} {fd : FuncData} (F : Fun K "_law_run_text" "_law_run_text" s__law_run_text f fd) (m : mg "_law_run_text" = some (.ref f)) (T : Tx mg)  : Cal P w K mg base ⟨K, CA⟩ "_law_run_text" 1 1 c__law_run_text :=
  cal_of F sc__law_run_text m (F.binds fun _ _ _ _ _ _ us hl => match us, hl with | [_], _ => rfl) rfl rfl rfl (b__law_run_text T )
abbrev s__law_deeds : Stmt := top 22
abbrev N__law_deeds : List Str := ["well", "most", "size", "k"]
theorem sc__law_deeds : FnScope N__law_deeds ["well", "most"] (defScope s__law_deeds) := ⟨rfl, rfl, rfl, by decide +kernel, rfl, by decide +kernel, by decide +kernel⟩
theorem b__law_deeds (T : Tx mg) (C__law_draw : Cal P w K mg base ⟨K, CA⟩ "_law_draw" 1 2 c__law_draw) (C__law_wild : Cal P w K mg base ⟨K, CA⟩ "_law_wild" 3 1 c__law_wild) {f : Addr} (cdv : Value) (A : Around) (outer : List Env) (s : Shared) (H : Hp) (E : XK) (hr : Room 3 (A.deeper (PyProof.Rows.envOfC "_law_deeds" (defScope s__law_deeds) s.heap.objs.size f cdv))) (hgd : A.guards = some []) :
    PSs (cxOf CX0 P w K mg base N__law_deeds "_law_deeds" (defScope s__law_deeds) f cdv A outer s H E).nox (defBody s__law_deeds) (tS ⟨K, CA⟩ E0 m__law_deeds) := by
  let G : Sig := ⟨K, CA⟩
  exact (qss_cons (qs_set (i := 2) sc__law_deeds.nd rfl (by first | exact Or.inl rfl | exact Or.inr rfl) (q_cal C__law_draw hr (by decide) hgd (by rfl) (qa_cons (qv 0) (qa_cons qc_int qa_nil))))
      (qss_cons (qs_if (qt_cmp (op_eq.or (op_eqA (G := G) rfl hr)) s_eq (q_cal C__law_draw hr (by decide) hgd (by rfl) (qa_cons (qv 0) (qa_cons qc_int qa_nil))) qc_int (nomark _)) (qss_one (qs_set (i := 2) sc__law_deeds.nd rfl (by first | exact Or.inl rfl | exact Or.inr rfl) (q_cal C__law_draw hr (by decide) hgd (by rfl) (qa_cons (qv 0) (qa_cons (q_add (qv 1) qc_int) qa_nil))))) qss_nil)
      (qss_one (qs_ret (q_lc (own := [("k", 3)]) (E2 := E0) rfl sc__law_deeds.nd (qi_range1 (by rfl) T.b_range (qa_cons (qv 2) qa_nil)) (blkOk_by (N := N__law_deeds) (sc := (defScope s__law_deeds)) (by decide +kernel)) (fun _ _ _ _ _ => (qg_name (i := 3) sc__law_deeds.nd rfl (by first | exact Or.inl rfl | exact Or.inr rfl))) (fun _ _ _ _ _ => qts_nil) (fun _ _ _ _ _ => (q_cal C__law_wild hr (by decide) hgd (by rfl) (qa_cons (qv 0) qa_nil))))))))
theorem w__law_deeds {f : Addr} {fd : FuncData} (F : Fun K "_law_deeds" "_law_deeds" s__law_deeds f fd) (m : mg "_law_deeds" = some (.ref f)) (T : Tx mg) (C__law_draw : Cal P w K mg base ⟨K, CA⟩ "_law_draw" 1 2 c__law_draw) (C__law_wild : Cal P w K mg base ⟨K, CA⟩ "_law_wild" 3 1 c__law_wild) : Cal P w K mg base ⟨K, CA⟩ "_law_deeds" 4 2 c__law_deeds :=
  cal_of F sc__law_deeds m (F.binds fun _ _ _ _ _ _ us hl => match us, hl with | [_, _], _ => rfl) rfl rfl rfl (b__law_deeds T C__law_draw C__law_wild)
abbrev s__law_list_right : Stmt := top 23
abbrev N__law_list_right : List Str := ["deeds", "text", "passed", "told"]
theorem sc__law_list_right : FnScope N__law_list_right ["deeds"] (defScope s__law_list_right) := ⟨rfl, rfl, rfl, by decide +kernel, rfl, by decide +kernel, by decide +kernel⟩
theorem b__law_list_right (T : Tx mg) (C__law_run_text : Cal P w K mg base ⟨K, CA⟩ "_law_run_text" 1 1 c__law_run_text) (C_show_run : Cal P w K mg base ⟨K, CA⟩ "show_run" 1 1 c_show_run) (C_read_run : Cal P w K mg base ⟨K, CA⟩ "read_run" 3 1 c_read_run) {f : Addr} (cdv : Value) (A : Around) (outer : List Env) (s : Shared) (H : Hp) (E : XK) (hr : Room 3 (A.deeper (PyProof.Rows.envOfC "_law_list_right" (defScope s__law_list_right) s.heap.objs.size f cdv))) (hgd : A.guards = some []) :
    PSs (cxOf CX0 P w K mg base N__law_list_right "_law_list_right" (defScope s__law_list_right) f cdv A outer s H E).nox (defBody s__law_list_right) (tS ⟨K, CA⟩ E0 m__law_list_right) := by
  let G : Sig := ⟨K, CA⟩
  exact (qss_cons (qs_set (i := 1) sc__law_list_right.nd rfl (by first | exact Or.inl rfl | exact Or.inr rfl) (q_cal C__law_run_text hr (by decide) hgd (by rfl) (qa_cons (qv 0) qa_nil)))
      (qss_cons (qs_set (i := 2) sc__law_list_right.nd rfl (by first | exact Or.inl rfl | exact Or.inr rfl) (q_callTy call_list_of (s_listF rfl) (by rfl) T.b_list bt_list (qa_cons (qv 0) qa_nil)))
      (qss_cons (qs_if (qt_pw (qw_or (qt_cmp (op_ne.or (op_neA (G := G) rfl hr)) s_ne (q_callB (call_reprA (G := G) rfl hr hgd) s_repr (by rfl) T.b_repr bt_repr (qa_cons (q_cal C_show_run hr (by decide) hgd (by rfl) (qa_cons (qv 2) qa_nil)) qa_nil)) (q_callB (call_reprA (G := G) rfl hr hgd) s_repr (by rfl) T.b_repr bt_repr (qa_cons (qv 1) qa_nil)) (nomark _)) (qw_or1 (qt_cmp (op_ne.or (op_neA (G := G) rfl hr)) s_ne (q_callB (call_reprA (G := G) rfl hr hgd) s_repr (by rfl) T.b_repr bt_repr (qa_cons (qv 2) qa_nil)) (q_callB (call_reprA (G := G) rfl hr hgd) s_repr (by rfl) T.b_repr bt_repr (qa_cons (qv 0) qa_nil)) (nomark _))))) (qss_one (qs_ret qc_bl)) qss_nil)
      (qss_cons (qs_set (i := 3) sc__law_list_right.nd rfl (by first | exact Or.inl rfl | exact Or.inr rfl) (q_cal C_read_run hr (by decide) hgd (by rfl) (qa_cons (qv 1) qa_nil)))
      (qss_cons (qs_if (qt_cmp (op_ne.or (op_neA (G := G) rfl hr)) s_ne (q_callB (call_reprA (G := G) rfl hr hgd) s_repr (by rfl) T.b_repr bt_repr (qa_cons (qv 3) qa_nil)) (q_callB (call_reprA (G := G) rfl hr hgd) s_repr (by rfl) T.b_repr bt_repr (qa_cons (qv 0) qa_nil)) (nomark _)) (qss_one (qs_ret qc_bl)) qss_nil)
      (qss_cons (qs_if (qt_cmp (op_ne.or (op_neA (G := G) rfl hr)) s_ne (q_callB (call_reprA (G := G) rfl hr hgd) s_repr (by rfl) T.b_repr bt_repr (qa_cons (q_cal C_show_run hr (by decide) hgd (by rfl) (qa_cons (qv 3) qa_nil)) qa_nil)) (q_callB (call_reprA (G := G) rfl hr hgd) s_repr (by rfl) T.b_repr bt_repr (qa_cons (qv 1) qa_nil)) (nomark _)) (qss_one (qs_ret qc_bl)) qss_nil)
      (qss_cons (qs_expr (q_bm rfl PySem.F.plainAttrs_list PySem.F.slot_list_append PySem.F.type_list_append mt_append tyLst s_append (qv 3) (qa_cons (q_tup (qa_cons qc_str (qa_cons qc_str (qa_cons qc_int qa_nil)))) qa_nil)))
      (qss_one (qs_ret (q_cmp (op_eq.or (op_eqA (G := G) rfl hr)) s_eq (q_callB (call_reprA (G := G) rfl hr hgd) s_repr (by rfl) T.b_repr bt_repr (qa_cons (q_cal C_read_run hr (by decide) hgd (by rfl) (qa_cons (qv 1) qa_nil)) qa_nil)) (q_callB (call_reprA (G := G) rfl hr hgd) s_repr (by rfl) T.b_repr bt_repr (qa_cons (qv 0) qa_nil)) (nomark _)))))))))))
theorem w__law_list_right {f : Addr} {fd : FuncData} (F : Fun K "_law_list_right" "_law_list_right" s__law_list_right f fd) (m : mg "_law_list_right" = some (.ref f)) (T : Tx mg) (C__law_run_text : Cal P w K mg base ⟨K, CA⟩ "_law_run_text" 1 1 c__law_run_text) (C_show_run : Cal P w K mg base ⟨K, CA⟩ "show_run" 1 1 c_show_run) (C_read_run : Cal P w K mg base ⟨K, CA⟩ "read_run" 3 1 c_read_run) : Cal P w K mg base ⟨K, CA⟩ "_law_list_right" 4 1 c__law_list_right :=
  cal_of F sc__law_list_right m (F.binds fun _ _ _ _ _ _ us hl => match us, hl with | [_], _ => rfl) rfl rfl rfl (b__law_list_right T C__law_run_text C_show_run C_read_run)
abbrev s__law_right : Stmt := top 24
abbrev N__law_right : List Str := ["well", "one", "other"]
theorem sc__law_right : FnScope N__law_right ["well"] (defScope s__law_right) := ⟨rfl, rfl, rfl, by decide +kernel, rfl, by decide +kernel, by decide +kernel⟩
theorem b__law_right (T : Tx mg) (C__law_deeds : Cal P w K mg base ⟨K, CA⟩ "_law_deeds" 4 2 c__law_deeds) (C__law_list_right : Cal P w K mg base ⟨K, CA⟩ "_law_list_right" 4 1 c__law_list_right) (C_show_run : Cal P w K mg base ⟨K, CA⟩ "show_run" 1 1 c_show_run) {f : Addr} (cdv : Value) (A : Around) (outer : List Env) (s : Shared) (H : Hp) (E : XK) (hr : Room 4 (A.deeper (PyProof.Rows.envOfC "_law_right" (defScope s__law_right) s.heap.objs.size f cdv))) (hgd : A.guards = some []) :
    PSs (cxOf CX0 P w K mg base N__law_right "_law_right" (defScope s__law_right) f cdv A outer s H E).nox (defBody s__law_right) (tS ⟨K, CA⟩ E0 m__law_right) := by
  let G : Sig := ⟨K, CA⟩
  exact (qss_cons (qs_set (i := 1) sc__law_right.nd rfl (by first | exact Or.inl rfl | exact Or.inr rfl) (q_cal C__law_deeds hr (by decide) hgd (by rfl) (qa_cons (qv 0) (qa_cons qc_int qa_nil))))
      (qss_cons (qs_set (i := 2) sc__law_right.nd rfl (by first | exact Or.inl rfl | exact Or.inr rfl) (q_cal C__law_deeds hr (by decide) hgd (by rfl) (qa_cons (qv 0) (qa_cons qc_int qa_nil))))
      (qss_cons (qs_if (qt_pw (qw_or (qt_not (qt_tru rfl (q_cal C__law_list_right hr (by decide) hgd (by rfl) (qa_cons (qv 1) qa_nil)))) (qw_or (qt_not (qt_tru rfl (q_cal C__law_list_right hr (by decide) hgd (by rfl) (qa_cons (qv 2) qa_nil)))) (qw_or1 (qt_not (qt_tru rfl (q_cal C__law_list_right hr (by decide) hgd (by rfl) (qa_cons (q_add (qv 1) (qv 2)) qa_nil)))))))) (qss_one (qs_ret qc_bl)) qss_nil)
      (qss_cons (qs_if (qt_pw (qw_or (qt_cmp (op_eq.or (op_eqA (G := G) rfl hr)) s_eq (qv 1) (q_lst qa_nil) (nomark _)) (qw_or1 (qt_cmp (op_eq.or (op_eqA (G := G) rfl hr)) s_eq (qv 2) (q_lst qa_nil) (nomark _))))) (qss_one (qs_ret qc_bl)) qss_nil)
      (qss_one (qs_ret (q_cmp (op_eq.or (op_eqA (G := G) rfl hr)) s_eq (q_add (q_add (q_cal C_show_run hr (by decide) hgd (by rfl) (qa_cons (qv 1) qa_nil)) qc_str) (q_cal C_show_run hr (by decide) hgd (by rfl) (qa_cons (qv 2) qa_nil))) (q_cal C_show_run hr (by decide) hgd (by rfl) (qa_cons (q_add (qv 1) (qv 2)) qa_nil)) (nomark _))))))))
theorem w__law_right {f : Addr} {fd : FuncData} (F : Fun K "_law_right" "_law_right" s__law_right f fd) (m : mg "_law_right" = some (.ref f)) (T : Tx mg) (C__law_deeds : Cal P w K mg base ⟨K, CA⟩ "_law_deeds" 4 2 c__law_deeds) (C__law_list_right : Cal P w K mg base ⟨K, CA⟩ "_law_list_right" 4 1 c__law_list_right) (C_show_run : Cal P w K mg base ⟨K, CA⟩ "show_run" 1 1 c_show_run) : Cal P w K mg base ⟨K, CA⟩ "_law_right" 5 1 c__law_right :=
  cal_of F sc__law_right m (F.binds fun _ _ _ _ _ _ us hl => match us, hl with | [_], _ => rfl) rfl rfl rfl (b__law_right T C__law_deeds C__law_list_right C_show_run)
abbrev s_law : Stmt := top 25
abbrev N_law : List Str := ["script", "cells", "k"]
theorem sc_law : FnScope N_law ["script"] (defScope s_law) := ⟨rfl, rfl, rfl, by decide +kernel, rfl, by decide +kernel, by decide +kernel⟩
theorem b_law (T : Tx mg) (C__law_well : Cal P w K mg base ⟨K, CA⟩ "_law_well" 1 2 c__law_well) (C__law_right : Cal P w K mg base ⟨K, CA⟩ "_law_right" 5 1 c__law_right) {f : Addr} (cdv : Value) (A : Around) (outer : List Env) (s : Shared) (H : Hp) (E : XK) (hr : Room 5 (A.deeper (PyProof.Rows.envOfC "law" (defScope s_law) s.heap.objs.size f cdv))) (hgd : A.guards = some []) :
    PSs (cxOf CX0 P w K mg base N_law "law" (defScope s_law) f cdv A outer s H E).nox (defBody s_law) (tS ⟨K, CA⟩ E0 m_law) := by
  let G : Sig := ⟨K, CA⟩
  exact (qss_cons (qs_set (i := 1) sc_law.nd rfl (by first | exact Or.inl rfl | exact Or.inr rfl) (q_add (q_sl rfl (qv 0) qo_none (qo_b qc_int)) (q_mul (q_lst (qa_cons qc_int qa_nil)) (q_callTy (call_int1.or call_int_str) s_int (by rfl) T.b_int bt_int (qa_cons (q_cmp (op_eq.or (op_eqA (G := G) rfl hr)) s_eq (qv 0) (q_lst qa_nil) (nomark _)) qa_nil)))))
      (qss_cons (qs_for PassesOwn.never rfl (qi_range1 (by rfl) T.b_range (qa_cons (q_callB (call_len_seq.or (call_len_str.or call_lenD)) (s_len rfl) (by rfl) T.b_len bt_len (qa_cons (qv 1) qa_nil)) qa_nil)) (qg_name (i := 2) sc_law.nd rfl (by first | exact Or.inl rfl | exact Or.inr rfl)) (qss_one (qs_if (qt_not (qt_tru rfl (q_cal C__law_right hr (by decide) hgd (by rfl) (qa_cons (q_cal C__law_well hr (by decide) hgd (by rfl) (qa_cons (q_ix ix_seq (s_ix rfl) (qv 1) (qv 2)) (qa_cons (qv 2) qa_nil))) qa_nil)))) (qss_one (qs_ret qc_bl)) qss_nil)))
      (qss_one (qs_ret qc_bl))))
theorem wF_law {f : Addr} {fd : FuncData} (F : Fun K "law" "law" s_law f fd) (T : Tx mg) (C__law_well : Cal P w K mg base ⟨K, CA⟩ "_law_well" 1 2 c__law_well) (C__law_right : Cal P w K mg base ⟨K, CA⟩ "_law_right" 5 1 c__law_right) : FnG P w K mg base CX0 6 f fd ["script"] (spI ⟨K, CA⟩ 1 c_law) :=
  okF F sc_law rfl rfl rfl (b_law T C__law_well C__law_right)
end
end Lw

set_option Elab.async false
set_option linter.all false
set_option maxRecDepth 100000
set_option maxHeartbeats 4000000
namespace Lw
open PySem L2 PV
open PyProof.Rows
theorem all_mk {l : PySem.W.OpenLaw} {w : World} {K : PySem.W.Frag} {h : Heap} {mg : Str → Option Value} {fa : Addr} (X : K.In h) (G : h.Ns mainGlobals mg) (hfa : mg "law" = some (.ref fa))
    {f0 f1 f2 f3 f4 f5 f6 f7 f8 f9 f10 f11 f12 f13 f14 : Addr} {od0 an0 : Option Addr} {sl0 : Array (Option Value)} {oc0 kV0 dc0 pm0 cd0 ct0 : Value} {od1 an1 : Option Addr} {sl1 : Array (Option Value)} {oc1 kV1 dc1 pm1 cd1 ct1 : Value} {od2 an2 : Option Addr} {sl2 : Array (Option Value)} {oc2 kV2 dc2 pm2 cd2 ct2 : Value} {od3 an3 : Option Addr} {sl3 : Array (Option Value)} {oc3 kV3 dc3 pm3 cd3 ct3 : Value} {od4 an4 : Option Addr} {sl4 : Array (Option Value)} {oc4 kV4 dc4 pm4 cd4 ct4 : Value} {od5 an5 : Option Addr} {sl5 : Array (Option Value)} {oc5 kV5 dc5 pm5 cd5 ct5 : Value} {od6 an6 : Option Addr} {sl6 : Array (Option Value)} {oc6 kV6 dc6 pm6 cd6 ct6 : Value} {od7 an7 : Option Addr} {sl7 : Array (Option Value)} {oc7 kV7 dc7 pm7 cd7 ct7 : Value} {od8 an8 : Option Addr} {sl8 : Array (Option Value)} {oc8 kV8 dc8 pm8 cd8 ct8 : Value} {od9 an9 : Option Addr} {sl9 : Array (Option Value)} {oc9 kV9 dc9 pm9 cd9 ct9 : Value} {od10 an10 : Option Addr} {sl10 : Array (Option Value)} {oc10 kV10 dc10 pm10 cd10 ct10 : Value} {od11 an11 : Option Addr} {sl11 : Array (Option Value)} {oc11 kV11 dc11 pm11 cd11 ct11 : Value} {od12 an12 : Option Addr} {sl12 : Array (Option Value)} {oc12 kV12 dc12 pm12 cd12 ct12 : Value} {od13 an13 : Option Addr} {sl13 : Array (Option Value)} {oc13 kV13 dc13 pm13 cd13 ct13 : Value} {od14 an14 : Option Addr} {sl14 : Array (Option Value)} {oc14 kV14 dc14 pm14 cd14 ct14 : Value}
    (a0 : PySem.W.nsIn K mainGlobals "is_name" = some (some (.ref f0))) (l0 : K.lookup f0 = some ⟨oc0, od0, .func (PySem.W.fnOf "is_name" "is_name" (defArgs s_is_name) (defBody s_is_name) (defScope s_is_name) .none kV0 dc0 pm0 an0 cd0 ct0), sl0⟩) (c0 : PySem.W.codeIn K cd0 "is_name" = true) (k0 : PySem.W.keepIn K (.ref f0) = true)
    (a1 : PySem.W.nsIn K mainGlobals "show_run" = some (some (.ref f1))) (l1 : K.lookup f1 = some ⟨oc1, od1, .func (PySem.W.fnOf "show_run" "show_run" (defArgs s_show_run) (defBody s_show_run) (defScope s_show_run) .none kV1 dc1 pm1 an1 cd1 ct1), sl1⟩) (c1 : PySem.W.codeIn K cd1 "show_run" = true) (k1 : PySem.W.keepIn K (.ref f1) = true)
    (a2 : PySem.W.nsIn K mainGlobals "read_number" = some (some (.ref f2))) (l2 : K.lookup f2 = some ⟨oc2, od2, .func (PySem.W.fnOf "read_number" "read_number" (defArgs s_read_number) (defBody s_read_number) (defScope s_read_number) .none kV2 dc2 pm2 an2 cd2 ct2), sl2⟩) (c2 : PySem.W.codeIn K cd2 "read_number" = true) (k2 : PySem.W.keepIn K (.ref f2) = true)
    (a3 : PySem.W.nsIn K mainGlobals "read_deed" = some (some (.ref f3))) (l3 : K.lookup f3 = some ⟨oc3, od3, .func (PySem.W.fnOf "read_deed" "read_deed" (defArgs s_read_deed) (defBody s_read_deed) (defScope s_read_deed) .none kV3 dc3 pm3 an3 cd3 ct3), sl3⟩) (c3 : PySem.W.codeIn K cd3 "read_deed" = true) (k3 : PySem.W.keepIn K (.ref f3) = true)
    (a4 : PySem.W.nsIn K mainGlobals "read_run" = some (some (.ref f4))) (l4 : K.lookup f4 = some ⟨oc4, od4, .func (PySem.W.fnOf "read_run" "read_run" (defArgs s_read_run) (defBody s_read_run) (defScope s_read_run) .none kV4 dc4 pm4 an4 cd4 ct4), sl4⟩) (c4 : PySem.W.codeIn K cd4 "read_run" = true) (k4 : PySem.W.keepIn K (.ref f4) = true)
    (a5 : PySem.W.nsIn K mainGlobals "_law_well" = some (some (.ref f5))) (l5 : K.lookup f5 = some ⟨oc5, od5, .func (PySem.W.fnOf "_law_well" "_law_well" (defArgs s__law_well) (defBody s__law_well) (defScope s__law_well) .none kV5 dc5 pm5 an5 cd5 ct5), sl5⟩) (c5 : PySem.W.codeIn K cd5 "_law_well" = true) (k5 : PySem.W.keepIn K (.ref f5) = true)
    (a6 : PySem.W.nsIn K mainGlobals "_law_draw" = some (some (.ref f6))) (l6 : K.lookup f6 = some ⟨oc6, od6, .func (PySem.W.fnOf "_law_draw" "_law_draw" (defArgs s__law_draw) (defBody s__law_draw) (defScope s__law_draw) .none kV6 dc6 pm6 an6 cd6 ct6), sl6⟩) (c6 : PySem.W.codeIn K cd6 "_law_draw" = true) (k6 : PySem.W.keepIn K (.ref f6) = true)
    (a7 : PySem.W.nsIn K mainGlobals "_law_word" = some (some (.ref f7))) (l7 : K.lookup f7 = some ⟨oc7, od7, .func (PySem.W.fnOf "_law_word" "_law_word" (defArgs s__law_word) (defBody s__law_word) (defScope s__law_word) .none kV7 dc7 pm7 an7 cd7 ct7), sl7⟩) (c7 : PySem.W.codeIn K cd7 "_law_word" = true) (k7 : PySem.W.keepIn K (.ref f7) = true)
    (a8 : PySem.W.nsIn K mainGlobals "_law_integer" = some (some (.ref f8))) (l8 : K.lookup f8 = some ⟨oc8, od8, .func (PySem.W.fnOf "_law_integer" "_law_integer" (defArgs s__law_integer) (defBody s__law_integer) (defScope s__law_integer) .none kV8 dc8 pm8 an8 cd8 ct8), sl8⟩) (c8 : PySem.W.codeIn K cd8 "_law_integer" = true) (k8 : PySem.W.keepIn K (.ref f8) = true)
    (a9 : PySem.W.nsIn K mainGlobals "_law_wild" = some (some (.ref f9))) (l9 : K.lookup f9 = some ⟨oc9, od9, .func (PySem.W.fnOf "_law_wild" "_law_wild" (defArgs s__law_wild) (defBody s__law_wild) (defScope s__law_wild) .none kV9 dc9 pm9 an9 cd9 ct9), sl9⟩) (c9 : PySem.W.codeIn K cd9 "_law_wild" = true) (k9 : PySem.W.keepIn K (.ref f9) = true)
    (a10 : PySem.W.nsIn K mainGlobals "_law_run_text" = some (some (.ref f10))) (l10 : K.lookup f10 = some ⟨oc10, od10, .func (PySem.W.fnOf "_law_run_text" "_law_run_text" (defArgs s__law_run_text) (defBody s__law_run_text) (defScope s__law_run_text) .none kV10 dc10 pm10 an10 cd10 ct10), sl10⟩) (c10 : PySem.W.codeIn K cd10 "_law_run_text" = true) (k10 : PySem.W.keepIn K (.ref f10) = true)
    (a11 : PySem.W.nsIn K mainGlobals "_law_deeds" = some (some (.ref f11))) (l11 : K.lookup f11 = some ⟨oc11, od11, .func (PySem.W.fnOf "_law_deeds" "_law_deeds" (defArgs s__law_deeds) (defBody s__law_deeds) (defScope s__law_deeds) .none kV11 dc11 pm11 an11 cd11 ct11), sl11⟩) (c11 : PySem.W.codeIn K cd11 "_law_deeds" = true) (k11 : PySem.W.keepIn K (.ref f11) = true)
    (a12 : PySem.W.nsIn K mainGlobals "_law_list_right" = some (some (.ref f12))) (l12 : K.lookup f12 = some ⟨oc12, od12, .func (PySem.W.fnOf "_law_list_right" "_law_list_right" (defArgs s__law_list_right) (defBody s__law_list_right) (defScope s__law_list_right) .none kV12 dc12 pm12 an12 cd12 ct12), sl12⟩) (c12 : PySem.W.codeIn K cd12 "_law_list_right" = true) (k12 : PySem.W.keepIn K (.ref f12) = true)
    (a13 : PySem.W.nsIn K mainGlobals "_law_right" = some (some (.ref f13))) (l13 : K.lookup f13 = some ⟨oc13, od13, .func (PySem.W.fnOf "_law_right" "_law_right" (defArgs s__law_right) (defBody s__law_right) (defScope s__law_right) .none kV13 dc13 pm13 an13 cd13 ct13), sl13⟩) (c13 : PySem.W.codeIn K cd13 "_law_right" = true) (k13 : PySem.W.keepIn K (.ref f13) = true)
    (a14 : PySem.W.nsIn K mainGlobals "law" = some (some (.ref f14))) (l14 : K.lookup f14 = some ⟨oc14, od14, .func (PySem.W.fnOf "law" "law" (defArgs s_law) (defBody s_law) (defScope s_law) .none kV14 dc14 pm14 an14 cd14 ct14), sl14⟩) (c14 : PySem.W.codeIn K cd14 "law" = true) (k14 : PySem.W.keepIn K (.ref f14) = true)
    (z_all : PySem.W.nsIn K mainGlobals "all" = some none)
    (z_any : PySem.W.nsIn K mainGlobals "any" = some none)
    (z_int : PySem.W.nsIn K mainGlobals "int" = some none)
    (z_len : PySem.W.nsIn K mainGlobals "len" = some none)
    (z_list : PySem.W.nsIn K mainGlobals "list" = some none)
    (z_max : PySem.W.nsIn K mainGlobals "max" = some none)
    (z_range : PySem.W.nsIn K mainGlobals "range" = some none)
    (z_repr : PySem.W.nsIn K mainGlobals "repr" = some none)
    (z_str : PySem.W.nsIn K mainGlobals "str" = some none)
    {t_DIGITS : Tok} (y_DIGITS : PySem.W.nsIn K mainGlobals "DIGITS" = some (some (.str "0123456789" t_DIGITS)))
    {t_LETTERS : Tok} (y_LETTERS : PySem.W.nsIn K mainGlobals "LETTERS" = some (some (.str "abcdefghijklmnopqrstuvwxyz" t_LETTERS)))
    {t_MOST_DIGITS : Tok} (y_MOST_DIGITS : PySem.W.nsIn K mainGlobals "MOST_DIGITS" = some (some (.int 60 t_MOST_DIGITS)))
    {t_MOST_LETTERS : Tok} (y_MOST_LETTERS : PySem.W.nsIn K mainGlobals "MOST_LETTERS" = some (some (.int 8 t_MOST_LETTERS)))
    (lawOk : ∀ ns : List Int, ns.length ≤ 63 → ∃ M', c_law [.scr ns] ⟨fun _ => none, 0⟩ = some (.val (.bl true), M')) :
    ∃ (fd : FuncData) (CA : Nat → Addr) (f : FM), (∀ (s : Shared) (u : Value), BindsTo s fd ⟨[u], []⟩ [("script", u)]) ∧ (∀ base : Heap, K.In base → base.Ns mainGlobals mg → FnG l.prog w K mg base CX0 6 fa fd ["script"] (spI ⟨K, CA⟩ 1 f)) ∧ ∀ ns : List Int, ns.length ≤ 63 → ∃ M', f [.scr ns] ⟨fun _ => none, 0⟩ = some (.val (.bl true), M') := by
  have e := hfa.symm.trans (PySem.W.mg_of X G a14)
  cases e
  have T : Tx mg := ⟨PySem.W.mg_none_of X G z_all, PySem.W.mg_none_of X G z_any, PySem.W.mg_none_of X G z_int, PySem.W.mg_none_of X G z_len, PySem.W.mg_none_of X G z_list, PySem.W.mg_none_of X G z_max, PySem.W.mg_none_of X G z_range, PySem.W.mg_none_of X G z_repr, PySem.W.mg_none_of X G z_str, ⟨t_DIGITS, PySem.W.mg_of X G y_DIGITS⟩, ⟨t_LETTERS, PySem.W.mg_of X G y_LETTERS⟩, ⟨t_MOST_DIGITS, PySem.W.mg_of X G y_MOST_DIGITS⟩, ⟨t_MOST_LETTERS, PySem.W.mg_of X G y_MOST_LETTERS⟩⟩
  refine ⟨PySem.W.fnOf "law" "law" (defArgs s_law) (defBody s_law) (defScope s_law) .none kV14 dc14 pm14 an14 cd14 ct14, fun _ => 0, c_law, ?_, fun base _ _ => ?_, lawOk⟩
  · exact fun s v => .of_eq rfl
  · have C_is_name := w_is_name (P := l.prog) (w := w) (base := base) (CA := fun _ => 0) (fun_mk (st := s_is_name) l0 c0 k0) (PySem.W.mg_of X G a0) T 
    have C_show_run := w_show_run (P := l.prog) (w := w) (base := base) (CA := fun _ => 0) (fun_mk (st := s_show_run) l1 c1 k1) (PySem.W.mg_of X G a1) T 
    have C_read_number := w_read_number (P := l.prog) (w := w) (base := base) (CA := fun _ => 0) (fun_mk (st := s_read_number) l2 c2 k2) (PySem.W.mg_of X G a2) T 
    have C_read_deed := w_read_deed (P := l.prog) (w := w) (base := base) (CA := fun _ => 0) (fun_mk (st := s_read_deed) l3 c3 k3) (PySem.W.mg_of X G a3) T C_read_number C_is_name
    have C_read_run := w_read_run (P := l.prog) (w := w) (base := base) (CA := fun _ => 0) (fun_mk (st := s_read_run) l4 c4 k4) (PySem.W.mg_of X G a4) T C_read_deed
    have C__law_well := w__law_well (P := l.prog) (w := w) (base := base) (CA := fun _ => 0) (fun_mk (st := s__law_well) l5 c5 k5) (PySem.W.mg_of X G a5) T 
    have C__law_draw := w__law_draw (P := l.prog) (w := w) (base := base) (CA := fun _ => 0) (fun_mk (st := s__law_draw) l6 c6 k6) (PySem.W.mg_of X G a6) T 
    have C__law_word := w__law_word (P := l.prog) (w := w) (base := base) (CA := fun _ => 0) (fun_mk (st := s__law_word) l7 c7 k7) (PySem.W.mg_of X G a7) T C__law_draw
    have C__law_integer := w__law_integer (P := l.prog) (w := w) (base := base) (CA := fun _ => 0) (fun_mk (st := s__law_integer) l8 c8 k8) (PySem.W.mg_of X G a8) T C__law_draw
    have C__law_wild := w__law_wild (P := l.prog) (w := w) (base := base) (CA := fun _ => 0) (fun_mk (st := s__law_wild) l9 c9 k9) (PySem.W.mg_of X G a9) T C__law_draw C__law_word C__law_integer
    have C__law_run_text := w__law_run_text (P := l.prog) (w := w) (base := base) (CA := fun _ => 0) (fun_mk (st := s__law_run_text) l10 c10 k10) (PySem.W.mg_of X G a10) T 
    have C__law_deeds := w__law_deeds (P := l.prog) (w := w) (base := base) (CA := fun _ => 0) (fun_mk (st := s__law_deeds) l11 c11 k11) (PySem.W.mg_of X G a11) T C__law_draw C__law_wild
    have C__law_list_right := w__law_list_right (P := l.prog) (w := w) (base := base) (CA := fun _ => 0) (fun_mk (st := s__law_list_right) l12 c12 k12) (PySem.W.mg_of X G a12) T C__law_run_text C_show_run C_read_run
    have C__law_right := w__law_right (P := l.prog) (w := w) (base := base) (CA := fun _ => 0) (fun_mk (st := s__law_right) l13 c13 k13) (PySem.W.mg_of X G a13) T C__law_deeds C__law_list_right C_show_run
    exact wF_law (fun_mk (st := s_law) l14 c14 k14) T C__law_well C__law_right
theorem walk {l : PySem.W.OpenLaw} {q : Program} {loose : List Str} {XP : (Str → Option Value) → Heap → Prop} {YP : World → Heap → Prop} {d : DefRec} {K : Params → PySem.W.Frag} (hn : l.most = some 63) (hdf : d.params.defaults = [])
    (hY : ∀ (w : World) (h : Heap), YP w h → (K w.params).In h)
    (F : ∀ (w : World) (mg : Str → Option Value) (fa : Addr) (h : Heap), (K w.params).In h → h.Ns mainGlobals mg → mg d.name = some (.ref fa) →
      ∃ (fd : FuncData) (CA : Nat → Addr) (f : FM), (∀ (s : Shared) (u : Value), BindsTo s fd ⟨[u], []⟩ [("script", u)]) ∧
        (∀ base : Heap, (K w.params).In base → base.Ns mainGlobals mg → FnG l.prog w (K w.params) mg base CX0 6 fa fd ["script"] (spI ⟨K w.params, CA⟩ 1 f)) ∧
        ∀ ns : List Int, ns.length ≤ 63 → ∃ M', f [.scr ns] ⟨fun _ => none, 0⟩ = some (.val (.bl true), M')) : PySem.W.WalkO q loose XP YP l.row.toRowW d [] (fun f vs => PySem.call f vs) :=
  walkG (n := 63) (k := 6) (x := "script") hn (by decide) hdf ⟨rfl, by decide, by decide⟩ hY F
end Lw
open PySem PySem.W PyProof.Rows
set_option maxRecDepth 100000 in
set_option maxHeartbeats 0 in
theorem PySem.Challenge.cw_paidinparts_k53_texts_of_deeds_holds : PySem.Challenge.rw_paidinparts_k53_texts_of_deeds.Holds := by
  w_on; o_law; k_head; (case hw => w_witness2)
  k_fill
  refine Lw.walk (l := PySem.Challenge.rw_paidinparts_k53_texts_of_deeds) rfl rfl (fun w h Y => PySem.W.kIn_of Y) ?F
  case F =>
    intro w mg fa h KX G hmg
    refine' Lw.all_mk KX G hmg ?a0 ?l0 ?c0 ?k0 ?a1 ?l1 ?c1 ?k1 ?a2 ?l2 ?c2 ?k2 ?a3 ?l3 ?c3 ?k3 ?a4 ?l4 ?c4 ?k4 ?a5 ?l5 ?c5 ?k5 ?a6 ?l6 ?c6 ?k6 ?a7 ?l7 ?c7 ?k7 ?a8 ?l8 ?c8 ?k8 ?a9 ?l9 ?c9 ?k9 ?a10 ?l10 ?c10 ?k10 ?a11 ?l11 ?c11 ?k11 ?a12 ?l12 ?c12 ?k12 ?a13 ?l13 ?c13 ?k13 ?a14 ?l14 ?c14 ?k14 ?z_all ?z_any ?z_int ?z_len ?z_list ?z_max ?z_range ?z_repr ?z_str ?y_DIGITS ?y_LETTERS ?y_MOST_DIGITS ?y_MOST_LETTERS Lw.lawOk
    (case a0 => k_is)
    (case l0 => k_is)
    (case c0 => k_is)
    (case k0 => k_is)
    (case a1 => k_is)
    (case l1 => k_is)
    (case c1 => k_is)
    (case k1 => k_is)
    (case a2 => k_is)
    (case l2 => k_is)
    (case c2 => k_is)
    (case k2 => k_is)
    (case a3 => k_is)
    (case l3 => k_is)
    (case c3 => k_is)
    (case k3 => k_is)
    (case a4 => k_is)
    (case l4 => k_is)
    (case c4 => k_is)
    (case k4 => k_is)
    (case a5 => k_is)
    (case l5 => k_is)
    (case c5 => k_is)
    (case k5 => k_is)
    (case a6 => k_is)
    (case l6 => k_is)
    (case c6 => k_is)
    (case k6 => k_is)
    (case a7 => k_is)
    (case l7 => k_is)
    (case c7 => k_is)
    (case k7 => k_is)
    (case a8 => k_is)
    (case l8 => k_is)
    (case c8 => k_is)
    (case k8 => k_is)
    (case a9 => k_is)
    (case l9 => k_is)
    (case c9 => k_is)
    (case k9 => k_is)
    (case a10 => k_is)
    (case l10 => k_is)
    (case c10 => k_is)
    (case k10 => k_is)
    (case a11 => k_is)
    (case l11 => k_is)
    (case c11 => k_is)
    (case k11 => k_is)
    (case a12 => k_is)
    (case l12 => k_is)
    (case c12 => k_is)
    (case k12 => k_is)
    (case a13 => k_is)
    (case l13 => k_is)
    (case c13 => k_is)
    (case k13 => k_is)
    (case a14 => k_is)
    (case l14 => k_is)
    (case c14 => k_is)
    (case k14 => k_is)
    (case z_all => k_is)
    (case z_any => k_is)
    (case z_int => k_is)
    (case z_len => k_is)
    (case z_list => k_is)
    (case z_max => k_is)
    (case z_range => k_is)
    (case z_repr => k_is)
    (case z_str => k_is)
    (case y_DIGITS => k_is)
    (case y_LETTERS => k_is)
    (case y_MOST_DIGITS => k_is)
    (case y_MOST_LETTERS => k_is)
