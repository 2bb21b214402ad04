import PyProof.Rows.All
import Wide.All
import OpenK.AllK
import Wide.FinOn
import HandS.ForMost
import HandS.ForExc
import HandS.CallSlots
import HandS.IsInst
import HandS.Zip
import HandS.Star
import HandS.Flow
import HandS.StrMore
import HandS.Wide
import HandS.WideBits
import HandS.TupAny
import HandS.RaiseMore
import HandS.Conv
import HandS.SetKeys
import HandS.EndBits
import HandS.Replace
import PyProof.Rows.StrPadFill
import HandS.Text
import KE.GoesMore
import HandS.DictComp
import HandS.Steps
import KE.SortData
import HandS.Set
import HandS.SetFor
import HandS.SetTxt0
import PyProof.Rows.SetFrom
import KE.KEqDict
import KE.SortKeyHeap
import HandS.SortKw
import KE.DataFind
import OpenK.KTop
import PyProof.StrLawsRepr
import PySem.Challenge.RW_cleanedtables_k01_worths_forms_shapes_of
set_option Elab.async false
set_option linter.all false
set_option maxRecDepth 100000
/-! The data layer: what expressions and statements come to, told in plain data (PyData), over the hand layer's judgements. -/
namespace DL
open PySem PySem.Spec PyProof.Rows L2

abbrev D := PyData
/-- the tuple at a, whose object has no dict -/
def SqS (K : PySem.W.Frag) (H : Hp) (a : Addr) (xs : List V) : Prop := (∃ o, H a = some (.frz o (.tup xs)) ∧ o.dict = none) ∨
  ∃ (o : Obj) (its : Array Value) (n : Nat), K.lookup a = some o ∧ o.cls = .type "tuple" ∧ o.dict = none ∧ o.data = .seq its n ∧ its.size ≤ sizeLine ∧ Vals xs its.toList
theorem SqS.t {K : PySem.W.Frag} {H : Hp} {a : Addr} {xs : List V} : SqS K H a xs → SqT K H a xs
  | .inl ⟨o, h, _⟩ => .inl (.inr ⟨o, h⟩)
  | .inr ⟨o, its, n, h1, h2, _, h4⟩ => .inr ⟨o, its, n, h1, h2, h4⟩
theorem seqS {K : PySem.W.Frag} {H H' : Hp} {a : Addr} {xs : List V} (e : Same H H') : SqS K H a xs → SqS K H' a xs
  | .inl ⟨o, h, d⟩ => .inl ⟨o, e _ _ h, d⟩
  | .inr h => .inr h
/-- a new tuple -/
abbrev frT (its : Array Value) (xs : List V) : HO := .frz { cls := .type "tuple", data := .seq its } (.tup xs)
theorem SqS.of {K : PySem.W.Frag} {H : Hp} {a : Addr} {its : Array Value} {xs : List V} (h : H a = some (frT its xs)) : SqS K H a xs := .inl ⟨_, h, rfl⟩
def kD : Key → D
  | .inl i => .int i
  | .inr x => .str x
mutual
inductive Rp (K : PySem.W.Frag) (I : Hp) : V → D → Prop
  | non : Rp K I .non .none
  | bl (b : Bool) : Rp K I (.bl b) (.bool b)
  | int (i : Int) : Rp K I (.int i) (.int i)
  | str (x : Str) : Rp K I (.str x) (.str x)
  | lst {a : Addr} {xs : List V} {ds : List D} : SqL K I a xs → RpA K I xs ds → Rp K I (.ref a) (.list ds)
  | tup {a : Addr} {xs : List V} {ds : List D} : SqS K I a xs → RpA K I xs ds → Rp K I (.ref a) (.tuple ds)
  | dic {a : Addr} {kvs : List (Key × V)} {ps : List (D × D)} : I a = some (.dK kvs) → RpK K I kvs ps → Rp K I (.ref a) (.dict ps)
inductive RpA (K : PySem.W.Frag) (I : Hp) : List V → List D → Prop
  | nil : RpA K I [] []
  | cons {v : V} {vs : List V} {d : D} {ds : List D} : Rp K I v d → RpA K I vs ds → RpA K I (v :: vs) (d :: ds)
inductive RpK (K : PySem.W.Frag) (I : Hp) : List (Key × V) → List (D × D) → Prop
  | nil : RpK K I [] []
  | cons {k : Key} {v : V} {kvs : List (Key × V)} {d : D} {ps : List (D × D)} : Rp K I v d → RpK K I kvs ps → RpK K I ((k, v) :: kvs) ((kD k, d) :: ps)
end
theorem seqL {K : PySem.W.Frag} {H H' : Hp} {a : Addr} {xs : List V} (e : Same H H') (h : SqL K H a xs) : SqL K H' a xs := e.seq h
theorem seqT {K : PySem.W.Frag} {H H' : Hp} {a : Addr} {xs : List V} (e : Same H H') (h : SqT K H a xs) : SqT K H' a xs := by
  rcases h with (h | ⟨o, h⟩) | h
  · exact .inl (.inl (e _ _ h))
  · exact .inl (.inr ⟨o, e _ _ h⟩)
  · exact .inr h
mutual
theorem Rp.mono {K : PySem.W.Frag} {I I' : Hp} (e : Same I I') : ∀ (d : D) (v : V), Rp K I v d → Rp K I' v d
  | .none, _, h => by cases h; exact .non
  | .bool _, _, h => by cases h; exact .bl _
  | .int _, _, h => by cases h; exact .int _
  | .str _, _, h => by cases h; exact .str _
  | .list ds, _, h => by
    cases h with
    | lst hs ha => exact .lst (seqL e hs) (RpA.mono e ds _ ha)
  | .tuple ds, _, h => by
    cases h with
    | tup hs ha => exact .tup (seqS e hs) (RpA.mono e ds _ ha)
  | .dict ps, _, h => by
    cases h with
    | dic hs ha => exact .dic (e _ _ hs) (RpK.mono e ps _ ha)
theorem RpA.mono {K : PySem.W.Frag} {I I' : Hp} (e : Same I I') : ∀ (ds : List D) (vs : List V), RpA K I vs ds → RpA K I' vs ds
  | [], _, h => by cases h; exact .nil
  | d :: ds, _, h => by
    cases h with
    | cons h1 h2 => exact .cons (Rp.mono e d _ h1) (RpA.mono e ds _ h2)
theorem RpK.mono {K : PySem.W.Frag} {I I' : Hp} (e : Same I I') : ∀ (ps : List (D × D)) (kvs : List (Key × V)), RpK K I kvs ps → RpK K I' kvs ps
  | [], _, h => by cases h; exact .nil
  | (_, d) :: ps, _, h => by
    cases h with
    | cons h1 h2 => exact .cons (Rp.mono e d _ h1) (RpK.mono e ps _ h2)
end
theorem RpA.length {K : PySem.W.Frag} {I : Hp} : ∀ {ds : List D} {vs : List V}, RpA K I vs ds → vs.length = ds.length
  | _, _, .nil => rfl
  | _, _, .cons _ t => by rw [List.length_cons, List.length_cons, RpA.length t]
theorem RpA.get {K : PySem.W.Frag} {I : Hp} : ∀ {ds : List D} {vs : List V} {i : Nat} {v : V}, RpA K I vs ds → vs[i]? = some v → ∃ d, ds[i]? = some d ∧ Rp K I v d
  | _, _, _, _, .nil, h => by simp at h
  | _, _, 0, _, .cons r t, h => by
    simp at h
    subst h
    exact ⟨_, rfl, r⟩
  | _, _, i + 1, _, .cons r t, h => by
    obtain ⟨d, h1, h2⟩ := RpA.get (i := i) t (by simpa using h)
    exact ⟨d, by simpa using h1, h2⟩
theorem RpA.got {K : PySem.W.Frag} {I : Hp} {ds : List D} {vs : List V} {i : Nat} {d : D} (r : RpA K I vs ds) (h : ds[i]? = some d) : ∃ v, vs[i]? = some v ∧ Rp K I v d := by
  have hl := r.length
  have hi : i < vs.length := by
    have := (List.getElem?_eq_some_iff.mp h).1
    omega
  have e : vs[i]? = some vs[i] := by simp [hi]
  obtain ⟨d', h1, h2⟩ := r.get e
  rw [h] at h1
  cases h1
  exact ⟨_, e, h2⟩
theorem RpA.app {K : PySem.W.Frag} {I : Hp} : ∀ {ds es : List D} {vs us : List V}, RpA K I vs ds → RpA K I us es → RpA K I (vs ++ us) (ds ++ es)
  | _, _, _, _, .nil, h => h
  | _, _, _, _, .cons r t, h => .cons r (RpA.app t h)
theorem RpA.take {K : PySem.W.Frag} {I : Hp} : ∀ {ds : List D} {vs : List V} (n : Nat), RpA K I vs ds → RpA K I (vs.take n) (ds.take n)
  | _, _, 0, _ => by simp; exact .nil
  | _, _, n + 1, .nil => .nil
  | _, _, n + 1, .cons r t => .cons r (RpA.take n t)
theorem RpA.drop {K : PySem.W.Frag} {I : Hp} : ∀ {ds : List D} {vs : List V} (n : Nat), RpA K I vs ds → RpA K I (vs.drop n) (ds.drop n)
  | _, _, 0, h => h
  | _, _, n + 1, .nil => .nil
  | _, _, n + 1, .cons r t => RpA.drop n t
mutual
def nodict : D → Bool
  | .list ds => nodicts ds
  | .tuple ds => nodicts ds
  | .dict _ => false
  | _ => true
def nodicts : List D → Bool
  | [] => true
  | d :: ds => nodict d && nodicts ds
end
mutual
theorem Rp.dp {K : PySem.W.Frag} {I : Hp} : ∀ (d : D) (v : V), nodict d = true → Rp K I v d → Dp K I v d
  | .none, _, _, h => by cases h; exact .non
  | .bool _, _, _, h => by cases h; exact .bl _
  | .int _, _, _, h => by cases h; exact .int _
  | .str _, _, _, h => by cases h; exact .str _
  | .list ds, _, n, h => by
    cases h with
    | lst hs ha => exact .lst hs (RpA.dp ds _ (by simpa [nodict] using n) ha)
  | .tuple ds, _, n, h => by
    cases h with
    | tup hs ha => exact .tup hs.t (RpA.dp ds _ (by simpa [nodict] using n) ha)
  | .dict ps, _, n, _ => by simp [nodict] at n
theorem RpA.dp {K : PySem.W.Frag} {I : Hp} : ∀ (ds : List D) (vs : List V), nodicts ds = true → RpA K I vs ds → DpAll K I vs ds
  | [], _, _, h => by cases h; exact .nil
  | d :: ds, _, n, h => by
    simp only [nodicts, Bool.and_eq_true] at n
    cases h with
    | cons h1 h2 => exact .cons (Rp.dp d _ n.1 h1) (RpA.dp ds _ n.2 h2)
end

/-! ### what a name, an expression may be; what stands in a store -/
inductive Dv where
  | d (x : D) | c (n : Nat) | f (n : Nat)
abbrev DEnv := List (Option Dv)
inductive Cell where
  | lst (xs : List Dv) | dic (kvs : List (Key × Dv)) | dT (kvs : List (List Key × Dv)) | obj (C : Nat) (fs : List (Str × Dv)) | dead
abbrev Store := List Cell
structure Ex where
  cls : Nat
  fs : List (Str × Dv)
inductive Out (β : Type) where
  | ok (b : β) (μ : Store) | ex (e : Ex) (μ : Store) | bad
def Out.bind {β γ : Type} : Out β → (β → Store → Out γ) → Out γ
  | .ok b μ, k => k b μ
  | .ex e μ, _ => .ex e μ
  | .bad, _ => .bad
@[simp] theorem bind_ok {β γ : Type} (b : β) (μ : Store) (k : β → Store → Out γ) : (Out.ok b μ).bind k = k b μ := rfl
@[simp] theorem bind_ex {β γ : Type} (e : Ex) (μ : Store) (k : β → Store → Out γ) : (Out.ex e μ : Out β).bind k = .ex e μ := rfl
@[simp] theorem bind_bad {β γ : Type} (k : β → Store → Out γ) : (Out.bad : Out β).bind k = .bad := rfl

structure GT where
  K : PySem.W.Frag
  FA : Nat → Option Addr
/-- I: what is frozen; α: where the store's cells stand; F: what stands there for others, untouched -/
structure Wd where
  I : Hp
  α : List Addr
  F : Hp
def Wd.le (w w' : Wd) : Prop := Same w.I w'.I ∧ w.α <+: w'.α ∧ Same w.F w'.F
theorem Wd.le_refl (w : Wd) : w.le w := ⟨Same.refl _, List.prefix_refl _, Same.refl _⟩
theorem Wd.le.trans {a b c : Wd} (h : a.le b) (k : b.le c) : a.le c := ⟨h.1.trans k.1, h.2.1.trans k.2.1, h.2.2.trans k.2.2⟩

def Rv (G : GT) (w : Wd) (v : V) : Dv → Prop
  | .d x => Rp G.K w.I v x
  | .c n => ∃ a, w.α[n]? = some a ∧ v = .ref a
  | .f n => ∃ a, G.FA n = some a ∧ v = .ref a
theorem pre_get {α : Type} {l m : List α} (h : l <+: m) {n : Nat} {a : α} (e : l[n]? = some a) : m[n]? = some a := by
  obtain ⟨t, rfl⟩ := h
  have := (List.getElem?_eq_some_iff.mp e).1
  rw [List.getElem?_append_left this]
  exact e
theorem Rv.mono {G : GT} {w w' : Wd} (h : w.le w') {v : V} : ∀ {b : Dv}, Rv G w v b → Rv G w' v b
  | .d _, r => Rp.mono h.1 _ _ r
  | .c _, ⟨a, e, q⟩ => ⟨a, pre_get h.2.1 e, q⟩
  | .f _, r => r
abbrev Rvs (G : GT) (w : Wd) : List V → List Dv → Prop := Paired (Rv G w)
theorem Rvs.mono {G : GT} {w w' : Wd} (h : w.le w') : ∀ {vs : List V} {bs : List Dv}, Rvs G w vs bs → Rvs G w' vs bs
  | _, _, .nil => .nil
  | _, _, .cons r t => .cons (Rv.mono h r) (Rvs.mono h t)

def CellAt (G : GT) (w : Wd) (H : Hp) (a : Addr) : Cell → Prop
  | .lst xs => w.I a = none ∧ ∃ vs, H a = some (.lst vs) ∧ Rvs G w vs xs
  | .dic kvs => w.I a = none ∧ ∃ ws, H a = some (.dK ws) ∧ Paired (fun (p : Key × V) (q : Key × Dv) => p.1 = q.1 ∧ Rv G w p.2 q.2) ws kvs
  | .dT kvs => w.I a = none ∧ ∃ ws, H a = some (.dT ws) ∧ Paired (fun (p : List Key × V) (q : List Key × Dv) => p.1 = q.1 ∧ Rv G w p.2 q.2) ws kvs
  | .obj _ _ => False
  | .dead => True
structure Lay (G : GT) (w : Wd) (μ : Store) (H : Hp) : Prop where
  same : Same w.I H
  len : w.α.length = μ.length
  nd : w.α.Nodup
  lv : ∀ a ∈ w.α, ∃ o, H a = some o
  fr : Same w.F H
  fd : ∀ a ∈ w.α, w.F a = none
  di : ∀ a o, w.F a = some o → w.I a = none
  at_ : ∀ (n : Nat) (c : Cell) (a : Addr), μ[n]? = some c → w.α[n]? = some a → CellAt G w H a c
theorem Paired.imp {α β : Type} {F F' : α → β → Prop} (h : ∀ a b, F a b → F' a b) : ∀ {l : List α} {m : List β}, Paired F l m → Paired F' l m
  | _, _, .nil => .nil
  | _, _, .cons r t => .cons (h _ _ r) (Paired.imp h t)
def EnvR (G : GT) (w : Wd) (σ : L2.St) (ρ : DEnv) : Prop := σ.length = ρ.length ∧ ∀ (i : Nat) (b : Dv), ρ[i]? = some (some b) → ∃ v, σ[i]? = some (some v) ∧ Rv G w v b
theorem EnvR.mono {G : GT} {w w' : Wd} (h : w.le w') {σ : L2.St} {ρ : DEnv} (e : EnvR G w σ ρ) : EnvR G w' σ ρ :=
  ⟨e.1, fun i b q => let ⟨v, h1, h2⟩ := e.2 i b q; ⟨v, h1, Rv.mono h h2⟩⟩
theorem EnvR.set {G : GT} {w : Wd} {σ : L2.St} {ρ : DEnv} (e : EnvR G w σ ρ) (i : Nat) {v : V} {b : Dv} (r : Rv G w v b) : EnvR G w (σ.set i (some v)) (ρ.set i (some b)) := by
  refine ⟨by rw [List.length_set, List.length_set]; exact e.1, fun j c q => ?_⟩
  by_cases h : i = j
  · subst h
    by_cases hi : i < ρ.length
    · rw [List.getElem?_set_self hi] at q
      cases q
      exact ⟨v, by rw [List.getElem?_set_self (by rw [e.1]; exact hi)], r⟩
    · rw [List.getElem?_eq_none (by rw [List.length_set]; omega)] at q
      cases q
  · rw [List.getElem?_set_ne h] at q
    obtain ⟨u, h1, h2⟩ := e.2 j c q
    exact ⟨u, by rw [List.getElem?_set_ne h]; exact h1, h2⟩

/-- an exception at its data -/
def ExR (G : GT) (w : Wd) (H : Hp) (cls : Value) (d : Option Addr) (e : Ex) : Prop :=
  ∃ C, G.FA e.cls = some C ∧ cls = .ref C ∧ ((d = none ∧ e.fs = []) ∨ ∃ da vs, d = some da ∧ w.I da = some (.xd vs) ∧ Paired (fun (p : Str × V) (q : Str × Dv) => p.1 = q.1 ∧ Rv G w p.2 q.2) vs e.fs)

/-! ### what is wanted behind -/
def Pst {β γ : Type} (G : GT) (W : WX) (σ : L2.St) (R : Wd → γ → β → Prop) (w : Wd) (o : Out β) (Q : γ → Hp → Prop) : Prop :=
  match o with
  | .ok b μ' => ∀ w' v H', w.le w' → Lay G w' μ' H' → R w' v b → Q v H'
  | .ex e μ' => ∀ w' cls d H', w.le w' → Lay G w' μ' H' → ExR G w' H' cls d e → W cls d σ H'
  | .bad => False
theorem Pst.mono {β γ : Type} {G : GT} {W : WX} {σ : L2.St} {R : Wd → γ → β → Prop} {w w' : Wd} {o : Out β} {Q : γ → Hp → Prop} (h : w.le w') (p : Pst G W σ R w o Q) : Pst G W σ R w' o Q := by
  cases o with
  | ok b μ => exact fun w2 v H l => p w2 v H (h.trans l)
  | ex e μ => exact fun w2 c d H l => p w2 c d H (h.trans l)
  | bad => exact p
def tD {β γ : Type} (G : GT) (W : WX) (R : Wd → γ → β → Prop) (m : DEnv → Store → Out β) : L2.St → Hp → (γ → Hp → Prop) → Prop :=
  fun σ H Q => ∃ w μ ρ, Lay G w μ H ∧ EnvR G w σ ρ ∧ Pst G W σ R w (m ρ μ) Q
theorem tD.seq {β γ δ ε : Type} {G : GT} {W : WX} {R : Wd → γ → β → Prop} {R2 : Wd → δ → ε → Prop} {m : DEnv → Store → Out β} {k : DEnv → β → Store → Out ε} {σ : L2.St} {H : Hp} {Q : δ → Hp → Prop} {S : γ → Hp → Prop}
    {w : Wd} {μ : Store} {ρ : DEnv} (hl : Lay G w μ H) (he : EnvR G w σ ρ) (p : Pst G W σ R2 w ((m ρ μ).bind (k ρ)) Q)
    (h : ∀ w1 μ1 H1 v b, w.le w1 → Lay G w1 μ1 H1 → EnvR G w1 σ ρ → R w1 v b → Pst G W σ R2 w1 (k ρ b μ1) Q → S v H1) : tD G W R m σ H S := by
  refine ⟨w, μ, ρ, hl, he, ?_⟩
  cases e : m ρ μ with
  | ok b μ1 =>
    rw [e] at p
    exact fun w1 v H1 l1 lay r => h w1 μ1 H1 v b l1 lay (he.mono l1) r (Pst.mono l1 p)
  | ex x μ1 =>
    rw [e] at p
    exact p
  | bad =>
    rw [e] at p
    exact p.elim

abbrev tE (G : GT) (W : WX) (m : DEnv → Store → Out Dv) : TE := tD G W (Rv G) m
abbrev tT (G : GT) (W : WX) (m : DEnv → Store → Out Bool) : TT := tD G W (fun _ b c => b = c) m
abbrev tA (G : GT) (W : WX) (m : DEnv → Store → Out (List Dv)) : TA := tD G W (Rvs G) m
theorem PE.imp {X : Cx} {e : Expr} {t t' : TE} (h : PE X e t) (i : ∀ σ H Q, t' σ H Q → t σ H Q) : PE X e t' := ⟨fun p s σ H Q I hw => h.run p s σ H Q I (i _ _ _ hw)⟩
theorem PT.imp {X : Cx} {e : Expr} {t t' : TT} (h : PT X e t) (i : ∀ σ H Q, t' σ H Q → t σ H Q) : PT X e t' := ⟨fun p s σ H Q I hw => h.run p s σ H Q I (i _ _ _ hw)⟩
theorem PW.imp {X : Cx} {e : Expr} {t t' : TT} (h : PW X e t) (i : ∀ σ H Q, t' σ H Q → t σ H Q) : PW X e t' := ⟨fun wh p s σ H Q I hw => h.run wh p s σ H Q I (i _ _ _ hw)⟩
theorem PA.imp {X : Cx} {e : List Expr} {t t' : TA} (h : PA X e t) (i : ∀ σ H Q, t' σ H Q → t σ H Q) : PA X e t' := ⟨fun po p s σ H Q I hw => h.run po p s σ H Q I (i _ _ _ hw)⟩
theorem PS.imp {X : Cx} {e : Stmt} {t t' : TS} (h : PS X e t) (i : ∀ D σ H, t' D σ H → t D σ H) : PS X e t' := ⟨fun p s σ H D I hw => h.run p s σ H D I (i _ _ _ hw)⟩
theorem PSs.imp {X : Cx} {e : List Stmt} {t t' : TS} (h : PSs X e t) (i : ∀ D σ H, t' D σ H → t D σ H) : PSs X e t' := ⟨fun p s σ H D I hw => h.run p s σ H D I (i _ _ _ hw)⟩
/-- the judgements over data -/
abbrev DE (X : Cx) (G : GT) (W : WX) (e : Expr) (m : DEnv → Store → Out Dv) : Prop := PE X e (tE G W m)
abbrev DT (X : Cx) (G : GT) (W : WX) (e : Expr) (m : DEnv → Store → Out Bool) : Prop := PT X e (tT G W m)
abbrev DW (X : Cx) (G : GT) (W : WX) (e : Expr) (m : DEnv → Store → Out Bool) : Prop := PW X e (tT G W m)
abbrev DA (X : Cx) (G : GT) (W : WX) (es : List Expr) (m : DEnv → Store → Out (List Dv)) : Prop := PA X es (tA G W m)

inductive Fl where
  | nx (ρ : DEnv) | bk (ρ : DEnv) | ct (ρ : DEnv) | rt (b : Dv)
def PstS (G : GT) (W : WX) (w : Wd) (o : Out Fl) (D : Ends) : Prop :=
  match o with
  | .ok (.nx ρ) μ' => ∀ w' σ' H', w.le w' → Lay G w' μ' H' → EnvR G w' σ' ρ → D.nx σ' H'
  | .ok (.bk ρ) μ' => ∀ w' σ' H', w.le w' → Lay G w' μ' H' → EnvR G w' σ' ρ → D.bk σ' H'
  | .ok (.ct ρ) μ' => ∀ w' σ' H', w.le w' → Lay G w' μ' H' → EnvR G w' σ' ρ → D.ct σ' H'
  | .ok (.rt b) μ' => ∀ w' v H', w.le w' → Lay G w' μ' H' → Rv G w' v b → D.rt v H'
  | .ex e μ' => ∀ w' cls d σ' H', w.le w' → Lay G w' μ' H' → ExR G w' H' cls d e → W cls d σ' H'
  | .bad => False
theorem PstS.mono {G : GT} {W : WX} {w w' : Wd} {o : Out Fl} {D : Ends} (h : w.le w') (p : PstS G W w o D) : PstS G W w' o D := by
  cases o with
  | ok b μ =>
    cases b with
    | nx ρ => exact fun w2 σ H l => p w2 σ H (h.trans l)
    | bk ρ => exact fun w2 σ H l => p w2 σ H (h.trans l)
    | ct ρ => exact fun w2 σ H l => p w2 σ H (h.trans l)
    | rt v => exact fun w2 v H l => p w2 v H (h.trans l)
  | ex e μ => exact fun w2 c d s H l => p w2 c d s H (h.trans l)
  | bad => exact p
def tS (G : GT) (W : WX) (m : DEnv → Store → Out Fl) : TS := fun D σ H => ∃ w μ ρ, Lay G w μ H ∧ EnvR G w σ ρ ∧ PstS G W w (m ρ μ) D
abbrev DS (X : Cx) (G : GT) (W : WX) (st : Stmt) (m : DEnv → Store → Out Fl) : Prop := PS X st (tS G W m)
abbrev DSs (X : Cx) (G : GT) (W : WX) (st : List Stmt) (m : DEnv → Store → Out Fl) : Prop := PSs X st (tS G W m)
/-- an expression's part of a statement -/
theorem tD.seqS {β γ : Type} {G : GT} {W : WX} {R : Wd → γ → β → Prop} {m : DEnv → Store → Out β} {k : DEnv → β → Store → Out Fl} {σ : L2.St} {H : Hp} {D : Ends} {S : γ → Hp → Prop}
    {w : Wd} {μ : Store} {ρ : DEnv} (hl : Lay G w μ H) (he : EnvR G w σ ρ) (p : PstS G W w ((m ρ μ).bind (k ρ)) D)
    (h : ∀ w1 μ1 H1 v b, w.le w1 → Lay G w1 μ1 H1 → EnvR G w1 σ ρ → R w1 v b → PstS G W w1 (k ρ b μ1) D → S v H1) : tD G W R m σ H S := by
  refine ⟨w, μ, ρ, hl, he, ?_⟩
  cases e : m ρ μ with
  | ok b μ1 =>
    rw [e] at p
    exact fun w1 v H1 l1 lay r => h w1 μ1 H1 v b l1 lay (he.mono l1) r (PstS.mono l1 p)
  | ex x μ1 =>
    rw [e] at p
    exact fun w1 c d H1 l1 lay r => p w1 c d σ H1 l1 lay r
  | bad =>
    rw [e] at p
    exact p.elim
end DL

/-! Rules of the data layer: expressions. -/
namespace DL
open PySem PySem.Spec PyProof.Rows L2
abbrev ME := DEnv → Store → Out Dv
abbrev MT := DEnv → Store → Out Bool
abbrev MA := DEnv → Store → Out (List Dv)
abbrev MS := DEnv → Store → Out Fl
abbrev Op1 := Dv → Store → Out Dv
abbrev Op2 := Dv → Dv → Store → Out Dv
abbrev OpN := List Dv → Store → Out Dv

def eVar (i : Nat) : ME := fun ρ μ => match ρ[i]? with
  | some (some b) => .ok b μ
  | _ => .bad
def eC (b : Dv) : ME := fun _ μ => .ok b μ
def eBad : ME := fun _ _ => .bad
def e1 (f : Op1) (a : ME) : ME := fun ρ μ => (a ρ μ).bind fun x μ => f x μ
def e2 (f : Op2) (a b : ME) : ME := fun ρ μ => (a ρ μ).bind fun x μ => (b ρ μ).bind fun y μ => f x y μ
def asBool : Dv → Store → Out Bool
  | .d (.bool b), μ => .ok b μ
  | _, _ => .bad
/-- an expression that gives a truth, as a test -/
def tV (a : ME) : MT := fun ρ μ => (a ρ μ).bind asBool
def bV (a : MT) : ME := fun ρ μ => (a ρ μ).bind fun b μ => .ok (.d (.bool b)) μ
def tAndM (a b : MT) : MT := fun ρ μ => (a ρ μ).bind fun x μ => if x = true then b ρ μ else .ok false μ
def tOrM (a b : MT) : MT := fun ρ μ => (a ρ μ).bind fun x μ => if x = true then .ok true μ else b ρ μ
def tNotM (a : MT) : MT := fun ρ μ => (a ρ μ).bind fun x μ => .ok (!x) μ
def eAnd (a b : ME) : ME := fun ρ μ => (a ρ μ).bind fun x μ => (asBool x μ).bind fun k μ => if k = true then b ρ μ else .ok (.d (.bool false)) μ
def eOr (a b : ME) : ME := fun ρ μ => (a ρ μ).bind fun x μ => (asBool x μ).bind fun k μ => if k = true then .ok (.d (.bool true)) μ else b ρ μ
def eNot (a : ME) : ME := fun ρ μ => (a ρ μ).bind fun x μ => (asBool x μ).bind fun k μ => .ok (.d (.bool (!k))) μ
def eIf (c : MT) (a b : ME) : ME := fun ρ μ => (c ρ μ).bind fun x μ => if x = true then a ρ μ else b ρ μ
def eChain (f g : Op2) (a b c : ME) : ME := fun ρ μ => (a ρ μ).bind fun x μ => (b ρ μ).bind fun y μ => (f x y μ).bind fun z μ => (asBool z μ).bind fun k μ =>
  if k = true then (c ρ μ).bind fun u μ => g y u μ else .ok (.d (.bool false)) μ
def aNil : MA := fun _ μ => .ok [] μ
def aCons (a : ME) (r : MA) : MA := fun ρ μ => (a ρ μ).bind fun x μ => (r ρ μ).bind fun xs μ => .ok (x :: xs) μ
def eN (f : OpN) (a : MA) : ME := fun ρ μ => (a ρ μ).bind fun xs μ => f xs μ
def eMth (f : Dv → OpN) (o : ME) (a : MA) : ME := fun ρ μ => (o ρ μ).bind fun x μ => (a ρ μ).bind fun xs μ => f x xs μ

/-- what an operation's rule asks follows from what is wanted of its data -/
def Ok1 (G : GT) (r : V → Hp → VK → Prop) (f : Op1) : Prop := ∀ (W : WX) (σ : L2.St) (w : Wd) (μ : Store) (H : Hp) (x : V) (b : Dv) (Q : VK), Lay G w μ H → Rv G w x b → Pst G W σ (Rv G) w (f b μ) Q → r x H Q
def Ok2 (G : GT) (r : R2) (f : Op2) : Prop := ∀ (W : WX) (σ : L2.St) (w : Wd) (μ : Store) (H : Hp) (x y : V) (b c : Dv) (Q : VK), Lay G w μ H → Rv G w x b → Rv G w y c → Pst G W σ (Rv G) w (f b c μ) Q → r x y H Q
def OkN (G : GT) (r : List V → Hp → VK → Prop) (f : OpN) : Prop := ∀ (W : WX) (σ : L2.St) (w : Wd) (μ : Store) (H : Hp) (xs : List V) (bs : List Dv) (Q : VK), Lay G w μ H → Rvs G w xs bs → Pst G W σ (Rv G) w (f bs μ) Q → r xs H Q
theorem Ok2.or1 {G : GT} {r r' : R2} {f : Op2} (h : Ok2 G r f) : Ok2 G (fun x y H Q => r x y H Q ∨ r' x y H Q) f := fun W σ w μ H x y b c Q l rx ry p => .inl (h W σ w μ H x y b c Q l rx ry p)

section
variable {X : Cx} {G : GT} {W : WX} {a b c e o : Expr} {es : List Expr} {ma mb mc mo : ME} {ta tb tc : MT} {mas : MA} {pos p : Pos} {x : Str} {rest : List Expr}
theorem de_var (i : Nat) {x : Str} (hN : X.N[i]? = some x := by rfl) (hv : Vis X.env.scope x := by first | exact Or.inl rfl | exact Or.inr (Or.inl rfl) | exact Or.inr (Or.inr rfl)) (hd : (x == ("__debug__" : Str)) = false := by decide)
    (hcd : (x == ("__classdict__" : Str)) = false := by decide) : DE X G W (.Name x pos) (eVar i) := by
  refine PE.imp (pe_var hN hv hd hcd) ?_
  rintro σ H Q ⟨w, μ, ρ, hl, he, p⟩
  unfold eVar at p
  cases q : ρ[i]? with
  | none => rw [q] at p; exact p.elim
  | some z =>
    cases z with
    | none => rw [q] at p; exact p.elim
    | some b =>
      rw [q] at p
      obtain ⟨v, h1, h2⟩ := he.2 i b q
      exact ⟨v, h1, p w v H w.le_refl hl h2⟩
/-- what is told of any value that is there at once -/
theorem tC_imp {v : V} {b : Dv} (h : ∀ w, Rv G w v b) : ∀ σ H Q, tE G W (eC b) σ H Q → tC v σ H Q := by
  rintro σ H Q ⟨w, μ, ρ, hl, he, p⟩
  exact p w v H w.le_refl hl (h w)
theorem de_int {i j} : DE X G W (.Constant (.int i) j pos) (eC (.d (.int i))) := PE.imp pe_int (tC_imp fun _ => .int i)
theorem de_bl {b j} : DE X G W (.Constant (.bool b) j pos) (eC (.d (.bool b))) := PE.imp pe_bl (tC_imp fun _ => .bl b)
theorem de_non {j} : DE X G W (.Constant .none j pos) (eC (.d .none)) := PE.imp pe_non (tC_imp fun _ => .non)
theorem de_str {x j} : DE X G W (.Constant (.str x) j pos) (eC (.d (.str x))) := PE.imp pe_str (tC_imp fun _ => .str x)
theorem de_glob {v : V} {u : Value} {b : Dv} (hg : Gl X x) (hm : X.mg x = some u) (r : RelV v u) (h : ∀ w, Rv G w v b) (hd : (x == ("__debug__" : Str)) = false := by decide) : DE X G W (.Name x pos) (eC b) := PE.imp (pe_glob hg hm r hd) (tC_imp h)
theorem de_bad {t : TE} (h : PE X e t) : DE X G W e eBad := PE.imp h (by rintro σ H Q ⟨w, μ, ρ, hl, he, p⟩; exact p.elim)
theorem de_op {op : Operator} {r : R2} {f : Op2} (ho : OpR X (binaryOp op) r) (h : Ok2 G r f) (ha : DE X G W a ma) (hb : DE X G W b mb) : DE X G W (.BinOp a op b pos) (e2 f ma mb) := by
  refine PE.imp (pe_op ho ha hb) ?_
  rintro σ H Q ⟨w, μ, ρ, hl, he, p⟩
  exact tD.seq (k := fun ρ x μ => (mb ρ μ).bind fun y μ => f x y μ) hl he p fun w1 μ1 H1 v b l1 lay1 e1 r1 p1 => tD.seq (k := fun ρ y μ => f b y μ) lay1 e1 p1 fun w2 μ2 H2 v2 b2 l2 lay2 e2 r2 p2 => h W σ w2 μ2 H2 v v2 b b2 Q lay2 (r1.mono l2) r2 p2
theorem de_un {op : UnaryOp} {r : V → Hp → VK → Prop} {f : Op1} (ho : UnR X (unaryOp op) r) (h : Ok1 G r f) (ha : DE X G W a ma) : DE X G W (.UnaryOp op a pos) (e1 f ma) := by
  refine PE.imp (pe_un ho ha) ?_
  rintro σ H Q ⟨w, μ, ρ, hl, he, p⟩
  exact tD.seq (k := fun ρ x μ => f x μ) hl he p fun w1 μ1 H1 v b l1 lay1 e1 r1 p1 => h W σ w1 μ1 H1 v b Q lay1 r1 p1
theorem op_imp {r : R2} {f : Op2} (h : Ok2 G r f) : ∀ σ H Q, tE G W (e2 f ma mb) σ H Q → tOp r (tE G W ma) (tE G W mb) σ H Q := by
  rintro σ H Q ⟨w, μ, ρ, hl, he, p⟩
  exact tD.seq (k := fun ρ x μ => (mb ρ μ).bind fun y μ => f x y μ) hl he p fun w1 μ1 H1 v b l1 lay1 e1 r1 p1 => tD.seq (k := fun ρ y μ => f b y μ) lay1 e1 p1 fun w2 μ2 H2 v2 b2 l2 lay2 e2 r2 p2 => h W σ w2 μ2 H2 v v2 b b2 Q lay2 (r1.mono l2) r2 p2
theorem de_cmp {op : CmpOp} {r : R2} {f : Op2} (ho : OpR X (compareOp op) r) (h : Ok2 G r f) (ha : DE X G W a ma) (hb : DE X G W b mb) (hm : behindInMarks op b = false := by first | rfl | exact nomark _ | with_unfolding_all rfl) : DE X G W (.Compare a [op] [b] pos) (e2 f ma mb) :=
  PE.imp (pe_cmpR ho ha hb hm) (op_imp h)
/-- a value as a test -/
theorem test_imp {m : ME} : ∀ σ H Q, tT G W (tV m) σ H Q → tTest (tE G W m) σ H Q := by
  rintro σ H Q ⟨w, μ, ρ, hl, he, p⟩
  refine tD.seq (k := fun ρ x μ => asBool x μ) hl he p fun w1 μ1 H1 v b l1 lay1 e1 r1 p1 => ?_
  cases b with
  | d x =>
    cases x with
    | bool k =>
      have r1 : Rp G.K w1.I v (.bool k) := r1
      cases r1
      exact ⟨k, rfl, p1 w1 k H1 w1.le_refl lay1 rfl⟩
    | _ => exact p1.elim
  | _ => exact p1.elim
theorem tTest.imp {t t' : TE} (h : ∀ σ H Q, t' σ H Q → t σ H Q) : ∀ σ H Q, tTest t' σ H Q → tTest t σ H Q := fun σ H Q q => h _ _ _ q
theorem dt_cmp {op : CmpOp} {r : R2} {f : Op2} (ho : OpR X (compareOp op) r) (h : Ok2 G r f) (ha : DE X G W a ma) (hb : DE X G W b mb) (hm : behindInMarks op b = false := by first | rfl | exact nomark _ | with_unfolding_all rfl) : DT X G W (.Compare a [op] [b] pos) (tV (e2 f ma mb)) :=
  PT.imp (pt_cmpR ho ha hb hm) fun σ H Q q => tTest.imp (op_imp h) σ H Q (test_imp σ H Q q)
theorem dt_val (h : DE X G W e ma) (he : ∀ whole, isTrue e X.env whole = (do let v ← whole; standAt e.pos; holding [v] (truthy v)) := by intro _; rfl) : DT X G W e (tV ma) := PT.imp (pt_val h he) test_imp
theorem chain_imp {r r' : R2} {f g : Op2} (h : Ok2 G r f) (h' : Ok2 G r' g) : ∀ σ H Q, tE G W (eChain f g ma mb mc) σ H Q → tChain r r' (tE G W ma) (tE G W mb) (tE G W mc) σ H Q := by
  rintro σ H Q ⟨w, μ, ρ, hl, he, p⟩
  refine tD.seq (k := fun ρ x μ => (mb ρ μ).bind fun y μ => (f x y μ).bind fun z μ => (asBool z μ).bind fun k μ => if k = true then (mc ρ μ).bind fun u μ => g y u μ else .ok (.d (.bool false)) μ) hl he p fun w1 μ1 H1 v b l1 lay1 en1 r1 p1 => ?_
  refine tD.seq (k := fun ρ y μ => (f b y μ).bind fun z μ => (asBool z μ).bind fun k μ => if k = true then (mc ρ μ).bind fun u μ => g y u μ else .ok (.d (.bool false)) μ) lay1 en1 p1 fun w2 μ2 H2 v2 b2 l2 lay2 en2 r2 p2 => ?_
  refine h W σ w2 μ2 H2 v v2 b b2 _ lay2 (r1.mono l2) r2 ?_
  cases q : f b b2 μ2 with
  | bad => rw [q] at p2; exact p2.elim
  | ex e μ3 => rw [q] at p2; exact p2
  | ok z μ3 =>
    rw [q] at p2
    intro w3 v3 H3 l3 lay3 r3
    cases z with
    | d zz =>
      cases zz with
      | bool k =>
        have r3 : Rp G.K w3.I v3 (.bool k) := r3
        cases r3
        refine ⟨k, rfl, ?_⟩
        have p3 := Pst.mono l3 p2
        cases k with
        | false => exact p3 w3 (.bl false) H3 w3.le_refl lay3 (.bl false)
        | true => exact tD.seq (k := fun ρ u μ => g b2 u μ) lay3 (en2.mono l3) p3 fun w4 μ4 H4 v4 b4 l4 lay4 en4 r4 p4 => h' W σ w4 μ4 H4 v2 v4 b2 b4 Q lay4 (r2.mono (l3.trans l4)) r4 p4
      | _ => exact p2.elim
    | _ => exact p2.elim
theorem de_chain {op op' : CmpOp} {r r' : R2} {f g : Op2} (ho : OpR X (compareOp op) r) (h : Ok2 G r f) (ho' : OpR X (compareOp op') r') (h' : Ok2 G r' g) (ha : DE X G W a ma) (hb : DE X G W b mb) (hc : DE X G W c mc)
    (hm : lastMarks [op, op'] [b, c] = false := by with_unfolding_all rfl) : DE X G W (.Compare a [op, op'] [b, c] pos) (eChain f g ma mb mc) := PE.imp (pe_chain ho ho' ha hb hc hm) (chain_imp h h')
theorem dt_chain {op op' : CmpOp} {r r' : R2} {f g : Op2} (ho : OpR X (compareOp op) r) (h : Ok2 G r f) (ho' : OpR X (compareOp op') r') (h' : Ok2 G r' g) (ha : DE X G W a ma) (hb : DE X G W b mb) (hc : DE X G W c mc)
    (hm : lastMarks [op, op'] [b, c] = false := by with_unfolding_all rfl) : DT X G W (.Compare a [op, op'] [b, c] pos) (tV (eChain f g ma mb mc)) :=
  PT.imp (pt_chain ho ho' ha hb hc hm) fun σ H Q q => tTest.imp (chain_imp h h') σ H Q (test_imp σ H Q q)

/-! and, or, not -/
theorem dw_pt (h : DW X G W e ta) : DT X G W e ta := h.pt
theorem dw_and1 (h : DT X G W a ta) : DW X G W (.BoolOp .And [a] pos) ta := pw_and1 h
theorem dw_or1 (h : DT X G W a ta) : DW X G W (.BoolOp .Or [a] pos) ta := pw_or1 h
theorem dw_and (ha : DT X G W a ta) (hb : DW X G W (.BoolOp .And (b :: rest) pos) tb) : DW X G W (.BoolOp .And (a :: b :: rest) pos) (tAndM ta tb) := by
  refine PW.imp (pw_and ha hb) ?_
  rintro σ H Q ⟨w, μ, ρ, hl, he, p⟩
  refine tD.seq (k := fun ρ x μ => if x = true then tb ρ μ else .ok false μ) hl he p fun w1 μ1 H1 v b l1 lay1 en1 r1 p1 => ?_
  have r1 : v = b := r1
  subst r1
  cases v with
  | true => exact ⟨w1, μ1, ρ, lay1, en1, p1⟩
  | false => exact p1 w1 false H1 w1.le_refl lay1 rfl
theorem dw_or (ha : DT X G W a ta) (hb : DW X G W (.BoolOp .Or (b :: rest) pos) tb) : DW X G W (.BoolOp .Or (a :: b :: rest) pos) (tOrM ta tb) := by
  refine PW.imp (pw_or ha hb) ?_
  rintro σ H Q ⟨w, μ, ρ, hl, he, p⟩
  refine tD.seq (k := fun ρ x μ => if x = true then .ok true μ else tb ρ μ) hl he p fun w1 μ1 H1 v b l1 lay1 en1 r1 p1 => ?_
  have r1 : v = b := r1
  subst r1
  cases v with
  | false => exact ⟨w1, μ1, ρ, lay1, en1, p1⟩
  | true => exact p1 w1 true H1 w1.le_refl lay1 rfl
theorem dt_not (ha : DT X G W a ta) : DT X G W (.UnaryOp .Not a pos) (tNotM ta) := by
  refine PT.imp (pt_not ha) ?_
  rintro σ H Q ⟨w, μ, ρ, hl, he, p⟩
  refine tD.seq (k := fun ρ x μ => .ok (!x) μ) hl he p fun w1 μ1 H1 v b l1 lay1 en1 r1 p1 => ?_
  have r1 : v = b := r1
  subst r1
  exact p1 w1 (!v) H1 w1.le_refl lay1 rfl
theorem de_one {op} (h : DE X G W a ma) : DE X G W (.BoolOp op [a] pos) ma := pe_one h
theorem bool_imp {α : Type} {R : Wd → α → Dv → Prop} {k : Bool → Store → Out Dv} {σ : L2.St} {w : Wd} {μ : Store} {Q : V → Hp → Prop} {v : V} {b : Dv} (r : Rv G w v b) (p : Pst G W σ (Rv G) w ((asBool b μ).bind k) Q) : ∃ t, v = .bl t ∧ b = .d (.bool t) ∧ Pst G W σ (Rv G) w (k t μ) Q := by
  cases b with
  | d x =>
    cases x with
    | bool t =>
      have r : Rp G.K w.I v (.bool t) := r
      cases r
      exact ⟨t, rfl, rfl, p⟩
    | _ => exact p.elim
  | _ => exact p.elim
theorem de_and (ha : DE X G W a ma) (hb : DE X G W (.BoolOp .And (b :: rest) pos) mb) : DE X G W (.BoolOp .And (a :: b :: rest) pos) (eAnd ma mb) := by
  refine PE.imp (pe_and ha hb) ?_
  rintro σ H Q ⟨w, μ, ρ, hl, he, p⟩
  refine tD.seq (k := fun ρ x μ => (asBool x μ).bind fun k μ => if k = true then mb ρ μ else .ok (.d (.bool false)) μ) hl he p fun w1 μ1 H1 v b l1 lay1 en1 r1 p1 => ?_
  obtain ⟨t, rfl, rfl, p1⟩ := bool_imp (α := V) (R := Rv G) r1 p1
  refine ⟨t, rfl, ?_⟩
  cases t with
  | true => exact ⟨w1, μ1, ρ, lay1, en1, p1⟩
  | false => exact p1 w1 _ H1 w1.le_refl lay1 (.bl false)
theorem de_or (ha : DE X G W a ma) (hb : DE X G W (.BoolOp .Or (b :: rest) pos) mb) : DE X G W (.BoolOp .Or (a :: b :: rest) pos) (eOr ma mb) := by
  refine PE.imp (pe_or ha hb) ?_
  rintro σ H Q ⟨w, μ, ρ, hl, he, p⟩
  refine tD.seq (k := fun ρ x μ => (asBool x μ).bind fun k μ => if k = true then .ok (.d (.bool true)) μ else mb ρ μ) hl he p fun w1 μ1 H1 v b l1 lay1 en1 r1 p1 => ?_
  obtain ⟨t, rfl, rfl, p1⟩ := bool_imp (α := V) (R := Rv G) r1 p1
  refine ⟨t, rfl, ?_⟩
  cases t with
  | false => exact ⟨w1, μ1, ρ, lay1, en1, p1⟩
  | true => exact p1 w1 _ H1 w1.le_refl lay1 (.bl true)
theorem de_not (ha : DE X G W a ma) : DE X G W (.UnaryOp .Not a pos) (eNot ma) := by
  refine PE.imp (pe_not ha) ?_
  rintro σ H Q ⟨w, μ, ρ, hl, he, p⟩
  refine tD.seq (k := fun ρ x μ => (asBool x μ).bind fun k μ => Out.ok (Dv.d (.bool (!k))) μ) hl he p fun w1 μ1 H1 v b l1 lay1 en1 r1 p1 => ?_
  obtain ⟨t, rfl, rfl, p1⟩ := bool_imp (α := V) (R := Rv G) r1 p1
  exact ⟨t, rfl, p1 w1 _ H1 w1.le_refl lay1 (.bl _)⟩
theorem de_ifExp (hc : DT X G W c tc) (ha : DE X G W a ma) (hb : DE X G W b mb) : DE X G W (.IfExp c a b pos) (eIf tc ma mb) := by
  refine PE.imp (pe_ifExp hc ha hb) ?_
  rintro σ H Q ⟨w, μ, ρ, hl, he, p⟩
  refine tD.seq (k := fun ρ x μ => if x = true then ma ρ μ else mb ρ μ) hl he p fun w1 μ1 H1 v b l1 lay1 en1 r1 p1 => ?_
  have r1 : v = b := r1
  subst r1
  cases v with
  | true => exact ⟨w1, μ1, ρ, lay1, en1, p1⟩
  | false => exact ⟨w1, μ1, ρ, lay1, en1, p1⟩

/-! arguments, calls -/
theorem da_nil : DA X G W [] aNil := by
  refine PA.imp pa_nil ?_
  rintro σ H Q ⟨w, μ, ρ, hl, he, p⟩
  exact p w [] H w.le_refl hl .nil
theorem acons_imp {mr : MA} : ∀ σ H Q, tA G W (aCons ma mr) σ H Q → tCons (tE G W ma) (tA G W mr) σ H Q := by
  rintro σ H Q ⟨w, μ, ρ, hl, he, p⟩
  refine tD.seq (k := fun ρ x μ => (mr ρ μ).bind fun xs μ => .ok (x :: xs) μ) hl he p fun w1 μ1 H1 v b l1 lay1 en1 r1 p1 => ?_
  refine tD.seq (k := fun ρ xs μ => .ok (b :: xs) μ) lay1 en1 p1 fun w2 μ2 H2 vs bs l2 lay2 en2 r2 p2 => ?_
  exact p2 w2 _ H2 w2.le_refl lay2 (.cons (r1.mono l2) r2)
theorem da_cons {mr : MA} (ha : DE X G W e ma) (hr : DA X G W es mr) (hs : starEach (e :: es) X.env = (false, eval e X.env) :: starEach es X.env := by rfl) : DA X G W (e :: es) (aCons ma mr) := PA.imp (pa_cons ha hr hs) acons_imp
theorem args_imp {r : List V → Hp → VK → Prop} {f : OpN} (h : OkN G r f) : ∀ σ H Q, tE G W (eN f mas) σ H Q → tCB r (tA G W mas) σ H Q := by
  rintro σ H Q ⟨w, μ, ρ, hl, he, p⟩
  exact tD.seq (k := fun ρ xs μ => f xs μ) hl he p fun w1 μ1 H1 v b l1 lay1 en1 r1 p1 => h W σ w1 μ1 H1 v b Q lay1 r1 p1
theorem de_callB {id : String} {r : List V → Hp → VK → Prop} {f : OpN} (hc : CallR X (.builtin id) r) (h : OkN G r f) (hg : Gl X x) (hm : X.mg x = none) (hv : bootBuiltins x = some (.builtin id)) (ha : DA X G W (e :: es) mas) (hn : x ≠ "__name__" := by decide) (hdb : (x == ("__debug__" : Str)) = false := by decide)
    (he : starEach (e :: es) X.env = (false, eval e X.env) :: starEach es X.env := by rfl) (hpl : (backTo pos (starEach es X.env)).any (·.1) = false := by rfl) : DE X G W (.Call (.Name x p) (e :: es) [] pos) (eN f mas) :=
  PE.imp (pe_callB hc hg hm hv ha hn hdb he hpl) (args_imp h)
theorem de_callTy {T : String} {r : List V → Hp → VK → Prop} {f : OpN} (hc : CallR X (.type T) r) (h : OkN G r f) (hg : Gl X x) (hm : X.mg x = none) (hv : bootBuiltins x = some (.type T)) (ha : DA X G W (e :: es) mas) (hn : x ≠ "__name__" := by decide) (hdb : (x == ("__debug__" : Str)) = false := by decide)
    (he : starEach (e :: es) X.env = (false, eval e X.env) :: starEach es X.env := by rfl) (hpl : (backTo pos (starEach es X.env)).any (·.1) = false := by rfl) : DE X G W (.Call (.Name x p) (e :: es) [] pos) (eN f mas) :=
  PE.imp (pe_callTy hc hg hm hv ha hn hdb he hpl) (args_imp h)
end

/-! ### a def's promise, its call -/
def PstF (G : GT) (w : Wd) (o : Out Dv) (Q : VK) (E : XK) : Prop :=
  match o with
  | .ok b μ' => ∀ w' v H', w.le w' → Lay G w' μ' H' → Rv G w' v b → Q v H'
  | .ex e μ' => ∀ w' cls d H', w.le w' → Lay G w' μ' H' → ExR G w' H' cls d e → E cls d H'
  | .bad => False
def spD (G : GT) (n : Nat) (F : OpN) : Sp := fun vs H Q E => vs.length = n ∧ ∃ w μ bs, Lay G w μ H ∧ Rvs G w vs bs ∧ PstF G w (F bs μ) Q E
section
variable {X : Cx} {G : GT} {W : WX} {a b c e o : Expr} {es : List Expr} {ma mb mc mo : ME} {mas mks : MA} {pos p : Pos} {x : Str} {k n : Nat} {f : Addr} {fd : FuncData} {ps : List Str} {F : OpN}
theorem call_imp : ∀ σ H Q, tE G W (eN (fun bs μ => if bs.length = n then F bs μ else .bad) mas) σ H Q → tCallSD (spD G n F) [] (WE W) (tA G W mas) σ H Q := by
  rintro σ H Q ⟨w, μ, ρ, hl, he, p⟩
  refine tD.seq (k := fun ρ bs μ => if bs.length = n then F bs μ else .bad) hl he p fun w1 μ1 H1 v b l1 lay1 en1 r1 p1 => ?_
  by_cases q : b.length = n
  · rw [if_pos q] at p1
    rw [List.append_nil]
    refine ⟨by rw [Paired.length r1]; exact q, w1, μ1, b, lay1, r1, ?_⟩
    cases z : F b μ1 with
    | ok c μ2 => rw [z] at p1; exact p1
    | ex c μ2 => rw [z] at p1; exact p1
    | bad => rw [z] at p1; exact p1
  · rw [if_neg q] at p1
    exact p1.elim
def fCall (n : Nat) (F : OpN) : OpN := fun bs μ => if bs.length = n then F bs μ else .bad
theorem de_call (hF : FnOk X.prog X.w X.K X.mg X.base (L2.CX X.prog X.w) k f fd ps (spD G n F)) (hr : Room k X.A) (hg : Gl X x) (hm : X.mg x = some (.ref f)) (hk : PySem.W.keepIn X.K (.ref f) = true) (hb : Binds X.K fd ps []) (tk : Takes X W)
    (ha : DA X G W (e :: es) mas) (hdb : (x == ("__debug__" : Str)) = false := by decide) (he : starEach (e :: es) X.env = (false, eval e X.env) :: starEach es X.env := by rfl) (hpl : (backTo pos (starEach es X.env)).any (·.1) = false := by rfl) :
    DE X G W (.Call (.Name x p) (e :: es) [] pos) (eN (fCall n F) mas) :=
  PE.imp (pe_callSD hF hr hg hm hk hb .nil (fun σ => passAt tk σ) ha hdb he hpl) call_imp
end
end DL

/-! Rules of the data layer: statements, loops, bodies. -/
namespace DL
open PySem PySem.Spec PyProof.Rows L2

def sNext : MS := fun ρ μ => .ok (.nx ρ) μ
def sBreak : MS := fun ρ μ => .ok (.bk ρ) μ
def sCont : MS := fun ρ μ => .ok (.ct ρ) μ
def sBad : MS := fun _ _ => .bad
def sDrop (m : ME) : MS := fun ρ μ => (m ρ μ).bind fun _ μ => .ok (.nx ρ) μ
def sRet (m : ME) : MS := fun ρ μ => (m ρ μ).bind fun b μ => .ok (.rt b) μ
def sRetN : MS := fun _ μ => .ok (.rt (.d .none)) μ
def sIf (c : MT) (a b : MS) : MS := fun ρ μ => (c ρ μ).bind fun x μ => if x = true then a ρ μ else b ρ μ
def seqF (u : MS) : Fl → Store → Out Fl
  | .nx ρ, μ => u ρ μ
  | f, μ => .ok f μ
def sSeq (t u : MS) : MS := fun ρ μ => (t ρ μ).bind (seqF u)
abbrev MG := Dv → DEnv → Store → Out DEnv
abbrev MGs := List Dv → DEnv → Store → Out DEnv
def gN (i : Nat) : MG := fun b ρ μ => .ok (ρ.set i (some b)) μ
def gsNil : MGs := fun bs ρ μ => match bs with
  | [] => .ok ρ μ
  | _ => .bad
def gsCons (g : MG) (r : MGs) : MGs := fun bs ρ μ => match bs with
  | b :: t => (g b ρ μ).bind fun ρ μ => r t ρ μ
  | [] => .bad
def gT (n : Nat) (g : MGs) : MG := fun b ρ μ => match b with
  | .d (.tuple ds) => if ds.length = n then g (ds.map .d) ρ μ else .bad
  | _ => .bad
def Out.gb {β γ : Type} : Out β → (β → Store → Out γ) → Out γ
  | .ok b μ, k => k b μ
  | _, _ => .bad
@[simp] theorem gb_ok {β γ : Type} (b : β) (μ : Store) (k : β → Store → Out γ) : (Out.ok b μ).gb k = k b μ := rfl
def sAsg (m : ME) (g : MG) : MS := fun ρ μ => (m ρ μ).bind fun b μ => (g b ρ μ).gb fun ρ μ => .ok (.nx ρ) μ
def sSet (i : Nat) (m : ME) : MS := fun ρ μ => (m ρ μ).bind fun b μ => .ok (.nx (ρ.set i (some b))) μ
def parF (i j : Nat) (ρ : DEnv) : List Dv → Store → Out Fl
  | [b, c], μ => .ok (.nx ((ρ.set i (some b)).set j (some c))) μ
  | _, _ => .bad
def sPar (i j : Nat) (m : MA) : MS := fun ρ μ => (m ρ μ).bind (parF i j ρ)
def sAug (i : Nat) (m : ME) (f : Op2) : MS := fun ρ μ => match ρ[i]? with
  | some (some x) => (m ρ μ).bind fun y μ => (f x y μ).bind fun z μ => .ok (.nx (ρ.set i (some z))) μ
  | _ => .bad

/-- alike but at some slots -/
def Agr (S : List Nat) (σ σ' : L2.St) : Prop := σ'.length = σ.length ∧ ∀ i, i ∉ S → σ'[i]? = σ[i]?
theorem Agr.refl (σ : L2.St) : Agr [] σ σ := ⟨rfl, fun _ _ => rfl⟩
theorem Agr.trans {S T : List Nat} {a b c : L2.St} (h : Agr S a b) (k : Agr T b c) : Agr (S ++ T) a c :=
  ⟨k.1.trans h.1, fun i hi => (k.2 i fun z => hi (List.mem_append_right _ z)).trans (h.2 i fun z => hi (List.mem_append_left _ z))⟩
theorem Agr.set (σ : L2.St) (i : Nat) (v : Option V) : Agr [i] σ (σ.set i v) := ⟨List.length_set, fun j hj => List.getElem?_set_ne fun e => hj (by rw [e]; exact List.mem_singleton.mpr rfl)⟩
def PstG (G : GT) (w : Wd) (S : List Nat) (σ : L2.St) (o : Out DEnv) (Q : L2.St → Hp → Prop) : Prop :=
  match o with
  | .ok ρ μ' => ∀ w' σ' H', w.le w' → Lay G w' μ' H' → EnvR G w' σ' ρ → Agr S σ σ' → Q σ' H'
  | _ => False
theorem PstG.mono {G : GT} {w w' : Wd} {S : List Nat} {σ : L2.St} {o : Out DEnv} {Q : L2.St → Hp → Prop} (h : w.le w') (p : PstG G w S σ o Q) : PstG G w' S σ o Q := by
  cases o with
  | ok ρ μ => exact fun w2 σ H l => p w2 σ H (h.trans l)
  | ex e μ => exact p
  | bad => exact p
def tG (G : GT) (S : List Nat) (g : MG) : TG := fun v σ H Q => ∃ w μ ρ b, Lay G w μ H ∧ EnvR G w σ ρ ∧ Rv G w v b ∧ PstG G w S σ (g b ρ μ) Q
def tGs (G : GT) (S : List Nat) (g : MGs) : TGs := fun vs σ H Q => ∃ w μ ρ bs, Lay G w μ H ∧ EnvR G w σ ρ ∧ Rvs G w vs bs ∧ PstG G w S σ (g bs ρ μ) Q
abbrev DG (X : Cx) (G : GT) (S : List Nat) (tg : Expr) (g : MG) : Prop := PG X tg (tG G S g)
abbrev DGs (X : Cx) (G : GT) (S : List Nat) (ts : List Expr) (g : MGs) : Prop := PGs X ts (tGs G S g)
theorem PG.imp {X : Cx} {e : Expr} {t t' : TG} (h : PG X e t) (i : ∀ v σ H Q, t' v σ H Q → t v σ H Q) : PG X e t' := ⟨fun p s σ H v u Q I r hw => h.run p s σ H v u Q I r (i _ _ _ _ hw)⟩
theorem PGs.imp {X : Cx} {e : List Expr} {t t' : TGs} (h : PGs X e t) (i : ∀ v σ H Q, t' v σ H Q → t v σ H Q) : PGs X e t' := ⟨fun p s σ H v u Q I r hw => h.run p s σ H v u Q I r (i _ _ _ _ hw)⟩
theorem Rvs_of_RpA {G : GT} {w : Wd} : ∀ {ds : List D} {vs : List V}, RpA G.K w.I vs ds → Rvs G w vs (ds.map .d)
  | _, _, .nil => .nil
  | _, _, .cons r t => .cons r (Rvs_of_RpA t)

section
variable {X : Cx} {G : GT} {W : WX} {a b c e o tg : Expr} {es : List Expr} {ma mb mc mo m : ME} {ta tb tc : MT} {mas : MA} {pos p : Pos} {x : Str} {st : Stmt} {rest body : List Stmt} {ms mt mu mv : MS} {g : MG} {gs : MGs} {S T : List Nat}
theorem dg_name {i : Nat} {x : Str} (hN : X.N.Nodup) (hi : X.N[i]? = some x := by rfl) (hx : Loc X.env.scope x := by first | exact Or.inl rfl | exact Or.inr rfl) (hf : X.fn x = true ∨ X.env.scope.names.lookup x = some .local := by first | exact .inl rfl | exact .inr rfl | assumption) : DG X G [i] (.Name x pos) (gN i) := by
  refine PG.imp (pg_name hN hi hx hf) ?_
  rintro v σ H Q ⟨w, μ, ρ, b, hl, he, r, p⟩
  exact p w _ H w.le_refl hl (he.set i r) (Agr.set σ i _)
theorem dgs_nil : DGs X G [] [] gsNil := by
  refine PGs.imp pgs_nil ?_
  rintro v σ H Q ⟨w, μ, ρ, bs, hl, he, r, p⟩
  cases r with
  | nil => exact ⟨rfl, p w σ H w.le_refl hl he (Agr.refl σ)⟩
  | cons _ _ => exact p.elim
theorem dgs_cons (h1 : DG X G S e g) (h2 : DGs X G T es gs) (hs : (assignEach (e :: es) X.env).map (·.2) = assign e X.env :: (assignEach es X.env).map (·.2) := by rfl) : DGs X G (S ++ T) (e :: es) (gsCons g gs) := by
  refine PGs.imp (pgs_cons h1 h2 hs) ?_
  rintro vs σ H Q ⟨w, μ, ρ, bs, hl, he, r, p⟩
  cases r with
  | nil => exact p.elim
  | @cons v b vs bs rv rr =>
    refine ⟨v, vs, rfl, w, μ, ρ, b, hl, he, rv, ?_⟩
    have p : PstG G w (S ++ T) σ ((g b ρ μ).bind fun ρ μ => gs bs ρ μ) Q := p
    cases q : g b ρ μ with
    | bad => rw [q] at p; exact p.elim
    | ex _ _ => rw [q] at p; exact p.elim
    | ok ρ1 μ1 =>
      rw [q] at p
      have p : PstG G w (S ++ T) σ (gs bs ρ1 μ1) Q := p
      refine fun w1 σ1 H1 l1 lay1 en1 ag => ⟨w1, μ1, ρ1, bs, lay1, en1, Rvs.mono l1 rr, ?_⟩
      cases q2 : gs bs ρ1 μ1 with
      | bad => rw [q2] at p; exact p.elim
      | ex _ _ => rw [q2] at p; exact p.elim
      | ok ρ2 μ2 =>
        rw [q2] at p
        exact fun w2 σ2 H2 l2 lay2 en2 ag2 => p w2 σ2 H2 (l1.trans l2) lay2 en2 (ag.trans ag2)
theorem dg_tup {k n : Nat} (hc : X.calm = true) (hK : X.K = G.K) (h : DGs X G S es gs) (hn : (assignEach es X.env).length = n := by rfl) (hst : (assignEach es X.env).findIdx? (·.1) = none := by rfl) : DG X G S (.Tuple es k pos) (gT n gs) := by
  refine PG.imp (pg_tup hc h hn hst) ?_
  rintro v σ H Q ⟨w, μ, ρ, b, hl, he, r, p⟩
  cases b with
  | d x =>
    cases x with
    | tuple ds =>
      have r : Rp G.K w.I v (.tuple ds) := r
      cases r with
      | @tup a xs _ hs ha =>
        have p : PstG G w S σ (if ds.length = n then gs (ds.map .d) ρ μ else .bad) Q := p
        by_cases q : ds.length = n
        · rw [if_pos q] at p
          exact ⟨a, xs, rfl, by rw [hK]; exact seqT hl.same hs.t, by rw [ha.length]; exact q, w, μ, ρ, _, hl, he, Rvs_of_RpA ha, p⟩
        · rw [if_neg q] at p
          exact p.elim
    | _ => exact p.elim
  | _ => exact p.elim

theorem dss_nil : DSs X G W [] sNext := by
  refine PSs.imp pss_nil ?_
  rintro D σ H ⟨w, μ, ρ, hl, he, p⟩
  exact p w σ H w.le_refl hl he
theorem seq_imp : ∀ D σ H, tS G W (sSeq ms mt) D σ H → tSeq (tS G W ms) (tS G W mt) D σ H := by
  rintro D σ H ⟨w, μ, ρ, hl, he, p⟩
  refine ⟨w, μ, ρ, hl, he, ?_⟩
  have p : PstS G W w ((ms ρ μ).bind (seqF mt)) D := p
  cases q : ms ρ μ with
  | bad => rw [q] at p; exact p.elim
  | ex e μ1 => rw [q] at p; exact p
  | ok f μ1 =>
    rw [q] at p
    cases f with
    | nx ρ1 => exact fun w1 σ1 H1 l1 lay1 en1 => ⟨w1, μ1, ρ1, lay1, en1, PstS.mono l1 p⟩
    | bk ρ1 => exact p
    | ct ρ1 => exact p
    | rt v => exact p
theorem dss_cons (h1 : DS X G W st ms) (h2 : DSs X G W rest mt) : DSs X G W (st :: rest) (sSeq ms mt) := PSs.imp (pss_cons h1 h2) seq_imp
theorem dss_one (h1 : DS X G W st ms) : DSs X G W [st] ms := pss_one h1
theorem ds_pass : DS X G W (.Pass pos) sNext := by
  refine PS.imp ps_pass ?_
  rintro D σ H ⟨w, μ, ρ, hl, he, p⟩
  exact p w σ H w.le_refl hl he
theorem ds_break : DS X G W (.Break pos) sBreak := by
  refine PS.imp ps_break ?_
  rintro D σ H ⟨w, μ, ρ, hl, he, p⟩
  exact p w σ H w.le_refl hl he
theorem ds_continue : DS X G W (.Continue pos) sCont := by
  refine PS.imp ps_continue ?_
  rintro D σ H ⟨w, μ, ρ, hl, he, p⟩
  exact p w σ H w.le_refl hl he
theorem ds_never : DS X G W st sBad := by
  refine PS.imp ps_never ?_
  rintro D σ H ⟨w, μ, ρ, hl, he, p⟩
  exact p.elim
theorem dss_never : DSs X G W body sBad := by
  refine PSs.imp pss_never ?_
  rintro D σ H ⟨w, μ, ρ, hl, he, p⟩
  exact p.elim
theorem ds_expr (he : DE X G W e m) (hs : swapsWith e none pos.line X.env = pure false := by rfl) : DS X G W (.Expr e pos) (sDrop m) := by
  refine PS.imp (ps_expr he hs) ?_
  rintro D σ H ⟨w, μ, ρ, hl, he, p⟩
  exact tD.seqS (k := fun ρ _ μ => .ok (.nx ρ) μ) hl he p fun w1 μ1 H1 v b l1 lay1 en1 r1 p1 => p1 w1 σ H1 w1.le_refl lay1 en1
theorem ds_ret (he : DE X G W e m) : DS X G W (.Return (some e) pos) (sRet m) := by
  refine PS.imp (ps_ret he) ?_
  rintro D σ H ⟨w, μ, ρ, hl, he, p⟩
  exact tD.seqS (k := fun ρ b μ => .ok (.rt b) μ) hl he p fun w1 μ1 H1 v b l1 lay1 en1 r1 p1 => p1 w1 v H1 w1.le_refl lay1 r1
theorem ds_retN : DS X G W (.Return none pos) sRetN := by
  refine PS.imp ps_retN ?_
  rintro D σ H ⟨w, μ, ρ, hl, he, p⟩
  exact p w .non H w.le_refl hl .non
theorem ds_if {sa sb : List Stmt} (hc : DT X G W c tc) (ha : DSs X G W sa ms) (hb : DSs X G W sb mt) : DS X G W (.If c sa sb pos) (sIf tc ms mt) := by
  refine PS.imp (ps_if hc ha hb) ?_
  rintro D σ H ⟨w, μ, ρ, hl, he, p⟩
  refine tD.seqS (k := fun ρ x μ => if x = true then ms ρ μ else mt ρ μ) hl he p fun w1 μ1 H1 v b l1 lay1 en1 r1 p1 => ?_
  have r1 : v = b := r1
  subst r1
  cases v with
  | true => exact ⟨w1, μ1, ρ, lay1, en1, p1⟩
  | false => exact ⟨w1, μ1, ρ, lay1, en1, p1⟩
theorem asg_imp : ∀ D σ H, tS G W (sAsg m g) D σ H → tAsg (tE G W m) (tG G S g) D σ H := by
  rintro D σ H ⟨w, μ, ρ, hl, he, p⟩
  refine tD.seqS (k := fun ρ b μ => (g b ρ μ).gb fun ρ μ => .ok (.nx ρ) μ) hl he p fun w1 μ1 H1 v b l1 lay1 en1 r1 p1 => ⟨w1, μ1, ρ, b, lay1, en1, r1, ?_⟩
  cases q : g b ρ μ1 with
  | bad => rw [q] at p1; exact p1.elim
  | ex _ _ => rw [q] at p1; exact p1.elim
  | ok ρ2 μ2 =>
    rw [q] at p1
    exact fun w2 σ2 H2 l2 lay2 en2 _ => p1 w2 σ2 H2 l2 lay2 en2
theorem ds_asg (he : DE X G W e m) (hg : DG X G S tg g) (hs : swapsWithSole [tg] e pos.line X.env = pure false := by rfl) (hw : swappedStores [tg] e X.env = pure none := by rfl)
    (h1 : (assignEach [tg] X.env).map (·.2) = [assign tg X.env] := by rfl) : DS X G W (.Assign [tg] e pos) (sAsg m g) := PS.imp (ps_asg he hg hs hw h1) asg_imp
theorem ds_set {i : Nat} {x : Str} {pos' : Pos} (hN : X.N.Nodup) (he : DE X G W e m) (hi : X.N[i]? = some x := by rfl) (hx : Loc X.env.scope x := by first | exact Or.inl rfl | exact Or.inr rfl) (hs : swapsWith e (some (.Name x pos')) pos.line X.env = pure false := by rfl) (hf : X.fn x = true ∨ X.env.scope.names.lookup x = some .local := by first | exact .inl rfl | exact .inr rfl | assumption) :
    DS X G W (.Assign [.Name x pos'] e pos) (sSet i m) := by
  refine PS.imp (ps_set hN hi hx he hs hf) ?_
  rintro D σ H ⟨w, μ, ρ, hl, he, p⟩
  exact tD.seqS (k := fun ρ b μ => .ok (.nx (ρ.set i (some b))) μ) hl he p fun w1 μ1 H1 v b l1 lay1 en1 r1 p1 => p1 w1 _ H1 w1.le_refl lay1 (en1.set i r1)
theorem ds_par {i j : Nat} {x y : Str} {px py pt : Pos} {kt k2 pt2} (hc : X.calm = true) (hN : X.N.Nodup) (ha : DA X G W [a, b] mas) (hi : X.N[i]? = some x := by rfl) (hj : X.N[j]? = some y := by rfl) (hij : i ≠ j := by decide)
    (hx : X.env.scope.names.lookup x = some .local := by rfl) (hy : X.env.scope.names.lookup y = some .local := by rfl)
    (hw : swappedStores [.Tuple [.Name x px, .Name y py] kt pt] (.Tuple [a, b] k2 pt2) X.env = pure (some [x, y]) := by rfl)
    (hs : swapsWithSole [.Tuple [.Name x px, .Name y py] kt pt] (.Tuple [a, b] k2 pt2) pos.line X.env = pure false := by rfl) :
    DS X G W (.Assign [.Tuple [.Name x px, .Name y py] kt pt] (.Tuple [a, b] k2 pt2) pos) (sPar i j mas) := by
  refine PS.imp (ps_par hc hN hi hj hij hx hy ha hw hs) ?_
  rintro D σ H ⟨w, μ, ρ, hl, he, p⟩
  refine tD.seqS (k := parF i j) hl he p fun w1 μ1 H1 vs bs l1 lay1 en1 r1 p1 => ?_
  match bs, r1, p1 with
  | [b, c], .cons r (.cons r' .nil), p1 => exact ⟨_, _, rfl, p1 w1 _ H1 w1.le_refl lay1 ((en1.set i r).set j r')⟩
def OkIp (G : GT) (r : TIp) (f : Op2) : Prop := ∀ (W : WX) (σ : L2.St) (w : Wd) (μ : Store) (H : Hp) (x y : V) (b c : Dv) (Q : VK), Lay G w μ H → Rv G w x b → Rv G w y c → Pst G W σ (Rv G) w (f b c μ) Q → r x y H Q
theorem ds_aug {i : Nat} {x : Str} {op : Operator} {ti : TIp} {f : Op2} {pos' : Pos} (hN : X.N.Nodup) (he : DE X G W e m) (ho : PIp X op ti) (hok : OkIp G ti f) (hi : X.N[i]? = some x := by rfl) (hx : Loc X.env.scope x := by first | exact Or.inl rfl | exact Or.inr rfl) (hf : X.fn x = true ∨ X.env.scope.names.lookup x = some .local := by first | exact .inl rfl | exact .inr rfl | assumption) :
    DS X G W (.AugAssign (.Name x pos') op e pos) (sAug i m f) := by
  refine PS.imp (ps_aug hN hi hx he ho hf) ?_
  rintro D σ H ⟨w, μ, ρ, hl, he, p⟩
  unfold sAug at p
  cases q : ρ[i]? with
  | none => rw [q] at p; exact p.elim
  | some z =>
    cases z with
    | none => rw [q] at p; exact p.elim
    | some b =>
      rw [q] at p
      obtain ⟨v, h1, h2⟩ := he.2 i b q
      refine ⟨v, h1, tD.seqS (k := fun ρ y μ => (f b y μ).bind fun z μ => .ok (.nx (ρ.set i (some z))) μ) hl he p fun w1 μ1 H1 u c l1 lay1 en1 r1 p1 => ?_⟩
      refine hok (fun c d _ H => W c d σ H) σ w1 μ1 H1 v u b c _ lay1 (h2.mono l1) r1 ?_
      cases z : f b c μ1 with
      | bad => rw [z] at p1; exact p1.elim
      | ex e μ2 => rw [z] at p1; exact fun w2 c d H2 l2 lay2 r2 => p1 w2 c d σ H2 l2 lay2 r2
      | ok z μ2 =>
        rw [z] at p1
        exact fun w2 v2 H2 l2 lay2 r2 => p1 w2 _ H2 l2 lay2 ((en1.mono l2).set i r2)

/-! ### loops -/
/-- the items that a loop walks: one by one, from any later state -/
structure ItR (G : GT) (w : Wd) (J : It) (bs : List Dv) : Prop where
  go : ∀ i w' μ H, i < bs.length → w.le w' → Lay G w' μ H → J.go i H
  yld : ∀ i b w' μ H x H', bs[i]? = some b → w.le w' → Lay G w' μ H → J.yld i H x H' → ∃ w2, w'.le w2 ∧ Lay G w2 μ H' ∧ Rv G w2 x b
  stop : ∀ i w' μ H, bs.length ≤ i → w.le w' → Lay G w' μ H → J.stop i H
theorem ItR.mono {G : GT} {w w' : Wd} {J : It} {bs : List Dv} (l : w.le w') (h : ItR G w J bs) : ItR G w' J bs :=
  ⟨fun i w2 μ H hi l2 => h.go i w2 μ H hi (l.trans l2), fun i b w2 μ H x H' e l2 => h.yld i b w2 μ H x H' e (l.trans l2), fun i w2 μ H hi l2 => h.stop i w2 μ H hi (l.trans l2)⟩
abbrev MI := DEnv → Store → Out (List Dv)
def PstI (G : GT) (W : WX) (σ : L2.St) (w : Wd) (o : Out (List Dv)) (R : It → Hp → Prop) : Prop := Pst G W σ (fun w (J : It) bs => ItR G w J bs) w o R
def tI (G : GT) (W : WX) (mi : MI) : TI := tD G W (fun w (J : It) bs => ItR G w J bs) mi
abbrev DI (X : Cx) (G : GT) (W : WX) (tg iter : Expr) (mi : MI) : Prop := PI X tg iter (tI G W mi)
theorem PI.imp {X : Cx} {tg e : Expr} {t t' : TI} (h : PI X tg e t) (i : ∀ σ H Q, t' σ H Q → t σ H Q) : PI X tg e t' := ⟨fun p s σ H Q I hw => h.run p s σ H Q I (i _ _ _ hw)⟩
def forL (g : MG) (mb : MS) : List Dv → DEnv → Store → Out Fl
  | [], ρ, μ => .ok (.nx ρ) μ
  | b :: bs, ρ, μ => (g b ρ μ).gb fun ρ μ => (mb ρ μ).bind fun f μ => match f with
    | .nx ρ => forL g mb bs ρ μ
    | .ct ρ => forL g mb bs ρ μ
    | .bk ρ => .ok (.nx ρ) μ
    | .rt v => .ok (.rt v) μ
def sFor (mi : MI) (g : MG) (mb : MS) : MS := fun ρ μ => (mi ρ μ).bind fun bs μ => forL g mb bs ρ μ
theorem for_imp {mi : MI} {mb : MS} : ∀ D σ H, tS G W (sFor mi g mb) D σ H → tFor (tI G W mi) (tG G S g) (tS G W mb) D σ H := by
  rintro D σ H ⟨w, μ, ρ, hl, he, p⟩
  refine tD.seqS (k := fun ρ bs μ => forL g mb bs ρ μ) hl he p fun w1 μ1 H1 J bs l1 lay1 en1 it p1 => ?_
  refine ⟨fun i m σ H => m = bs.length - i ∧ i ≤ bs.length ∧ ∃ w2 μ2 ρ2, w1.le w2 ∧ Lay G w2 μ2 H ∧ EnvR G w2 σ ρ2 ∧ PstS G W w2 (forL g mb (bs.drop i) ρ2 μ2) D, ⟨bs.length, by simp, Nat.zero_le _, w1, μ1, ρ, w1.le_refl, lay1, en1, p1⟩, ?_⟩
  rintro i m σ2 H2 ⟨rfl, hi, w2, μ2, ρ2, l2, lay2, en2, p2⟩
  by_cases hlt : i < bs.length
  · refine .inr ⟨it.go i w2 μ2 H2 hlt l2 lay2, fun σ H => ∃ w3 μ3 ρ3, w1.le w3 ∧ Lay G w3 μ3 H ∧ EnvR G w3 σ ρ3 ∧ PstS G W w3 (forL g mb (bs.drop (i + 1)) ρ3 μ3) D, fun σ' H' q => ⟨bs.length - (i + 1), by omega, rfl, hlt, q⟩, fun x H' y => ?_⟩
    have eb : bs[i]? = some bs[i] := by simp [hlt]
    obtain ⟨w3, l3, lay3, r3⟩ := it.yld i _ w2 μ2 H2 x H' eb l2 lay2 y
    refine ⟨w3, μ2, ρ2, bs[i], lay3, en2.mono l3, r3, ?_⟩
    rw [List.drop_eq_getElem_cons hlt] at p2
    have p2 := PstS.mono l3 p2
    unfold forL at p2
    cases q : g bs[i] ρ2 μ2 with
    | bad => rw [q] at p2; exact p2.elim
    | ex _ _ => rw [q] at p2; exact p2.elim
    | ok ρ4 μ4 =>
      rw [q] at p2
      intro w4 σ4 H4 l4 lay4 en4 _
      refine ⟨w4, μ4, ρ4, lay4, en4, ?_⟩
      have p4 : PstS G W w4 ((mb ρ4 μ4).bind fun f μ => match f with
        | .nx ρ => forL g mb (bs.drop (i + 1)) ρ μ
        | .ct ρ => forL g mb (bs.drop (i + 1)) ρ μ
        | .bk ρ => .ok (.nx ρ) μ
        | .rt v => .ok (.rt v) μ) D := PstS.mono l4 p2
      have l14 : w1.le w4 := (l2.trans l3).trans l4
      cases q5 : mb ρ4 μ4 with
      | bad => rw [q5] at p4; exact p4.elim
      | ex e μ5 => rw [q5] at p4; exact p4
      | ok f μ5 =>
        rw [q5] at p4
        cases f with
        | nx ρ5 => exact fun w5 σ5 H5 l5 lay5 en5 => ⟨w5, μ5, ρ5, l14.trans l5, lay5, en5, PstS.mono l5 p4⟩
        | ct ρ5 => exact fun w5 σ5 H5 l5 lay5 en5 => ⟨w5, μ5, ρ5, l14.trans l5, lay5, en5, PstS.mono l5 p4⟩
        | bk ρ5 => exact p4
        | rt v => exact p4
  · refine .inl ⟨it.stop i w2 μ2 H2 (by omega) l2 lay2, ?_⟩
    rw [List.drop_of_length_le (by omega)] at p2
    exact p2 w2 σ2 H2 w2.le_refl lay2 en2
theorem ds_for {iter : Expr} {mi : MI} {mb : MS} (hp : PassesOwn (model X.prog X.w) X.A X.env X.xe) (hc : X.calm = true) (hi : DI X G W tg iter mi) (hg : DG X G S tg g) (hb : DSs X G W body mb)
    (hs : ∀ x, foldedSetIterable iter X.env x = pure x := by intro _; rfl) : DS X G W (.For tg iter body [] pos) (sFor mi g mb) := PS.imp (ps_for hp hc hi hg hb hs) for_imp
/-- a while, with as much fuel as is told -/
def whileL (c : MT) (mb : MS) : Nat → DEnv → Store → Out Fl
  | 0, _, _ => .bad
  | n + 1, ρ, μ => (c ρ μ).bind fun k μ => if k = true then (mb ρ μ).bind fun f μ => match f with
    | .nx ρ => whileL c mb n ρ μ
    | .ct ρ => whileL c mb n ρ μ
    | .bk ρ => .ok (.nx ρ) μ
    | .rt v => .ok (.rt v) μ
    else .ok (.nx ρ) μ
theorem while_imp {mb : MS} {n : Nat} : ∀ D σ H, tS G W (whileL tc mb n) D σ H → tWhile (tT G W tc) (tS G W mb) D σ H := by
  rintro D σ H ⟨w, μ, ρ, hl, he, p⟩
  refine ⟨fun m σ H => ∃ w μ ρ, Lay G w μ H ∧ EnvR G w σ ρ ∧ PstS G W w (whileL tc mb m ρ μ) D, ⟨n, w, μ, ρ, hl, he, p⟩, ?_⟩
  rintro m σ1 H1 ⟨w1, μ1, ρ1, lay1, en1, p1⟩
  cases m with
  | zero => exact p1.elim
  | succ m =>
    unfold whileL at p1
    refine tD.seqS (k := fun ρ k μ => if k = true then (mb ρ μ).bind fun f μ => match f with
    | .nx ρ => whileL tc mb m ρ μ
    | .ct ρ => whileL tc mb m ρ μ
    | .bk ρ => .ok (.nx ρ) μ
    | .rt v => .ok (.rt v) μ
    else .ok (.nx ρ) μ) lay1 en1 p1 fun w2 μ2 H2 v b l2 lay2 en2 r2 p2 => ?_
    have r2 : v = b := r2
    subst r2
    cases v with
    | false => exact p2 w2 σ1 H2 w2.le_refl lay2 en2
    | true =>
      refine ⟨fun σ H => ∃ w μ ρ, Lay G w μ H ∧ EnvR G w σ ρ ∧ PstS G W w (whileL tc mb m ρ μ) D, fun σ' H' q => ⟨m, Nat.lt_succ_self _, q⟩, w2, μ2, ρ1, lay2, en2, ?_⟩
      rw [if_pos rfl] at p2
      cases q5 : mb ρ1 μ2 with
      | bad => rw [q5] at p2; exact p2.elim
      | ex e μ5 => rw [q5] at p2; exact p2
      | ok f μ5 =>
        rw [q5] at p2
        cases f with
        | nx ρ5 => exact fun w5 σ5 H5 l5 lay5 en5 => ⟨w5, μ5, ρ5, lay5, en5, PstS.mono l5 p2⟩
        | ct ρ5 => exact fun w5 σ5 H5 l5 lay5 en5 => ⟨w5, μ5, ρ5, lay5, en5, PstS.mono l5 p2⟩
        | bk ρ5 => exact p2
        | rt v => exact p2
theorem ds_while {c : Expr} {mb : MS} (n : Nat) (hp : PassesOwn (model X.prog X.w) X.A X.env X.xe) (hc : DT X G W c tc) (hb : DSs X G W body mb) : DS X G W (.While c body [] pos) (whileL tc mb n) := PS.imp (ps_while hp hc hb) while_imp
end

/-! ### a def by its body -/
def runB (n : Nat) (B : MS) : OpN := fun bs μ => match B (bs.map some ++ List.replicate (n - bs.length) none) μ with
  | .ok (.nx _) μ' => .ok (.d .none) μ'
  | .ok (.rt b) μ' => .ok b μ'
  | .ok _ _ => .bad
  | .ex e μ' => .ex e μ'
  | .bad => .bad
theorem env_start {G : GT} {w : Wd} {N : List Str} : ∀ {vs : List V} {bs : List Dv}, Rvs G w vs bs → EnvR G w (L2.start N vs) (bs.map some ++ List.replicate (N.length - bs.length) none) := fun {vs bs} r => by
  have hl := Paired.length r
  unfold L2.start
  refine ⟨by simp [hl], fun i b q => ?_⟩
  by_cases hi : i < bs.length
  · rw [List.getElem?_append_left (by simpa using hi), List.getElem?_map] at q
    rw [List.getElem?_append_left (by simpa [hl] using hi), List.getElem?_map]
    cases e : bs[i]? with
    | none => rw [e] at q; cases q
    | some c =>
      rw [e] at q
      cases q
      have : ∀ {vs : List V} {bs : List Dv} {i : Nat}, Rvs G w vs bs → bs[i]? = some b → ∃ v, vs[i]? = some v ∧ Rv G w v b := by
        intro vs bs i r
        induction r generalizing i with
        | nil => intro h; simp at h
        | cons r t ih =>
          intro h
          cases i with
          | zero => simp at h; subst h; exact ⟨_, rfl, r⟩
          | succ i => exact ih (by simpa using h)
      obtain ⟨v, h1, h2⟩ := this r e
      exact ⟨v, by rw [h1]; rfl, h2⟩
  · rw [List.getElem?_append_right (by simpa using hi), List.getElem?_replicate] at q
    split at q <;> cases q
section
variable {P : Program} {w : World} {G : GT} {mg : Str → Option Value} {base : Heap}
/-- THE RULE for a def -/
theorem fn_ok {x qual : Str} {st : Stmt} {f : Addr} {fd : FuncData} {N ps : List Str} {k : Nat} {B : MS} (F : Fun G.K x qual st f fd) (S : FnScope N ps (defScope st))
    (hB : ∀ (cdv : Value) (A : Around) (outer : List Env) (s : Shared) (H : Hp) (E : XK), Room k (A.deeper (envOfC qual (defScope st) s.heap.objs.size f cdv)) →
      Takes (cxOf (L2.CX P w) P w G.K mg base N qual (defScope st) f cdv A outer s H E) (fun cls d _ H => E cls d H) →
      PassesOwn (model P w) (A.deeper (envOfC qual (defScope st) s.heap.objs.size f cdv)) (cxOf (L2.CX P w) P w G.K mg base N qual (defScope st) f cdv A outer s H E).env (cxOf (L2.CX P w) P w G.K mg base N qual (defScope st) f cdv A outer s H E).xe →
      DSs (cxOf (L2.CX P w) P w G.K mg base N qual (defScope st) f cdv A outer s H E) G (fun cls d _ H => E cls d H) (defBody st) B) :
    FnOk P w G.K mg base (L2.CX P w) (k + 1) f fd ps (spD G ps.length (runB N.length B)) := by
  refine F.okX S (fun vs H Q E h => h.1) fun cdv A outer s H vs Q E hr h => ?_
  obtain ⟨hn, w0, μ, bs, lay, r, p⟩ := h
  have tk : Takes (cxOf (L2.CX P w) P w G.K mg base N qual (defScope st) f cdv A outer s H E) (fun cls d _ H => E cls d H) := takes_of rfl rfl rfl rfl
  refine ⟨_, hB cdv A outer s H E hr tk (passes_of rfl), w0, μ, _, lay, env_start r, ?_⟩
  unfold runB at p
  cases q : B (bs.map some ++ List.replicate (N.length - bs.length) none) μ with
  | bad => rw [q] at p; exact p.elim
  | ex e μ' =>
    rw [q] at p
    exact fun w' cls d _ H' l lay' r' => p w' cls d H' l lay' r'
  | ok fl μ' =>
    rw [q] at p
    cases fl with
    | nx ρ => exact fun w' σ' H' l lay' _ => p w' .non H' l lay' .non
    | rt b => exact p
    | bk ρ => exact p.elim
    | ct ρ => exact p.elim
end
end DL

/-! Rules of the data layer: displays, comprehensions, cells. -/
namespace DL
open PySem PySem.Spec PyProof.Rows L2

def allD : List Dv → Option (List D)
  | [] => some []
  | .d x :: r => match allD r with
    | some xs => some (x :: xs)
    | none => none
  | _ :: _ => none
theorem allD_map : ∀ ds : List D, allD (ds.map .d) = some ds
  | [] => rfl
  | d :: ds => by simp [allD, allD_map ds]
theorem allD_eq : ∀ {bs : List Dv} {ds : List D}, allD bs = some ds → bs = ds.map .d
  | [], _, h => by cases h; rfl
  | .d x :: r, _, h => by
    unfold allD at h
    cases q : allD r with
    | none => rw [q] at h; cases h
    | some xs => rw [q] at h; cases h; rw [allD_eq q]; rfl
  | .c _ :: _, _, h => by cases h
  | .f _ :: _, _, h => by cases h
theorem RpA_of_Rvs {G : GT} {w : Wd} : ∀ {vs : List V} {ds : List D}, Rvs G w vs (ds.map .d) → RpA G.K w.I vs ds
  | _, [], h => by cases h; exact .nil
  | _, d :: ds, h => by
    cases h with
    | cons r t => exact .cons r (RpA_of_Rvs t)

/-! ### worlds -/
theorem ne_mem {l : List Addr} {a p : Addr} (h : a ∈ l) (n : p ∉ l) : a ≠ p := fun z => n (z ▸ h)
theorem ne_get {l : List Addr} {a p : Addr} {i : Nat} (h : l[i]? = some a) (n : p ∉ l) : a ≠ p := ne_mem (List.mem_of_getElem? h) n
theorem Rv.cong {G : GT} {w w' : Wd} (hI : w'.I = w.I) (hα : w'.α = w.α) {v : V} : ∀ {b : Dv}, Rv G w v b → Rv G w' v b
  | .d _, r => by unfold Rv at r ⊢; rw [hI]; exact r
  | .c _, r => by unfold Rv at r ⊢; rw [hα]; exact r
  | .f _, r => r
theorem Rvs.cong {G : GT} {w w' : Wd} (hI : w'.I = w.I) (hα : w'.α = w.α) : ∀ {vs : List V} {bs : List Dv}, Rvs G w vs bs → Rvs G w' vs bs
  | _, _, .nil => .nil
  | _, _, .cons r t => .cons (Rv.cong hI hα r) (Rvs.cong hI hα t)
theorem EnvR.cong {G : GT} {w w' : Wd} (hI : w'.I = w.I) (hα : w'.α = w.α) {σ : L2.St} {ρ : DEnv} (e : EnvR G w σ ρ) : EnvR G w' σ ρ :=
  ⟨e.1, fun i b q => let ⟨v, h1, h2⟩ := e.2 i b q; ⟨v, h1, Rv.cong hI hα h2⟩⟩
theorem CellAt.cong {G : GT} {w w' : Wd} {H H' : Hp} {a : Addr} (hI : w.I a = none → w'.I a = none) (le : Same w.I w'.I ∧ w.α <+: w'.α) (hH : H' a = H a) : ∀ {c : Cell}, CellAt G w H a c → CellAt G w' H' a c := by
  have rv : ∀ {v b}, Rv G w v b → Rv G w' v b := fun {v b} r => by
    cases b with
    | d x => exact Rp.mono le.1 _ _ r
    | c n => obtain ⟨a, e, q⟩ := r; exact ⟨a, pre_get le.2 e, q⟩
    | f n => exact r
  intro c h
  cases c with
  | lst xs =>
    obtain ⟨h1, vs, h2, h3⟩ := h
    exact ⟨hI h1, vs, by rw [hH]; exact h2, Paired.imp (fun _ _ => rv) h3⟩
  | dic kvs =>
    obtain ⟨h1, vs, h2, h3⟩ := h
    exact ⟨hI h1, vs, by rw [hH]; exact h2, Paired.imp (fun _ _ z => ⟨z.1, rv z.2⟩) h3⟩
  | dT kvs =>
    obtain ⟨h1, vs, h2, h3⟩ := h
    exact ⟨hI h1, vs, by rw [hH]; exact h2, Paired.imp (fun _ _ z => ⟨z.1, rv z.2⟩) h3⟩
  | obj C fs => exact h.elim
  | dead => trivial
section
variable {G : GT} {w : Wd} {μ : Store} {H : Hp}
theorem Lay.na (l : Lay G w μ H) {p : Addr} (np : H p = none) : w.I p = none ∧ p ∉ w.α ∧ w.F p = none := by
  refine ⟨l.same.free np, fun hm => ?_, l.fr.free np⟩
  obtain ⟨o, e⟩ := l.lv p hm
  rw [np] at e
  cases e
/-- an object of no concern -/
theorem Lay.other (l : Lay G w μ H) {p : Addr} (h1 : w.I p = none) (h2 : p ∉ w.α) (h3 : w.F p = none) (o : HO) : Lay G w μ (upd H p o) where
  same := fun b u e => by rw [upd_ne (fun z => by rw [z, h1] at e; cases e)]; exact l.same b u e
  len := l.len
  nd := l.nd
  lv := fun a ha => by rw [upd_ne (ne_mem ha h2)]; exact l.lv a ha
  fr := fun b u e => by rw [upd_ne (fun z => by rw [z, h3] at e; cases e)]; exact l.fr b u e
  fd := l.fd
  di := l.di
  at_ := fun n c a e q => (l.at_ n c a e q).cong (fun z => z) ⟨Same.refl _, List.prefix_refl _⟩ (upd_ne (ne_get q h2))
abbrev Wd.put (w : Wd) (p : Addr) (o : HO) : Wd := ⟨upd w.I p o, w.α, w.F⟩
theorem same_upd {I : Hp} {p : Addr} {o : HO} (n : I p = none) : Same I (upd I p o) := fun b u e => by rw [upd_ne (ne_of_none e n)]; exact e
/-- a new object, frozen at once -/
theorem Lay.new (l : Lay G w μ H) {p : Addr} (np : H p = none) (o : HO) : w.le (w.put p o) ∧ Lay G (w.put p o) μ (upd H p o) := by
  obtain ⟨h1, h2, h3⟩ := l.na np
  have l2 := l.other h1 h2 h3 o
  refine ⟨⟨same_upd h1, List.prefix_refl _, Same.refl _⟩, fun b u e => ?_, l2.len, l2.nd, l2.lv, l2.fr, l2.fd, fun a u e => ?_, fun n c a e q => ?_⟩
  · by_cases z : b = p
    · subst z; have e : upd w.I b o b = some u := e; rw [upd_same] at e; rw [upd_same]; exact e
    · have e : upd w.I p o b = some u := e
      rw [upd_ne z] at e; exact l2.same b u e
  · have : a ≠ p := fun z => by rw [z, h3] at e; cases e
    show upd w.I p o a = none
    rw [upd_ne this]; exact l.di a u e
  · have ap : a ≠ p := ne_get q h2
    exact CellAt.cong (w' := w.put p o) (fun z => by show upd w.I p o a = none; rw [upd_ne ap]; exact z) ⟨same_upd h1, List.prefix_refl _⟩ rfl (l2.at_ n c a e q)
abbrev Wd.ext (w : Wd) (p : Addr) : Wd := ⟨w.I, w.α ++ [p], w.F⟩
/-- a new object, a cell -/
theorem Lay.cell (l : Lay G w μ H) {p : Addr} (np : H p = none) {o : HO} {c : Cell} (hc : ∀ H', H' p = some o → CellAt G (w.ext p) H' p c) : w.le (w.ext p) ∧ Lay G (w.ext p) (μ ++ [c]) (upd H p o) := by
  obtain ⟨h1, h2, h3⟩ := l.na np
  have l2 := l.other h1 h2 h3 o
  refine ⟨⟨Same.refl _, List.prefix_append _ _, Same.refl _⟩, l2.same, by simp [l2.len], ?_, fun a ha => ?_, l2.fr, fun a ha => ?_, l2.di, fun n c' a e q => ?_⟩
  · refine List.nodup_append.mpr ⟨l.nd, by simp, fun a ha b hb => ?_⟩
    simp at hb
    subst hb
    exact ne_mem ha h2
  · rcases List.mem_append.mp ha with ha | ha
    · exact l2.lv a ha
    · simp at ha; subst ha; exact ⟨o, upd_same⟩
  · rcases List.mem_append.mp ha with ha | ha
    · exact l2.fd a ha
    · simp at ha; subst ha; exact h3
  · by_cases hn : n < μ.length
    · rw [List.getElem?_append_left hn] at e
      have q : (w.α ++ [p])[n]? = some a := q
      rw [List.getElem?_append_left (by rw [l.len]; exact hn)] at q
      exact CellAt.cong (w := w) (w' := w.ext p) (fun z => z) ⟨Same.refl _, List.prefix_append _ _⟩ rfl (l2.at_ n c' a e q)
    · have hn' : n = μ.length := by
        have := (List.getElem?_eq_some_iff.mp e).1
        simp at this
        omega
      subst hn'
      have q : (w.α ++ [p])[μ.length]? = some a := q
      rw [← l.len, List.getElem?_append_right (Nat.le_refl _)] at q
      rw [List.getElem?_append_right (Nat.le_refl _)] at e
      simp at q e
      subst q e
      exact hc _ upd_same
abbrev Wd.priv (w : Wd) (p : Addr) (o : HO) : Wd := ⟨w.I, w.α, upd w.F p o⟩
abbrev Wd.unp (w : Wd) (p : Addr) : Wd := ⟨w.I, w.α, fun b => if b = p then none else w.F b⟩
theorem Lay.priv (l : Lay G w μ H) {p : Addr} {o : HO} (h1 : w.I p = none) (h2 : p ∉ w.α) (h3 : w.F p = none) (e : H p = some o) : w.le (w.priv p o) ∧ Lay G (w.priv p o) μ H := by
  refine ⟨⟨Same.refl _, List.prefix_refl _, same_upd h3⟩, l.same, l.len, l.nd, l.lv, fun b u q => ?_, fun a ha => ?_, fun a u q => ?_, fun n c a e' q => (l.at_ n c a e' q).cong (fun z => z) ⟨Same.refl _, List.prefix_refl _⟩ rfl⟩
  · by_cases z : b = p
    · subst z; have q : upd w.F b o b = some u := q; rw [upd_same] at q; rw [← q]; exact e
    · have q : upd w.F p o b = some u := q; rw [upd_ne z] at q; exact l.fr b u q
  · show upd w.F p o a = none
    rw [upd_ne (ne_mem ha h2)]; exact l.fd a ha
  · by_cases z : a = p
    · subst z; exact h1
    · have q : upd w.F p o a = some u := q; rw [upd_ne z] at q; exact l.di a u q
/-- the private object is written, and private no more -/
theorem Lay.unp {w0 : Wd} (l : Lay G w μ H) {p : Addr} {o : HO} (le : (w0.priv p o).le w) (h3 : w0.F p = none) (o' : HO) : w0.le (w.unp p) ∧ Lay G (w.unp p) μ (upd H p o') ∧ H p = some o ∧ w.I p = none ∧ p ∉ w.α := by
  have hF : w.F p = some o := le.2.2 p o upd_same
  have hI : w.I p = none := l.di p o hF
  have hα : p ∉ w.α := fun hm => by have := l.fd p hm; rw [hF] at this; cases this
  have w0F : ∀ b u, w0.F b = some u → b ≠ p := fun b u e z => by rw [z, h3] at e; cases e
  refine ⟨⟨le.1, le.2.1, fun b u e => ?_⟩, ⟨fun b u e => ?_, l.len, l.nd, fun a ha => ?_, fun b u e => ?_, fun a ha => ?_, fun a u e => ?_, fun n c a e q => ?_⟩, l.fr p o hF, hI, hα⟩
  · show (if b = p then none else w.F b) = some u
    rw [if_neg (w0F b u e)]
    exact le.2.2 b u (by show upd w0.F p o b = some u; rw [upd_ne (w0F b u e)]; exact e)
  · rw [upd_ne (fun z => by have e : w.I b = some u := e; rw [z, hI] at e; cases e)]; exact l.same b u e
  · rw [upd_ne (ne_mem ha hα)]; exact l.lv a ha
  · have e : (if b = p then none else w.F b) = some u := e
    by_cases z : b = p
    · rw [if_pos z] at e; cases e
    · rw [if_neg z] at e; rw [upd_ne z]; exact l.fr b u e
  · show (if a = p then none else w.F a) = none
    split
    · rfl
    · exact l.fd a ha
  · have e : (if a = p then none else w.F a) = some u := e
    by_cases z : a = p
    · rw [if_pos z] at e; cases e
    · rw [if_neg z] at e; exact l.di a u e
  · exact (l.at_ n c a e q).cong (fun z => z) ⟨Same.refl _, List.prefix_refl _⟩ (upd_ne (ne_get q hα))
end

/-! ### displays -/
def dList (bs : List Dv) (μ : Store) : Out Dv := match allD bs with
  | some ds => if ds.length ≤ sizeLine then .ok (.d (.list ds)) μ else .bad
  | none => .bad
def dTup (bs : List Dv) (μ : Store) : Out Dv := match allD bs with
  | some ds => if ds.length ≤ sizeLine then .ok (.d (.tuple ds)) μ else .bad
  | none => .bad
/-- a new list that may be changed -/
def cList (bs : List Dv) (μ : Store) : Out Dv := if bs.length ≤ sizeLine then .ok (.c μ.length) (μ ++ [.lst bs]) else .bad
section
variable {X : Cx} {G : GT} {W : WX} {es : List Expr} {mas : MA} {pos : Pos} {σ : L2.St} {w : Wd} {μ : Store} {H : Hp} {Q : VK}
theorem list_new {xs : List V} {bs : List Dv} (l : Lay G w μ H) (r : Rvs G w xs bs) (p : Pst G W σ (Rv G) w (dList bs μ) Q) : xs.length ≤ sizeLine ∧ ∀ a, H a = none → Q (.ref a) (upd H a (.lst xs)) := by
  unfold dList at p
  cases q : allD bs with
  | none => rw [q] at p; exact p.elim
  | some ds =>
    rw [q] at p
    have p : Pst G W σ (Rv G) w (if ds.length ≤ sizeLine then .ok (.d (.list ds)) μ else .bad) Q := p
    by_cases z : ds.length ≤ sizeLine
    · rw [if_pos z] at p
      rw [allD_eq q] at r
      have ra := RpA_of_Rvs r
      refine ⟨by rw [ra.length]; exact z, fun a na => ?_⟩
      obtain ⟨le, l2⟩ := l.new na (.lst xs)
      exact p _ (.ref a) _ le l2 (.lst (SqL.of upd_same) (RpA.mono le.1 _ _ ra))
    · rw [if_neg z] at p
      exact p.elim
/-! ### new tuples, whose objects have no dict -/
def tTupS (t : TA) : TE := fun σ H Q => t σ H fun xs H1 => xs.length ≤ sizeLine ∧ ∀ p its, H1 p = none → Q (.ref p) (upd H1 p (frT its xs))
theorem frT_ok {P : Program} {w : World} {H : Hp} {h : Heap} {a : Addr} {its : List Value} {xs : List V} (z : xs.length ≤ sizeLine) (r : Vals xs its) (e : h.get? a = some { cls := .type "tuple", data := .seq its.toArray }) : ObjOk P w H h a (frT its.toArray xs) :=
  ⟨e, z, its, r, ⟨_, e, rfl, _, rfl⟩⟩
theorem pe_tupS {X : Cx} {es : List Expr} {t : TA} {pos : Pos} {x1} (h : PA X es t) : PE X (.Tuple es x1 pos) (tTupS t) := by
  refine ⟨fun pins s σ H Q I hq => ?_⟩
  refine wpAny_Tuple_spliced (thn (h.run pos pins s σ H _ I hq) fun us s1 ⟨xs, H1, I1, r, z, q⟩ => ⟨by rw [← r.length]; exact z, ?_⟩)
  have hf : H1 s1.heap.objs.size = none := I1.hok.fresh (Nat.le_refl _)
  exact ⟨.ref s1.heap.objs.size, upd H1 s1.heap.objs.size (frT us.toArray xs), I1.laid (t' := s1.toks) (fun b u e => Heap.get?_push_of_some _ e) (Nat.le_refl _) (frT_ok z r (Heap.get?_push_size _ rfl)), rfl, q _ _ hf⟩
theorem tup_new {xs : List V} {bs : List Dv} (l : Lay G w μ H) (r : Rvs G w xs bs) (p : Pst G W σ (Rv G) w (dTup bs μ) Q) : xs.length ≤ sizeLine ∧ ∀ a its, H a = none → Q (.ref a) (upd H a (frT its xs)) := by
  unfold dTup at p
  cases q : allD bs with
  | none => rw [q] at p; exact p.elim
  | some ds =>
    rw [q] at p
    have p : Pst G W σ (Rv G) w (if ds.length ≤ sizeLine then .ok (.d (.tuple ds)) μ else .bad) Q := p
    by_cases z : ds.length ≤ sizeLine
    · rw [if_pos z] at p
      rw [allD_eq q] at r
      have ra := RpA_of_Rvs r
      refine ⟨by rw [ra.length]; exact z, fun a its na => ?_⟩
      obtain ⟨le, l2⟩ := l.new na (frT its xs)
      exact p _ (.ref a) _ le l2 (.tup (SqS.of upd_same) (RpA.mono le.1 _ _ ra))
    · rw [if_neg z] at p
      exact p.elim
theorem list_cell {xs : List V} {bs : List Dv} (l : Lay G w μ H) (r : Rvs G w xs bs) (p : Pst G W σ (Rv G) w (cList bs μ) Q) : xs.length ≤ sizeLine ∧ ∀ a, H a = none → Q (.ref a) (upd H a (.lst xs)) := by
  unfold cList at p
  by_cases z : bs.length ≤ sizeLine
  · rw [if_pos z] at p
    refine ⟨by rw [Paired.length r]; exact z, fun a na => ?_⟩
    obtain ⟨h1, h2, h3⟩ := l.na na
    have le : w.le (w.ext a) := ⟨Same.refl _, List.prefix_append _ _, Same.refl _⟩
    obtain ⟨_, l2⟩ := l.cell na (o := .lst xs) (c := .lst bs) fun H' e => ⟨h1, xs, e, r.mono le⟩
    exact p _ (.ref a) _ le l2 ⟨a, by show (w.α ++ [a])[μ.length]? = some a; rw [← l.len]; simp, rfl⟩
  · rw [if_neg z] at p
    exact p.elim
theorem de_lst (ha : DA X G W es mas) : DE X G W (.List es pos) (eN dList mas) := by
  refine PE.imp (pe_lst ha) ?_
  rintro σ H Q ⟨w, μ, ρ, hl, he, p⟩
  exact tD.seq (k := fun ρ xs μ => dList xs μ) hl he p fun w1 μ1 H1 v b l1 lay1 en1 r1 p1 => list_new lay1 r1 p1
theorem de_lstC (ha : DA X G W es mas) : DE X G W (.List es pos) (eN cList mas) := by
  refine PE.imp (pe_lst ha) ?_
  rintro σ H Q ⟨w, μ, ρ, hl, he, p⟩
  exact tD.seq (k := fun ρ xs μ => cList xs μ) hl he p fun w1 μ1 H1 v b l1 lay1 en1 r1 p1 => list_cell lay1 r1 p1
theorem de_tup {x1} (ha : DA X G W es mas) : DE X G W (.Tuple es x1 pos) (eN dTup mas) := by
  refine PE.imp (pe_tupS ha) ?_
  rintro σ H Q ⟨w, μ, ρ, hl, he, p⟩
  exact tD.seq (k := fun ρ xs μ => dTup xs μ) hl he p fun w1 μ1 H1 v b l1 lay1 en1 r1 p1 => tup_new lay1 r1 p1
end

/-! ### comprehensions -/
abbrev W0 : WX := fun _ _ _ _ => False
def wipeD (ρ : DEnv) : List Nat → DEnv
  | [] => ρ
  | v :: vs => (wipeD ρ vs).set v none
def tYesM : MT := fun _ μ => .ok true μ
def lcM (g : MG) (tt : MT) (te : ME) (ρ : DEnv) : List Dv → Store → Out (List Dv)
  | [], μ => .ok [] μ
  | b :: bs, μ => (g b ρ μ).gb fun ρ' μ => (tt ρ' μ).gb fun k μ => if k = true then (te ρ' μ).gb fun y μ => (lcM g tt te ρ bs μ).gb fun ys μ => .ok (y :: ys) μ else lcM g tt te ρ bs μ
def lcF (fin : OpN) (g : MG) (tt : MT) (te : ME) (vs : List Nat) (ρ : DEnv) (bs : List Dv) (μ : Store) : Out Dv :=
  if bs.length ≤ sizeLine then (lcM g tt te (wipeD ρ vs) bs μ).gb fin else .bad
def eLc (fin : OpN) (mi : MI) (g : MG) (tt : MT) (te : ME) (vs : List Nat) : ME := fun ρ μ => (mi ρ μ).bind fun bs μ => lcF fin g tt te vs ρ bs μ
theorem wipe_get (σ : L2.St) (i : Nat) : ∀ vs : List Nat, (wipe σ vs)[i]? = if i ∈ vs ∧ i < σ.length then some none else σ[i]?
  | [] => by simp [wipe]
  | v :: vs => by
    unfold wipe
    by_cases h : v = i
    · subst h
      by_cases hl : v < σ.length
      · rw [List.getElem?_set_self (by rw [wipe_length]; exact hl), if_pos ⟨by simp, hl⟩]
      · rw [List.getElem?_eq_none (by rw [List.length_set, wipe_length]; omega), if_neg (fun z => hl z.2), List.getElem?_eq_none (by omega)]
    · rw [List.getElem?_set_ne h, wipe_get σ i vs]
      have : (i ∈ v :: vs ∧ i < σ.length) ↔ (i ∈ vs ∧ i < σ.length) := by
        simp only [List.mem_cons]
        constructor
        · rintro ⟨a | a, b⟩
          · exact absurd a.symm h
          · exact ⟨a, b⟩
        · rintro ⟨a, b⟩
          exact ⟨.inr a, b⟩
      simp only [this]
theorem wipe_agr {S vs : List Nat} {σ σ' : L2.St} (h : Agr S (wipe σ vs) σ') (hs : ∀ i ∈ S, i ∈ vs) : wipe σ' vs = wipe σ vs := by
  have hl : σ'.length = σ.length := by rw [h.1, wipe_length]
  apply List.ext_getElem?
  intro i
  rw [wipe_get, wipe_get, hl]
  by_cases z : i ∈ vs ∧ i < σ.length
  · rw [if_pos z, if_pos z]
  · rw [if_neg z, if_neg z]
    by_cases hi : i ∈ S
    · have : ¬ i < σ.length := fun q => z ⟨hs i hi, q⟩
      rw [List.getElem?_eq_none (by omega), List.getElem?_eq_none (by omega)]
    · rw [h.2 i hi, wipe_get, if_neg z]
theorem EnvR.wipe {G : GT} {w : Wd} {σ : L2.St} {ρ : DEnv} (e : EnvR G w σ ρ) : ∀ vs : List Nat, EnvR G w (L2.wipe σ vs) (wipeD ρ vs)
  | [] => e
  | v :: vs => by
    have ih := EnvR.wipe e vs
    unfold L2.wipe wipeD
    refine ⟨by rw [List.length_set, List.length_set]; exact ih.1, fun i b q => ?_⟩
    by_cases h : v = i
    · subst h
      by_cases hl : v < (wipeD ρ vs).length
      · rw [List.getElem?_set_self hl] at q; cases q
      · rw [List.getElem?_eq_none (by rw [List.length_set]; omega)] at q; cases q
    · rw [List.getElem?_set_ne h] at q
      obtain ⟨v', h1, h2⟩ := ih.2 i b q
      exact ⟨v', by rw [List.getElem?_set_ne h]; exact h1, h2⟩
theorem Lay.stay {G : GT} {w : Wd} {μ : Store} {H : Hp} {a : Addr} {vs : List V} (l : Lay G w μ H) (h1 : w.I a = none) (h2 : a ∉ w.α) (h3 : w.F a = none) (e : H a = some (.lst vs)) : w.le (w.put a (.lst vs)) ∧ Lay G (w.put a (.lst vs)) μ H := by
  refine ⟨⟨same_upd h1, List.prefix_refl _, Same.refl _⟩, fun b u q => ?_, l.len, l.nd, l.lv, l.fr, l.fd, fun b u q => ?_, fun n c b q1 q2 => ?_⟩
  · by_cases z : b = a
    · subst z; have q : upd w.I b (.lst vs) b = some u := q; rw [upd_same] at q; rw [← q]; exact e
    · have q : upd w.I a (.lst vs) b = some u := q; rw [upd_ne z] at q; exact l.same b u q
  · have : b ≠ a := fun z => by rw [z, h3] at q; cases q
    show upd w.I a _ b = none
    rw [upd_ne this]; exact l.di b u q
  · have ap : b ≠ a := ne_get q2 h2
    exact CellAt.cong (w' := w.put a (.lst vs)) (fun z => by show upd w.I a _ b = none; rw [upd_ne ap]; exact z) ⟨same_upd h1, List.prefix_refl _⟩ rfl (l.at_ n c b q1 q2)
/-- what becomes of the list that is made: frozen, or a cell -/
def OkFin (G : GT) (fin : OpN) : Prop := ∀ (W : WX) (σ : L2.St) (w : Wd) (μ : Store) (H : Hp) (a : Addr) (vs : List V) (bs : List Dv) (Q : VK), Lay G w μ H → w.I a = none → a ∉ w.α → w.F a = none → H a = some (.lst vs) → Rvs G w vs bs →
  Pst G W σ (Rv G) w (fin bs μ) Q → Q (.ref a) H
theorem fin_list {G : GT} : OkFin G dList := by
  intro W σ w μ H a vs bs Q l h1 h2 h3 e r p
  unfold dList at p
  cases q : allD bs with
  | none => rw [q] at p; exact p.elim
  | some ds =>
    rw [q] at p
    have p : Pst G W σ (Rv G) w (if ds.length ≤ sizeLine then .ok (.d (.list ds)) μ else .bad) Q := p
    by_cases z : ds.length ≤ sizeLine
    · rw [if_pos z] at p
      rw [allD_eq q] at r
      have ra := RpA_of_Rvs r
      obtain ⟨le, l2⟩ := l.stay h1 h2 h3 e
      exact p _ (.ref a) _ le l2 (.lst (SqL.of upd_same) (RpA.mono le.1 _ _ ra))
    · rw [if_neg z] at p
      exact p.elim
section
variable {X : Cx} {G : GT} {W : WX} {mi : MI} {g : MG} {tt : MT} {te : ME} {S vs : List Nat} {fin : OpN}
theorem lc_imp (hf : OkFin G fin) (hS : ∀ i ∈ S, i ∈ vs) : ∀ σ H Q, tE G W (eLc fin mi g tt te vs) σ H Q → tLc (tI G W mi) (tG G S g) (tT G W0 tt) (tE G W0 te) vs σ H Q := by
  rintro σ H Q ⟨w, μ, ρ, hl, he, p⟩
  refine tD.seq (k := fun ρ bs μ => lcF fin g tt te vs ρ bs μ) hl he p fun w1 μ1 H1 J bs l1 lay1 en1 it p1 => ?_
  intro a na
  unfold lcF at p1
  by_cases hz : bs.length ≤ sizeLine
  case neg => rw [if_neg hz] at p1; exact p1.elim
  rw [if_pos hz] at p1
  obtain ⟨n1, n2, n3⟩ := lay1.na na
  refine ⟨fun i m H => m = bs.length - i ∧ i ≤ bs.length ∧ ∃ w2 μ2 us acc, w1.le w2 ∧ Lay G w2 μ2 H ∧ H a = some (.lst us) ∧ w2.I a = none ∧ a ∉ w2.α ∧ w2.F a = none ∧ Rvs G w2 us acc ∧ acc.length ≤ i ∧
    Pst G W σ (Rv G) w2 ((lcM g tt te (wipeD ρ vs) (bs.drop i) μ2).gb fun ys μ => fin (acc ++ ys) μ) Q, ⟨bs.length, by simp, Nat.zero_le _, w1, μ1, [], [], w1.le_refl, lay1.other n1 n2 n3 _, upd_same, n1, n2, n3, .nil, Nat.le_refl _, p1⟩, ?_⟩
  rintro i m H2 ⟨rfl, hi, w2, μ2, us, acc, l2, lay2, e2, i2, a2, f2, r2, hacc, p2⟩
  by_cases hlt : i < bs.length
  · refine .inr ⟨it.go i w2 μ2 H2 hlt l2 lay2, fun H => ∃ w2 μ2 us acc, w1.le w2 ∧ Lay G w2 μ2 H ∧ H a = some (.lst us) ∧ w2.I a = none ∧ a ∉ w2.α ∧ w2.F a = none ∧ Rvs G w2 us acc ∧ acc.length ≤ i + 1 ∧
      Pst G W σ (Rv G) w2 ((lcM g tt te (wipeD ρ vs) (bs.drop (i + 1)) μ2).gb fun ys μ => fin (acc ++ ys) μ) Q, fun H' q => ⟨bs.length - (i + 1), by omega, rfl, hlt, q⟩, fun x H' y => ?_⟩
    have eb : bs[i]? = some bs[i] := by simp [hlt]
    obtain ⟨lp, layp⟩ := lay2.priv i2 a2 f2 e2
    obtain ⟨w3, l3, lay3, r3⟩ := it.yld i _ _ μ2 H2 x H' eb (l2.trans lp) layp y
    have en3 : EnvR G w3 (wipe σ vs) (wipeD ρ vs) := (en1.wipe vs).mono ((l2.trans lp).trans l3)
    refine ⟨w3, μ2, wipeD ρ vs, bs[i], lay3, en3, r3, ?_⟩
    rw [List.drop_eq_getElem_cons hlt] at p2
    unfold lcM at p2
    cases q : g bs[i] (wipeD ρ vs) μ2 with
    | bad => rw [q] at p2; exact p2.elim
    | ex _ _ => rw [q] at p2; exact p2.elim
    | ok ρ4 μ4 =>
      rw [q] at p2
      intro w4 σ4 H4 l4 lay4 en4 ag
      refine ⟨wipe_agr ag hS, w4, μ4, ρ4, lay4, en4, ?_⟩
      cases q5 : tt ρ4 μ4 with
      | bad => simp only [gb_ok, q5] at p2; exact p2.elim
      | ex _ _ => simp only [gb_ok, q5] at p2; exact p2.elim
      | ok k μ5 =>
        simp only [gb_ok, q5] at p2
        intro w5 v5 H5 l5 lay5 r5
        have r5 : v5 = k := r5
        subst r5
        have lw5 : (w2.priv a (.lst us)).le w5 := (l3.trans l4).trans l5
        cases v5 with
        | false =>
          simp only [Bool.false_eq_true, if_false] at p2
          obtain ⟨le6, lay6, e6, i6, a6⟩ := lay5.unp lw5 f2 (.lst us)
          have hH : upd H5 a (.lst us) = H5 := by
            funext b
            by_cases z : b = a
            · subst z; rw [upd_same, e6]
            · rw [upd_ne z]
          rw [hH] at lay6
          exact ⟨w5.unp a, μ5, us, acc, l2.trans le6, lay6, e6, i6, a6, if_pos rfl, r2.mono le6, by omega, Pst.mono le6 p2⟩
        | true =>
          simp only [if_true] at p2
          refine ⟨w5, μ5, ρ4, lay5, en4.mono l5, ?_⟩
          cases q6 : te ρ4 μ5 with
          | bad => rw [q6] at p2; exact p2.elim
          | ex _ _ => rw [q6] at p2; exact p2.elim
          | ok y μ6 =>
            rw [q6] at p2
            intro w6 v6 H6 l6 lay6 r6
            obtain ⟨le7, lay7, e7, i7, a7⟩ := lay6.unp (lw5.trans l6) f2 (.lst (us ++ [v6]))
            refine ⟨us, e7, by rw [Paired.length r2]; omega, w6.unp a, μ6, us ++ [v6], acc ++ [y], l2.trans le7, lay7, upd_same, i7, a7, if_pos rfl, ?_, by simp; omega, ?_⟩
            · have h1 := r2.mono le7
              have h2 : Rv G (w6.unp a) v6 y := Rv.cong rfl rfl r6
              exact Paired.rec (motive := fun l m _ => Rvs G (w6.unp a) (l ++ [v6]) (m ++ [y])) (.cons h2 .nil) (fun r _ ih => .cons r ih) h1
            · have p3 := Pst.mono le7 p2
              cases q7 : lcM g tt te (wipeD ρ vs) (bs.drop (i + 1)) μ6 with
              | bad => simp only [gb_ok, q7] at p3; exact p3.elim
              | ex _ _ => simp only [gb_ok, q7] at p3; exact p3.elim
              | ok ys μ7 =>
                simp only [gb_ok, q7] at p3
                simp only [gb_ok, List.append_assoc, List.singleton_append]
                exact p3
  · refine .inl ⟨it.stop i w2 μ2 H2 (by omega) l2 lay2, ?_⟩
    rw [List.drop_of_length_le (by omega)] at p2
    simp only [lcM, gb_ok, List.append_nil] at p2
    exact hf W σ w2 μ2 H2 a us acc Q lay2 i2 a2 f2 e2 r2 p2
theorem dts_nil {X : Cx} : PTs X [] (tT G W tYesM) := ⟨fun pins s σ H Q I h => by
  obtain ⟨w, μ, ρ, hl, he, p⟩ := h
  exact pts_nil.run pins s σ H Q I (p w true H w.le_refl hl rfl)⟩
theorem dts_one {X : Cx} {c : Expr} (h : DT X G W c tt) : PTs X [c] (tT G W tt) := pts_one h
theorem de_lc {elt tg iter : Expr} {ifs : List Expr} {scope : Scope} (own : List (Str × Nat)) {pos : Pos} (hf : OkFin G fin) (hc : X.calm = true) (hN : X.N.Nodup) (hi : DI X G W tg iter mi) (ok : BlkOk X.N X.env.scope scope own)
    (hg : ∀ (s : Shared) (H : Hp) (C : Addr) (cl : List (Str × Addr)) (fp : List Addr), DG (X.blk s H scope (compEnvC scope cl C X.env) fp) G S tg g) (ht : ∀ (s : Shared) (H : Hp) (C : Addr) (cl : List (Str × Addr)) (fp : List Addr), PTs (X.blk s H scope (compEnvC scope cl C X.env) fp) ifs (tT G W0 tt))
    (he : ∀ (s : Shared) (H : Hp) (C : Addr) (cl : List (Str × Addr)) (fp : List Addr), DE (X.blk s H scope (compEnvC scope cl C X.env) fp) G W0 elt te) (hS : ∀ i ∈ S, i ∈ own.map (·.2) := by decide) (hs : ∀ x, foldedSetIterable iter X.env x = pure x := by intro _; rfl) :
    DE X G W (.ListComp elt [⟨tg, iter, ifs, 0⟩] scope pos) (eLc fin mi g tt te (own.map (·.2))) := PE.imp (pe_lc hc hN hi ok hg ht he hs) (lc_imp hf hS)
end
end DL

/-! A def's promise where no repr is under way around it (so that repr of data may be asked within): its rule, its calls, a law's end. -/
namespace DL
open PySem PySem.Spec PyProof.Rows L2

/-- as FnOk, told of calls with nothing guarded around -/
structure FnG (P : Program) (w : World) (K : PySem.W.Frag) (mg : Str → Option Value) (base : Heap) (k : Nat) (f : Addr) (fd : FuncData) (ps : List Str) (sp : Sp) : Prop where
  len : ∀ vs H Q E, sp vs H Q E → vs.length = ps.length
  run : ∀ (A : Around) (outer : List Env) (s : Shared) (H : Hp) (args : Args) (us : List Value) (vs : List V) (Q : VK) (E : XK), A.guards = some [] → Room k A → Env0 P w K mg base A outer s H → BindsTo s fd args (ps.zip us) → Vals vs us → sp vs H Q E →
    codeAny (model P w) A (.call (.ref f) args) (CR (L2.CX P w) outer P w H s Q E) s
theorem FnG.mono {P : Program} {w : World} {K : PySem.W.Frag} {mg : Str → Option Value} {base : Heap} {j k : Nat} {f : Addr} {fd : FuncData} {ps : List Str} {sp : Sp} (F : FnG P w K mg base j f fd ps sp) (h : j ≤ k) : FnG P w K mg base k f fd ps sp :=
  ⟨F.len, fun A outer s H args us vs Q E g r => F.run A outer s H args us vs Q E g (r.mono h)⟩
theorem FnG.imp {P : Program} {w : World} {K : PySem.W.Frag} {mg : Str → Option Value} {base : Heap} {k : Nat} {f : Addr} {fd : FuncData} {ps : List Str} {sp sp' : Sp} (F : FnG P w K mg base k f fd ps sp) (h : ∀ vs H Q E, sp' vs H Q E → sp vs H Q E) : FnG P w K mg base k f fd ps sp' :=
  ⟨fun vs H Q E q => F.len vs H Q E (h _ _ _ _ q), fun A outer s H args us vs Q E g r e b v q => F.run A outer s H args us vs Q E g r e b v (h _ _ _ _ q)⟩

theorem guards_deeper {A : Around} {env : Env} (h : A.guards = some []) : (A.deeper env).guards = some [] := h

section
variable {P : Program} {w : World} {K : PySem.W.Frag} {mg : Str → Option Value} {base : Heap}
/-- a def of the text by its body -/
theorem fnG_of {k : Nat} {f : Addr} {name qual : Str} {params : Arguments} {body : List Stmt} {sc : Scope} {dV kV doc pm cdv ct oc : Value} {an od : Option Addr} {osl : Array (Option Value)} {N ps : List Str} {sp : Sp}
    (lk : K.lookup f = some ⟨oc, od, .func (PySem.W.fnOf name qual params body sc dV kV doc pm an cdv ct), osl⟩) (cd : PySem.W.codeIn K cdv qual = true) (S : FnScope N ps sc) (len : ∀ vs H Q E, sp vs H Q E → vs.length = ps.length)
    (bd : ∀ (A : Around) (outer : List Env) (s : Shared) (H : Hp) (vs : List V) (Q : VK) (E : XK), A.guards = some [] → Room k (A.deeper (envOfC qual sc s.heap.objs.size f cdv)) → sp vs H Q E →
      ∃ t, PSs (cxOf (L2.CX P w) P w K mg base N qual sc f cdv A outer s H E) body t ∧ t ⟨fun _ H' => Q .non H', Q, fun _ _ => False, fun _ _ => False⟩ (L2.start N vs) H) :
    FnG P w K mg base (k + 1) f (PySem.W.fnOf name qual params body sc dV kV doc pm an cdv ct) ps sp := by
  constructor
  · exact len
  intro A outer s H args us vs Q E g room e0 bt rv hsp
  have hlen : vs.length = ps.length := len vs H Q E hsp
  have inK : K.In s.heap := e0.mod.kin.keeps (fun b o q => (e0.bs b o q).1)
  have nolim : s.heap.NoLimit := e0.mod.nolimit.keeps (fun b o q => (e0.bs b o q).1)
  have kinds : ∀ z ∈ ps.zip us, sc.names.lookup z.1 = some .local ∨ (sc.names.lookup z.1 = some .cell ∧ ((cellsFrom (s.heap.objs.size + 1) sc.names []).lookup z.1).isSome = true) := by
    rintro ⟨n, v⟩ hz
    rcases S.par n (List.of_mem_zip hz).1 with h | h
    · exact Or.inl h
    · exact Or.inr ⟨h, PySem.W.cellsFrom_some _ _ _ (Or.inl h)⟩
  apply codeAny_call_function room.depth (inK _ _ lk) rfl S.co S.gen rfl (PySem.W.codeRec_of inK cd) (bt _ _ _ _ _)
  apply wpAny_newFunctionEnv_cells S.kind kinds
  rintro env rfl s1 x
  refine ⟨nolim.keeps x.toInCall.keep, ?_⟩
  apply codeAny_func
  obtain ⟨t, h1, h2⟩ := bd A outer s H vs Q E g (room.deeper _) hsp
  have I := inv_start (CX := L2.CX P w) (E := E) S room.hd e0 hlen rv x
  apply wpAny_mono (h1.run [] s1 (L2.start N vs) H _ I h2)
  · rintro fl s' q
    cases fl with
    | brk => exact (by obtain ⟨_, _, _, q⟩ := q; exact q.elim)
    | cont => exact (by obtain ⟨_, _, _, q⟩ := q; exact q.elim)
    | next =>
      obtain ⟨σ', H', J, q⟩ := q
      exact ⟨V.non, H', J.os, J.bare, J.base, J.hok, rfl, q⟩
    | ret u =>
      obtain ⟨v, σ', H', J, r, q⟩ := q
      exact ⟨v, H', J.os, J.bare, J.base, J.hok, r, q⟩
  · exact fun e s' q => q
/-- THE RULE for a def -/
theorem fn_okG {G : GT} {x qual : Str} {st : Stmt} {f : Addr} {fd : FuncData} {N ps : List Str} {k : Nat} {B : MS} (F : Fun G.K x qual st f fd) (S : FnScope N ps (defScope st))
    (hB : ∀ (cdv : Value) (A : Around) (outer : List Env) (s : Shared) (H : Hp) (E : XK), (cxOf (L2.CX P w) P w G.K mg base N qual (defScope st) f cdv A outer s H E).A.guards = some [] → Room k (cxOf (L2.CX P w) P w G.K mg base N qual (defScope st) f cdv A outer s H E).A →
      Takes (cxOf (L2.CX P w) P w G.K mg base N qual (defScope st) f cdv A outer s H E) (fun cls d _ H => E cls d H) →
      PassesOwn (model P w) (cxOf (L2.CX P w) P w G.K mg base N qual (defScope st) f cdv A outer s H E).A (cxOf (L2.CX P w) P w G.K mg base N qual (defScope st) f cdv A outer s H E).env (cxOf (L2.CX P w) P w G.K mg base N qual (defScope st) f cdv A outer s H E).xe →
      DSs (cxOf (L2.CX P w) P w G.K mg base N qual (defScope st) f cdv A outer s H E) G (fun cls d _ H => E cls d H) (defBody st) B) :
    FnG P w G.K mg base (k + 1) f fd ps (spD G ps.length (runB N.length B)) := by
  obtain ⟨oc, od, kV, doc, pm, an, cdv, ct, osl, rfl, lk, hcd⟩ := F.ex
  apply fnG_of lk hcd S (fun vs H Q E h => h.1)
  intro A outer s H vs Q E g hr h
  obtain ⟨hn, w0, μ, bs, lay, r, p⟩ := h
  have tk : Takes (cxOf (L2.CX P w) P w G.K mg base N qual (defScope st) f cdv A outer s H E) (fun cls d _ H => E cls d H) := takes_of rfl rfl rfl rfl
  refine ⟨_, hB cdv A outer s H E g hr tk (passes_of rfl), w0, μ, _, lay, env_start r, ?_⟩
  unfold runB at p
  cases q : B (bs.map some ++ List.replicate (N.length - bs.length) none) μ with
  | bad => rw [q] at p; exact p.elim
  | ex e μ' =>
    rw [q] at p
    exact fun w' cls d _ H' l lay' r' => p w' cls d H' l lay' r'
  | ok fl μ' =>
    rw [q] at p
    cases fl with
    | nx ρ => exact fun w' σ' H' l lay' _ => p w' .non H' l lay' .non
    | rt b => exact p
    | bk ρ => exact p.elim
    | ct ρ => exact p.elim
end

section
variable {X : Cx} {G : GT} {W : WX} {e : Expr} {es : List Expr} {mas : MA} {pos p : Pos} {x : Str} {k n : Nat} {f : Addr} {fd : FuncData} {ps ks : List Str} {F : OpN} {sp : Sp} {E : L2.St → XK}
theorem runG {pins : List (Addr × Obj)} {σ : L2.St} {H : Hp} {s : Shared} {Q : VK} {us : List Value} {vs : List V} {args : Args} (hF : FnG X.prog X.w X.K X.mg X.base k f fd ps sp) (g : X.A.guards = some []) (hr : Room k X.A) (hx : PassesAt (L2.CX X.prog X.w) X σ (E σ)) (I : Inv X pins σ H s)
    (hb : BindsTo s fd args (ps.zip us)) (r : Vals vs us) (h : sp vs H Q (E σ)) : codeAny (model X.prog X.w) X.A (.call (.ref f) args) (fun r s' => match r with | .ok (.ret u) => EP X pins σ Q u s' | .ok _ => False | .error e => X.xe e s') s := by
  apply codeAny_mono (hF.run X.A X.stack s H args us vs Q (E σ) g hr I.env0 hb r h)
  rintro (e | fl) s' q
  · exact hx pins H s e s' I q
  · cases fl with
    | ret u => exact I.after q
    | next => exact q.elim
    | brk => exact q.elim
    | cont => exact q.elim
theorem de_callG (hF : FnG X.prog X.w X.K X.mg X.base k f fd ps (spD G n F)) (g : X.A.guards = some []) (hr : Room k X.A) (hg : Gl X x) (hm : X.mg x = some (.ref f)) (hk : PySem.W.keepIn X.K (.ref f) = true) (hb : Binds X.K fd ps []) (tk : Takes X W)
    (ha : DA X G W (e :: es) mas) (hdb : (x == ("__debug__" : Str)) = false := by decide) (he : starEach (e :: es) X.env = (false, eval e X.env) :: starEach es X.env := by rfl) (hpl : (backTo pos (starEach es X.env)).any (·.1) = false := by rfl) :
    DE X G W (.Call (.Name x p) (e :: es) [] pos) (eN (fCall n F) mas) := by
  apply PE.imp (t := tCallSD (spD G n F) [] (WE W) (tA G W mas)) _ call_imp
  constructor
  intro pins s σ H Q I h
  apply wpAny_Call_Name_kw
  apply ld_glob I hg hm _ hdb
  apply PySem.W.callWith_K (h₀ := X.base) I.ok.mod.kin hk _ he hpl
  apply thn (ha.run pos pins s σ H _ I h)
  rintro us s1 ⟨vs, H1, I1, r, q⟩
  refine ⟨I1.kIn, ?_⟩
  rw [List.append_nil] at q
  have hl : (us ++ ([] : List Value)).length = ps.length := by rw [List.append_nil, ← r.length]; exact hF.len _ _ _ _ q
  have hb1 := hb s1 us I1.kIn hl
  rw [List.append_nil] at hb1
  apply wpAny_call
  apply codeAny_mono (runG hF g hr (fun _ _ _ _ _ I c => passAt tk σ _ _ _ _ _ I c) I1 hb1 r q)
  rintro (e | fl) s' q
  · exact q
  · cases fl with
    | ret u => exact q
    | next => exact q.elim
    | brk => exact q.elim
    | cont => exact q.elim
end
end DL

/-! Operations of the data layer: numbers, comparisons, membership. -/
namespace DL
open PySem PySem.Spec PyProof.Rows L2
section
variable {G : GT} {w : Wd} {v : V}
theorem rv_int {i : Int} (r : Rv G w v (.d (.int i))) : v = .int i := by
  have r : Rp G.K w.I v (.int i) := r
  cases r; rfl
theorem rv_str {z : Str} (r : Rv G w v (.d (.str z))) : v = .str z := by
  have r : Rp G.K w.I v (.str z) := r
  cases r; rfl
theorem rv_bl {k : Bool} (r : Rv G w v (.d (.bool k))) : v = .bl k := by
  have r : Rp G.K w.I v (.bool k) := r
  cases r; rfl
theorem rv_non (r : Rv G w v (.d .none)) : v = .non := by
  have r : Rp G.K w.I v .none := r
  cases r; rfl
theorem rv_lst {ds : List D} (r : Rv G w v (.d (.list ds))) : ∃ a xs, v = .ref a ∧ SqL G.K w.I a xs ∧ RpA G.K w.I xs ds := by
  have r : Rp G.K w.I v (.list ds) := r
  cases r with
  | lst h1 h2 => exact ⟨_, _, rfl, h1, h2⟩
theorem rv_tup {ds : List D} (r : Rv G w v (.d (.tuple ds))) : ∃ a xs, v = .ref a ∧ SqT G.K w.I a xs ∧ RpA G.K w.I xs ds := by
  have r : Rp G.K w.I v (.tuple ds) := r
  cases r with
  | tup h1 h2 => exact ⟨_, _, rfl, h1.t, h2⟩
theorem rv_tupS {ds : List D} (r : Rv G w v (.d (.tuple ds))) : ∃ a xs, v = .ref a ∧ SqS G.K w.I a xs ∧ RpA G.K w.I xs ds := by
  have r : Rp G.K w.I v (.tuple ds) := r
  cases r with
  | tup h1 h2 => exact ⟨_, _, rfl, h1, h2⟩
theorem rv_ints {ns : List Int} {xs : List V} {I : Hp} {K : PySem.W.Frag} : RpA K I xs (ns.map .int) → xs = ns.map .int := by
  induction ns generalizing xs with
  | nil => intro h; cases h; rfl
  | cons n ns ih =>
    intro h
    cases h with
    | cons r t => cases r; rw [ih t]; rfl
theorem rv_strs {ns : List Str} {xs : List V} {I : Hp} {K : PySem.W.Frag} : RpA K I xs (ns.map .str) → xs = ns.map .str := by
  induction ns generalizing xs with
  | nil => intro h; cases h; rfl
  | cons n ns ih =>
    intro h
    cases h with
    | cons r t => cases r; rw [ih t]; rfl
theorem rv_bls {ns : List Bool} {xs : List V} {I : Hp} {K : PySem.W.Frag} : RpA K I xs (ns.map .bool) → xs = ns.map .bl := by
  induction ns generalizing xs with
  | nil => intro h; cases h; rfl
  | cons n ns ih =>
    intro h
    cases h with
    | cons r t => cases r; rw [ih t]; rfl
theorem RpA_strs {K : PySem.W.Frag} {I : Hp} : ∀ ns : List Str, RpA K I (ns.map V.str) (ns.map PyData.str)
  | [] => .nil
  | n :: ns => .cons (.str n) (RpA_strs ns)
/-- the items of a list that is read: frozen, or a cell's -/
theorem rv_cell {μ : Store} {H : Hp} {n : Nat} {xs : List Dv} (l : Lay G w μ H) (r : Rv G w v (.c n)) (e : μ[n]? = some (.lst xs)) : ∃ a vs, v = .ref a ∧ w.α[n]? = some a ∧ H a = some (.lst vs) ∧ Rvs G w vs xs := by
  obtain ⟨a, h1, rfl⟩ := r
  obtain ⟨_, vs, h2, h3⟩ := l.at_ n _ a e h1
  exact ⟨a, vs, rfl, h1, h2, h3⟩
end
/-- a cell's, or a frozen list's items; a tuple's -/
def items : Dv → Store → Option (List Dv)
  | .d (.list ds), _ => some (ds.map .d)
  | .c n, μ => match μ[n]? with
    | some (.lst xs) => some xs
    | _ => none
  | _, _ => none
theorem items_ok {G : GT} {w : Wd} {v : V} {μ : Store} {H : Hp} {b : Dv} {xs : List Dv} (l : Lay G w μ H) (r : Rv G w v b) (e : items b μ = some xs) : ∃ a vs, v = .ref a ∧ SqL G.K H a vs ∧ Rvs G w vs xs := by
  unfold items at e
  split at e
  · cases e
    obtain ⟨a, vs, rfl, h1, h2⟩ := rv_lst r
    exact ⟨a, vs, rfl, seqL l.same h1, Rvs_of_RpA h2⟩
  · split at e
    · rename_i h
      cases e
      obtain ⟨a, vs, rfl, _, h2, h3⟩ := rv_cell l r h
      exact ⟨a, vs, rfl, SqL.of h2, h3⟩
    · cases e
  · cases e
def itemsT : Dv → Option (List Dv)
  | .d (.tuple ds) => some (ds.map .d)
  | _ => none
/-- the datum that a value is just now -/
def view : Dv → Store → Option D
  | .d x, _ => some x
  | .c n, μ => match μ[n]? with
    | some (.lst xs) => match allD xs with
      | some ds => some (.list ds)
      | none => none
    | _ => none
  | _, _ => none
theorem Rp.inH {G : GT} {w : Wd} {μ : Store} {H : Hp} {v : V} {x : D} (l : Lay G w μ H) (r : Rp G.K w.I v x) : Rp G.K H v x := Rp.mono l.same _ _ r
theorem view_ok {G : GT} {w : Wd} {v : V} {μ : Store} {H : Hp} {b : Dv} {x : D} (l : Lay G w μ H) (r : Rv G w v b) (e : view b μ = some x) : Rp G.K H v x := by
  cases b with
  | d y => cases e; exact Rp.inH l r
  | f n => cases e
  | c n =>
    unfold view at e
    simp only at e
    split at e
    · rename_i xs h
      split at e
      · rename_i ds q
        cases e
        obtain ⟨a, vs, rfl, _, h2, h3⟩ := rv_cell l r h
        rw [allD_eq q] at h3
        exact .lst (SqL.of h2) (RpA.mono l.same _ _ (RpA_of_Rvs h3))
      · cases e
    · cases e

/-! ### numbers -/
def dNum (C : Int → Int → Bool) (g : Int → Int → Int) : Op2 := fun x y μ => match x, y with
  | .d (.int i), .d (.int j) => if C i j = true then .ok (.d (.int (g i j))) μ else .bad
  | _, _ => .bad
theorem ok_num {G : GT} {C : Int → Int → Bool} {C' : Int → Int → Prop} {g : Int → Int → Int} (h : ∀ i j, C i j = true → C' i j) : Ok2 G (rI C' fun i j => .int (g i j)) (dNum C g) := by
  intro W σ w μ H x y b c Q l rx ry p
  unfold dNum at p
  split at p
  · rename_i i j
    by_cases q : C i j = true
    · rw [if_pos q] at p
      exact ⟨i, j, rv_int rx, rv_int ry, h i j q, p w _ H w.le_refl l (.int _)⟩
    · rw [if_neg q] at p; exact p.elim
  · exact p.elim
def dInt2 (g : Int → Int → D) : Op2 := fun x y μ => match x, y with
  | .d (.int i), .d (.int j) => .ok (.d (g i j)) μ
  | _, _ => .bad
theorem ok_int2 {G : GT} {g : Int → Int → Int} : Ok2 G (rI0 fun i j => .int (g i j)) (dInt2 fun i j => .int (g i j)) := by
  intro W σ w μ H x y b c Q l rx ry p
  unfold dInt2 at p
  split at p
  · rename_i i j
    exact ⟨i, j, rv_int rx, rv_int ry, p w _ H w.le_refl l (.int _)⟩
  · exact p.elim
theorem ok_int2b {G : GT} {g : Int → Int → Bool} : Ok2 G (rI0 fun i j => .bl (g i j)) (dInt2 fun i j => .bool (g i j)) := by
  intro W σ w μ H x y b c Q l rx ry p
  unfold dInt2 at p
  split at p
  · rename_i i j
    exact ⟨i, j, rv_int rx, rv_int ry, p w _ H w.le_refl l (.bl _)⟩
  · exact p.elim
def cMul (i j : Int) : Bool := decide ((Builtin.Int.intBits i : Int) + (Builtin.Int.intBits j : Int) ≤ 134217728)
def cDiv (_ j : Int) : Bool := decide (0 < j) && decide (j.natAbs.log2 < 9000)
def cMod (_ j : Int) : Bool := decide (0 < j)
def cPow (i j : Int) : Bool := decide (0 ≤ j) && decide (j ≤ 1000000) && decide (i.natAbs < 2 ^ 64)
abbrev dMul : Op2 := dNum cMul fun i j => i * j
abbrev dDiv : Op2 := dNum cDiv fun i j => i / j
abbrev dMod : Op2 := dNum cMod fun i j => i % j
abbrev dPow : Op2 := dNum cPow fun i j => i ^ j.toNat
theorem ok_mul {G : GT} : Ok2 G (rI CMulX fun i j => .int (i * j)) dMul := ok_num fun i j h => by
  unfold cMul at h
  unfold CMulX
  exact of_decide_eq_true h
theorem ok_div {G : GT} : Ok2 G (rI CDivW fun i j => .int (i / j)) dDiv := ok_num fun i j h => by
  unfold cDiv at h
  simp only [Bool.and_eq_true, decide_eq_true_eq] at h
  exact h
theorem ok_mod {G : GT} : Ok2 G (rI (fun _ j => 0 < j) fun i j => .int (i % j)) dMod := ok_num fun i j h => of_decide_eq_true h
theorem ok_pow {G : GT} : Ok2 G (rI CPow fun i j => .int (i ^ j.toNat)) dPow := ok_num fun i j h => by
  unfold cPow at h
  simp only [Bool.and_eq_true, decide_eq_true_eq] at h
  exact ⟨h.1.1, h.1.2, h.2⟩
abbrev dSub : Op2 := dInt2 fun i j => .int (i - j)
theorem ok_sub {G : GT} : Ok2 G (rI0 fun i j => .int (i - j)) dSub := ok_int2
def dNeg : Op1 := fun x μ => match x with
  | .d (.int i) => .ok (.d (.int (-i))) μ
  | _ => .bad
theorem ok_neg {G : GT} : Ok1 G (rU fun i => .int (-i)) dNeg := by
  intro W σ w μ H x b Q l rx p
  unfold dNeg at p
  split at p
  · exact ⟨_, rv_int rx, p w _ H w.le_refl l (.int _)⟩
  · exact p.elim

/-! ### + and * of sequences -/
/-- two lists that may be read -/
def rCatS (K : PySem.W.Frag) : R2 := fun x y H Q => ∃ l b xs zs, x = .ref l ∧ y = .ref b ∧ SqL K H l xs ∧ SqL K H b zs ∧ xs.length + zs.length ≤ sizeLine ∧ ∀ p, H p = none → Q (.ref p) (upd H p (.lst (xs ++ zs)))
theorem op_catS {X : Cx} : OpR X (binaryOp .Add) (rCatS X.K) := by
  intro pins s σ H x y v u Q I rx ry h
  obtain ⟨l, b, xs, zs, rfl, rfl, hx, hy, hz, q⟩ := h
  cases rx
  cases ry
  obtain ⟨its, r, ⟨o, n, e, hc, hd, hdt⟩, _⟩ := I.list hx
  obtain ⟨its2, r2, ⟨o2, n2, e2, hc2, hd2, hdt2⟩, _⟩ := I.list hy
  obtain ⟨cls, dd, data, sl⟩ := o
  obtain ⟨cls2, dd2, data2, sl2⟩ := o2
  simp only at hc hd hdt hc2 hd2 hdt2
  subst hc hd hdt hc2 hd2 hdt2
  have hsz : its.toArray.size + its2.toArray.size ≤ sizeLine := by rw [List.size_toArray, List.size_toArray, ← r.length, ← r2.length]; exact hz
  have ty1 : s.TypeIs (.ref l) "list" := ⟨_, e, rfl⟩
  have ty2 : s.TypeIs (.ref b) "list" := ⟨_, e2, rfl⟩
  refine concat_meets ty1 ty2 noFill_list_add seq_list_add PySem.F.slot_list_add PySem.F.entry_list_add (PySem.F.args_list_add_2 _ _) (list_addW l b its.toArray its2.toArray n n2 none none sl sl2 hsz) ⟨e, e2, ?_⟩
  have ea : its.toArray ++ its2.toArray = (its ++ its2).toArray := by simp
  rw [ea]
  refine ⟨.ref s.heap.objs.size, _, I.laid (t' := s.toks) (o := .lst (xs ++ zs)) (fun b ob q => Heap.get?_push_of_some _ q) (Nat.le_refl _) ?_, rfl, q _ (I.hok.fresh (Nat.le_refl _))⟩
  exact ⟨by rw [List.length_append]; exact hz, its ++ its2, 0, r.append r2, Heap.get?_push_size _ rfl⟩
def rMulS : R2 := fun x y H Q => ∃ z i, x = .str z ∧ y = .int i ∧ MulOk z i ∧ Q (.str (Txt.mul z i)) H
theorem op_mulS {X : Cx} : OpR X (binaryOp .Mult) rMulS := by
  intro pins s σ H x y v u Q I rx ry h
  obtain ⟨z, i, rfl, rfl, hm, q⟩ := h
  obtain ⟨t, rfl⟩ := rx
  obtain ⟨t', rfl⟩ := ry
  exact SB.mul hm fun t2 k => ⟨.str _, H, I.tok k, ⟨t2, rfl⟩, q⟩
def dAdd : Op2 := fun x y μ => match x, y with
  | .d (.int i), .d (.int j) => .ok (.d (.int (i + j))) μ
  | .d (.str a), .d (.str b) => if a.length + b.length ≤ sizeLine then .ok (.d (.str (a ++ b))) μ else .bad
  | .d (.tuple xs), .d (.tuple ys) => if xs.length + ys.length ≤ sizeLine then .ok (.d (.tuple (xs ++ ys))) μ else .bad
  | _, _ => match items x μ, items y μ with
    | some xs, some ys => dList (xs ++ ys) μ
    | _, _ => .bad
/-- t + u -/
def rCatZ (K : PySem.W.Frag) : R2 := fun x y H Q => ∃ a b xs ys, x = .ref a ∧ y = .ref b ∧ SqT K H a xs ∧ SqT K H b ys ∧ xs.length + ys.length ≤ sizeLine ∧
  (xs = [] → Q (.ref b) H) ∧ (xs ≠ [] → ys = [] → Q (.ref a) H) ∧ (xs ≠ [] → ys ≠ [] → ∀ p its, H p = none → Q (.ref p) (upd H p (frT its (xs ++ ys))))
theorem op_catZ {X : Cx} : OpR X (binaryOp .Add) (rCatZ X.K) := by
  intro pins s σ H x y v u Q I rx ry h
  obtain ⟨a, b, xs, ys, rfl, rfl, ha, hb, hz, q0, q1, q2⟩ := h
  cases rx
  cases ry
  obtain ⟨its, r1, p1, _⟩ := I.tuple ha
  obtain ⟨its2, r2, p2, _⟩ := I.tuple hb
  by_cases hx : xs = []
  · subst hx
    cases r1
    exact L2.cat_tup0 p1 p2 ⟨.ref b, H, I, rfl, q0 rfl⟩
  · refine HT.cat_tup p1 p2 (fun z => hx (r1.nil_iff.mp z)) (fun z => ⟨.ref a, H, I, rfl, q1 hx (r2.nil_iff.mp z)⟩) (fun z => ?_) (by rw [← r1.length, ← r2.length]; exact hz)
    refine ⟨.ref s.heap.objs.size, _, I.laid (t' := s.toks) (o := frT (its ++ its2).toArray (xs ++ ys)) (fun b ob q => Heap.get?_push_of_some _ q) (Nat.le_refl _) (frT_ok (by rw [List.length_append]; exact hz) (r1.append r2) (Heap.get?_push_size _ (by rfl))), rfl, q2 hx (fun w => z (r2.nil_iff.mpr w)) _ _ (I.hok.fresh (Nat.le_refl _))⟩
def rAdd (K : PySem.W.Frag) : R2 := fun x y H Q => rI0 (fun i j => .int (i + j)) x y H Q ∨ (∃ i j, x = .str i ∧ y = .str j ∧ i.length + j.length ≤ sizeLine ∧ Q (.str (i ++ j)) H) ∨ rCatZ K x y H Q ∨ rCatS K x y H Q
theorem op_addA {X : Cx} : OpR X (binaryOp .Add) (DL.rAdd X.K) := op_add.or (op_add_str.or (op_catZ.or op_catS))
theorem ok_add {G : GT} : Ok2 G (DL.rAdd G.K) dAdd := by
  intro W σ w μ H x y b c Q l rx ry p
  unfold dAdd at p
  split at p
  · exact .inl ⟨_, _, rv_int rx, rv_int ry, p w _ H w.le_refl l (.int _)⟩
  · split at p
    · rename_i h
      exact .inr (.inl ⟨_, _, rv_str rx, rv_str ry, h, p w _ H w.le_refl l (.str _)⟩)
    · exact p.elim
  · split at p
    · rename_i xs ys h
      obtain ⟨a, us, rfl, h1, h2⟩ := rv_tupS rx
      obtain ⟨b, vs, rfl, h3, h4⟩ := rv_tupS ry
      refine .inr (.inr (.inl ⟨a, b, us, vs, rfl, rfl, (seqS l.same h1).t, (seqS l.same h3).t, by rw [h2.length, h4.length]; exact h, fun e => ?_, fun _ e => ?_, fun _ _ p' its np => ?_⟩))
      · subst e
        cases h2
        exact p w _ H w.le_refl l (.tup h3 h4)
      · subst e
        cases h4
        rw [List.append_nil] at p
        exact p w _ H w.le_refl l (.tup h1 h2)
      · obtain ⟨le, l2⟩ := l.new np (frT its (us ++ vs))
        exact p _ _ _ le l2 (.tup (SqS.of upd_same) (RpA.mono le.1 _ _ (h2.app h4)))
    · exact p.elim
  · split at p
    · rename_i xs ys h1 h2
      obtain ⟨a, us, rfl, g1, g2⟩ := items_ok l rx h1
      obtain ⟨b, vs, rfl, g3, g4⟩ := items_ok l ry h2
      have r : Rvs G w (us ++ vs) (xs ++ ys) := Paired.rec (motive := fun l m _ => Rvs G w (l ++ vs) (m ++ ys)) g4 (fun r _ ih => .cons r ih) g2
      obtain ⟨hz, q⟩ := list_new l r p
      exact .inr (.inr (.inr ⟨a, b, us, vs, rfl, rfl, g1, g3, by rw [List.length_append] at hz; exact hz, q⟩))
    · exact p.elim

/-! ### == -/
def scalD : D → D → Bool
  | .none, .none => true | .none, .int _ => true | .int _, .none => true | .none, .bool _ => true | .bool _, .none => true | .none, .str _ => true | .str _, .none => true
  | .int _, .int _ => true | .bool _, .bool _ => true | .str _, .str _ => true
  | .int _, .str _ => true | .str _, .int _ => true | .bool _, .str _ => true | .str _, .bool _ => true
  | _, _ => false
mutual
theorem nodict_of0 : ∀ d : D, d.canLay0 = true → nodict d = true
  | .none, _ => rfl
  | .bool _, _ => rfl
  | .int _, _ => rfl
  | .str _, _ => rfl
  | .list ds, h => by
    rw [nodict]
    exact nodicts_of0 ds (by simpa [PyData.canLay0] using h)
  | .tuple ds, h => by
    rw [nodict]
    exact nodicts_of0 ds (by simpa [PyData.canLay0] using h)
  | .dict _, h => by simp [PyData.canLay0] at h
theorem nodicts_of0 : ∀ ds : List D, PyData.canLayAll0 ds = true → nodicts ds = true
  | [], _ => rfl
  | d :: ds, h => by
    simp only [PyData.canLayAll0, Bool.and_eq_true] at h
    simp only [nodicts, Bool.and_eq_true]
    exact ⟨nodict_of0 d h.1, nodicts_of0 ds h.2⟩
end
theorem nodict_of {d : D} (h : SeqAt.shaped d = true) : nodict d = true := nodict_of0 d (SeqAt.canLay_of_shaped h)
/-- == of two data -/
def eqD (x y : D) : Option Bool := if scalD x y = true then some (PyData.eqv x y) else if SeqAt.shaped x && SeqAt.shaped y then some (PyData.eqv x y) else none
def dEq (neg : Bool) : Op2 := fun x y μ => match view x μ, view y μ with
  | some a, some b => match eqD a b with
    | some k => .ok (.d (.bool (if neg then !k else k))) μ
    | none => .bad
  | _, _ => .bad
theorem scal_of {K : PySem.W.Frag} {H : Hp} : ∀ {x y : D} {v u : V}, Rp K H v x → Rp K H u y → scalD x y = true → scal v u = true ∧ decide (v = u) = PyData.eqv x y := by
  intro x y v u r q h
  cases r <;> cases q <;> first | (refine ⟨rfl, ?_⟩; simp [PyData.eqv]; done) | cases h
  · rename_i a b
    refine ⟨rfl, ?_⟩
    rw [dec_bl]
    simp only [PyData.eqv]
  · rename_i a b
    refine ⟨rfl, ?_⟩
    rw [dec_int]
    simp only [PyData.eqv]
  · rename_i a b
    refine ⟨rfl, ?_⟩
    rw [dec_str]
    simp only [PyData.eqv]
def rEqA (K : PySem.W.Frag) : R2 := fun x y H Q => rEq x y H Q ∨ rEqD K x y H Q
def rNeA (K : PySem.W.Frag) : R2 := fun x y H Q => rNe x y H Q ∨ rNeD K x y H Q
theorem op_eqA {X : Cx} (hu : X.A.units + 64 < cLine) : OpR X (compareOp .Eq) (rEqA X.K) := op_eq.or (op_eqD hu)
theorem op_neA {X : Cx} (hu : X.A.units + 64 < cLine) : OpR X (compareOp .NotEq) (rNeA X.K) := op_ne.or (op_neD hu)
theorem ok_eq {G : GT} : Ok2 G (rEqA G.K) (dEq false) := by
  intro W σ w μ H x y b c Q l rx ry p
  unfold dEq at p
  split at p
  · rename_i a1 b1 h1 h2
    have r1 := view_ok l rx h1
    have r2 := view_ok l ry h2
    unfold eqD at p
    by_cases hs : scalD a1 b1 = true
    · simp only [if_pos hs] at p
      obtain ⟨g1, g2⟩ := scal_of r1 r2 hs
      exact .inl ⟨g1, p w _ H w.le_refl l (by rw [g2]; exact .bl _)⟩
    · simp only [if_neg hs] at p
      by_cases hd : (SeqAt.shaped a1 && SeqAt.shaped b1) = true
      · simp only [if_pos hd] at p
        simp only [Bool.and_eq_true] at hd
        exact .inr ⟨a1, b1, Rp.dp _ _ (nodict_of hd.1) r1, Rp.dp _ _ (nodict_of hd.2) r2, hd.1, hd.2, p w _ H w.le_refl l (.bl _)⟩
      · simp only [if_neg hd] at p
        exact p.elim
  · exact p.elim
theorem ok_ne {G : GT} : Ok2 G (rNeA G.K) (dEq true) := by
  intro W σ w μ H x y b c Q l rx ry p
  unfold dEq at p
  split at p
  · rename_i a1 b1 h1 h2
    have r1 := view_ok l rx h1
    have r2 := view_ok l ry h2
    unfold eqD at p
    by_cases hs : scalD a1 b1 = true
    · simp only [if_pos hs] at p
      obtain ⟨g1, g2⟩ := scal_of r1 r2 hs
      exact .inl ⟨g1, p w _ H w.le_refl l (by rw [g2]; exact .bl _)⟩
    · simp only [if_neg hs] at p
      by_cases hd : (SeqAt.shaped a1 && SeqAt.shaped b1) = true
      · simp only [if_pos hd] at p
        simp only [Bool.and_eq_true] at hd
        exact .inr ⟨a1, b1, Rp.dp _ _ (nodict_of hd.1) r1, Rp.dp _ _ (nodict_of hd.2) r2, hd.1, hd.2, p w _ H w.le_refl l (.bl _)⟩
      · simp only [if_neg hd] at p
        exact p.elim
  · exact p.elim

/-! ### order of numbers and texts, is None -/
def dCmp (g : Int → Int → Bool) (h : List Nat → List Nat → Bool) : Op2 := fun x y μ => match x, y with
  | .d (.int i), .d (.int j) => .ok (.d (.bool (g i j))) μ
  | .d (.str a), .d (.str b) => .ok (.d (.bool (h a.cps.toList b.cps.toList))) μ
  | _, _ => .bad
def rCmp (g : Int → Int → Bool) (h : List Nat → List Nat → Bool) : R2 := fun x y H Q => rI0 (fun i j => .bl (g i j)) x y H Q ∨ ∃ i j, x = .str i ∧ y = .str j ∧ Q (.bl (h i.cps.toList j.cps.toList)) H
theorem ok_cmp {G : GT} {g : Int → Int → Bool} {h : List Nat → List Nat → Bool} : Ok2 G (rCmp g h) (dCmp g h) := by
  intro W σ w μ H x y b c Q l rx ry p
  unfold dCmp at p
  split at p
  · exact .inl ⟨_, _, rv_int rx, rv_int ry, p w _ H w.le_refl l (.bl _)⟩
  · exact .inr ⟨_, _, rv_str rx, rv_str ry, p w _ H w.le_refl l (.bl _)⟩
  · exact p.elim
abbrev dLt : Op2 := dCmp (fun i j => decide (i < j)) fun a b => decide (a < b)
abbrev dLe : Op2 := dCmp (fun i j => decide (i ≤ j)) fun a b => !decide (b < a)
abbrev dGt : Op2 := dCmp (fun i j => decide (j < i)) fun a b => decide (b < a)
abbrev dGe : Op2 := dCmp (fun i j => decide (j ≤ i)) fun a b => !decide (a < b)
theorem op_ltA {X : Cx} : OpR X (compareOp .Lt) (rCmp (fun i j => decide (i < j)) fun a b => decide (a < b)) := op_lt.or op_lt_str
theorem op_leA {X : Cx} : OpR X (compareOp .LtE) (rCmp (fun i j => decide (i ≤ j)) fun a b => !decide (b < a)) := op_le.or op_le_str
theorem op_gtA {X : Cx} : OpR X (compareOp .Gt) (rCmp (fun i j => decide (j < i)) fun a b => decide (b < a)) := op_gt.or op_gt_str
theorem op_geA {X : Cx} : OpR X (compareOp .GtE) (rCmp (fun i j => decide (j ≤ i)) fun a b => !decide (a < b)) := op_ge.or op_ge_str
def isNone : D → Bool
  | .none => true
  | _ => false
/-- x is None (the other side is written) -/
def dIsN (neg : Bool) : Op2 := fun x _ μ => match x with
  | .d a => .ok (.d (.bool (if neg then !isNone a else isNone a))) μ
  | .c _ => .ok (.d (.bool neg)) μ
  | .f _ => .ok (.d (.bool neg)) μ
theorem non_iff {G : GT} {w : Wd} {v : V} {a : D} (r : Rv G w v (.d a)) : decide (v = V.non) = isNone a := by
  have r : Rp G.K w.I v a := r
  cases r <;> rfl
section
variable {X : Cx} {G : GT} {W : WX} {a : Expr} {ma : ME} {pos : Pos}
def eIsN (neg : Bool) (a : ME) : ME := fun ρ μ => (a ρ μ).bind fun x μ => dIsN neg x (.d .none) μ
theorem isN_imp : ∀ σ H Q, tE G W (eIsN false ma) σ H Q → tIsN (tE G W ma) σ H Q := by
  rintro σ H Q ⟨w, μ, ρ, hl, he, p⟩
  refine tD.seq (k := fun ρ x μ => dIsN false x (.d .none) μ) hl he p fun w1 μ1 H1 v b l1 lay1 en1 r1 p1 => ?_
  cases b with
  | d x => rw [non_iff r1]; exact p1 w1 _ H1 w1.le_refl lay1 (.bl _)
  | c n => obtain ⟨a, _, rfl⟩ := r1; exact p1 w1 _ H1 w1.le_refl lay1 (.bl _)
  | f n => obtain ⟨a, _, rfl⟩ := r1; exact p1 w1 _ H1 w1.le_refl lay1 (.bl _)
theorem notN_imp : ∀ σ H Q, tE G W (eIsN true ma) σ H Q → tNotN (tE G W ma) σ H Q := by
  rintro σ H Q ⟨w, μ, ρ, hl, he, p⟩
  refine tD.seq (k := fun ρ x μ => dIsN true x (.d .none) μ) hl he p fun w1 μ1 H1 v b l1 lay1 en1 r1 p1 => ?_
  cases b with
  | d x => rw [non_iff r1]; exact p1 w1 _ H1 w1.le_refl lay1 (.bl _)
  | c n => obtain ⟨a, _, rfl⟩ := r1; exact p1 w1 _ H1 w1.le_refl lay1 (.bl _)
  | f n => obtain ⟨a, _, rfl⟩ := r1; exact p1 w1 _ H1 w1.le_refl lay1 (.bl _)
theorem de_isN {j pos'} (ha : DE X G W a ma) : DE X G W (.Compare a [.Is] [.Constant .none j pos'] pos) (eIsN false ma) := PE.imp (pe_cmp (pc_isN ha) rfl) isN_imp
theorem de_notN {j pos'} (ha : DE X G W a ma) : DE X G W (.Compare a [.IsNot] [.Constant .none j pos'] pos) (eIsN true ma) := PE.imp (pe_cmp (pc_notN ha) rfl) notN_imp
theorem dt_isN {j pos'} (ha : DE X G W a ma) : DT X G W (.Compare a [.Is] [.Constant .none j pos'] pos) (tV (eIsN false ma)) := PT.imp (pt_cmp (pc_isN ha) rfl) fun σ H Q q => isN_imp σ H _ (test_imp (m := eIsN false ma) σ H Q q)
theorem dt_notN {j pos'} (ha : DE X G W a ma) : DT X G W (.Compare a [.IsNot] [.Constant .none j pos'] pos) (tV (eIsN true ma)) := PT.imp (pt_cmp (pc_notN ha) rfl) fun σ H Q q => notN_imp σ H _ (test_imp (m := eIsN true ma) σ H Q q)
end
end DL

/-! Operations of the data layer: membership, items, slices, texts, built-ins. -/
namespace DL
open PySem PySem.Spec PyProof.Rows L2

/-! ### in -/
def flatD : D → Bool
  | .none => true | .bool _ => true | .int _ => true | .str _ => true
  | _ => false
def allFlat : List Dv → Option (List D)
  | [] => some []
  | .d x :: r => if flatD x = true then match allFlat r with
    | some xs => some (x :: xs)
    | none => none else none
  | _ :: _ => none
theorem allFlat_map : ∀ {ds : List D}, (∀ d ∈ ds, flatD d = true) → allFlat (ds.map .d) = some ds
  | [], _ => rfl
  | d :: ds, h => by
    rw [List.map_cons, allFlat, if_pos (h d List.mem_cons_self), allFlat_map fun x hx => h x (List.mem_cons_of_mem _ hx)]
theorem flat_V {K : PySem.W.Frag} {I : Hp} {v : V} {x : D} (r : Rp K I v x) (h : flatD x = true) : flatV v = true := by
  cases r <;> first | rfl | cases h
theorem flat_eqv {K : PySem.W.Frag} {I : Hp} {v u : V} {x y : D} (r : Rp K I v x) (q : Rp K I u y) (h : flatD x = true) (h' : flatD y = true) : eqV v u = PyData.eqv x y := by
  cases r <;> first | cases h | skip
  all_goals (cases q <;> first | cases h' | skip)
  all_goals first | rfl | simp [eqV, PyData.eqv]
theorem flat_all {G : GT} {w : Wd} {v : V} {x : D} (r : Rp G.K w.I v x) (h : flatD x = true) : ∀ {xs : List V} {bs : List Dv} {ds : List D}, Rvs G w xs bs → allFlat bs = some ds → xs.all flatV = true ∧ inV v xs = ds.any fun y => PyData.eqv y x := by
  intro xs bs
  induction bs generalizing xs with
  | nil =>
    intro ds rr e
    cases rr
    cases e
    exact ⟨rfl, rfl⟩
  | cons b bs ih =>
    intro ds rr e
    cases rr with
    | cons r1 rr =>
      cases b with
      | d y =>
        unfold allFlat at e
        by_cases hy : flatD y = true
        · rw [if_pos hy] at e
          cases q : allFlat bs with
          | none => rw [q] at e; cases e
          | some es =>
            rw [q] at e
            cases e
            obtain ⟨g1, g2⟩ := ih rr q
            refine ⟨?_, ?_⟩
            · rw [List.all_cons, g1, flat_V r1 hy]; rfl
            · show (_ :: _ : List V).any _ = _
              rw [List.any_cons, List.any_cons, flat_eqv r1 r hy h, ← g2]
              rfl
        · rw [if_neg hy] at e; cases e
      | c _ => cases e
      | f _ => cases e
def sub1 (a b : Str) : Bool := match a.cps.toList with
  | [c] => decide (c ∈ b.cps.toList)
  | _ => !(Builtin.Str.occurrences b a 0 b.length 1).isEmpty
def itemsA (y : Dv) (μ : Store) : Option (List Dv) := match itemsT y with
  | some xs => some xs
  | none => items y μ
def dIn (neg : Bool) : Op2 := fun x y μ => match x, y with
  | .d (.str a), .d (.str b) => .ok (.d (.bool (if neg then !sub1 a b else sub1 a b))) μ
  | .d a, y => match itemsA y μ with
    | some bs => match allFlat bs with
      | some ds => if flatD a = true then .ok (.d (.bool (if neg then !(ds.any fun y => PyData.eqv y a) else ds.any fun y => PyData.eqv y a))) μ else .bad
      | none => .bad
    | none => .bad
  | _, _ => .bad
def rInS (neg : Bool) : R2 := fun x y H Q => ∃ (c : Nat) (z : Str), x = .str ⟨#[c]⟩ ∧ y = .str z ∧ Q (.bl (if neg then !decide (c ∈ z.cps.toList) else decide (c ∈ z.cps.toList))) H
def rInT (neg : Bool) : R2 := fun x y H Q => ∃ i j, x = .str i ∧ y = .str j ∧ Q (.bl (if neg then !(!(Builtin.Str.occurrences j i 0 j.length 1).isEmpty) else !(Builtin.Str.occurrences j i 0 j.length 1).isEmpty)) H
def rInA (K : PySem.W.Frag) (neg : Bool) : R2 := fun x y H Q => rInS neg x y H Q ∨ rInT neg x y H Q ∨ rIn K neg x y H Q
theorem op_inA {X : Cx} : OpR X (compareOp .In) (rInA X.K false) := OpR.or (r := rInS false) op_in_sign (OpR.or (r := rInT false) op_in_str op_in_seq)
theorem op_notInA {X : Cx} : OpR X (compareOp .NotIn) (rInA X.K true) := OpR.or (r := rInS true) op_notIn_sign (OpR.or (r := rInT true) op_notIn_str op_notIn_seq)
theorem itemsA_ok {G : GT} {w : Wd} {v : V} {μ : Store} {H : Hp} {b : Dv} {xs : List Dv} (l : Lay G w μ H) (r : Rv G w v b) (e : itemsA b μ = some xs) : ∃ a vs, v = .ref a ∧ (SqL G.K H a vs ∨ SqT G.K H a vs) ∧ Rvs G w vs xs := by
  unfold itemsA at e
  split at e
  · rename_i ys h
    cases e
    unfold itemsT at h
    split at h
    · cases h
      obtain ⟨a, vs, rfl, h1, h2⟩ := rv_tup r
      exact ⟨a, vs, rfl, .inr (seqT l.same h1), Rvs_of_RpA h2⟩
    · cases h
  · obtain ⟨a, vs, rfl, h1, h2⟩ := items_ok l r e
    exact ⟨a, vs, rfl, .inl h1, h2⟩
theorem ok_in {G : GT} {neg : Bool} : Ok2 G (rInA G.K neg) (dIn neg) := by
  intro W σ w μ H x y b c Q l rx ry p
  unfold dIn at p
  split at p
  · rename_i a b
    by_cases hc : ∃ n, a.cps.toList = [n]
    · obtain ⟨n, e⟩ := hc
      have hs : sub1 a b = decide (n ∈ b.cps.toList) := by unfold sub1; rw [e]
      rw [hs] at p
      refine .inl ⟨n, b, ?_, rv_str ry, p w _ H w.le_refl l (.bl _)⟩
      rw [rv_str rx]
      have : a = ⟨#[n]⟩ := by
        obtain ⟨arr⟩ := a
        have e : arr.toList = [n] := e
        congr 1
        exact Array.toList_inj.mp (by simpa using e)
      rw [this]
    · have hs : sub1 a b = !(Builtin.Str.occurrences b a 0 b.length 1).isEmpty := by
        unfold sub1
        split
        · rename_i n e
          exact absurd ⟨n, e⟩ hc
        · rfl
      rw [hs] at p
      exact .inr (.inl ⟨a, b, rv_str rx, rv_str ry, p w _ H w.le_refl l (.bl _)⟩)
  · split at p
    · rename_i bs h1
      split at p
      · rename_i ds h2
        split at p
        · rename_i h3
          obtain ⟨a, vs, rfl, g1, g2⟩ := itemsA_ok l ry h1
          have rx : Rp G.K w.I x _ := rx
          obtain ⟨f1, f2⟩ := flat_all rx h3 g2 h2
          exact .inr (.inr ⟨a, vs, rfl, g1, flat_V rx h3, f1, by rw [f2]; exact p w _ H w.le_refl l (.bl _)⟩)
        · exact p.elim
      · exact p.elim
    · exact p.elim
  · exact p.elim

/-! ### items -/
def dIx : Op2 := fun x y μ => match y with
  | .d (.int i) => match x with
    | .d (.str z) => if z.length ≤ sizeLine then match atI z.cps.toList i with
      | some c => .ok (.d (.str ⟨#[c]⟩)) μ
      | none => .bad else .bad
    | x => match itemsA x μ with
      | some bs => match atI bs i with
        | some b => .ok b μ
        | none => .bad
      | none => .bad
  | _ => .bad
theorem Rvs.at {G : GT} {w : Wd} {vs : List V} {bs : List Dv} (r : Rvs G w vs bs) : ∀ {j : Nat} {b : Dv}, bs[j]? = some b → ∃ v, vs[j]? = some v ∧ Rv G w v b := by
  induction r with
  | nil => intro j b h; simp at h
  | cons r t ih =>
    intro j b h
    cases j with
    | zero => simp at h; subst h; exact ⟨_, rfl, r⟩
    | succ j => simpa using ih (by simpa using h)
theorem Rvs.atI {G : GT} {w : Wd} {vs : List V} {bs : List Dv} (r : Rvs G w vs bs) {i : Int} {b : Dv} (e : L2.atI bs i = some b) : ∃ v, L2.atI vs i = some v ∧ Rv G w v b := by
  unfold L2.atI at e ⊢
  rw [Paired.length r]
  cases q : ixN bs.length i with
  | none => rw [q] at e; cases e
  | some j =>
    rw [q] at e
    exact r.at e
theorem ok_ix {G : GT} : Ok2 G (rIx G.K) dIx := by
  intro W σ w μ H x y b c Q l rx ry p
  unfold dIx at p
  split at p
  · rename_i i
    split at p
    · split at p
      · rename_i h
        split at p
        · rename_i c e
          exact .inr (.inr ⟨_, i, c, rv_str rx, rv_int ry, h, e, p w _ H w.le_refl l (.str _)⟩)
        · exact p.elim
      · exact p.elim
    · split at p
      · rename_i bs h
        split at p
        · rename_i b' e
          obtain ⟨a, vs, rfl, g1, g2⟩ := itemsA_ok l rx h
          obtain ⟨v, g3, g4⟩ := Rvs.atI g2 e
          rcases g1 with g1 | g1
          · exact .inl ⟨a, vs, i, v, rfl, rv_int ry, g1, g3, p w _ H w.le_refl l g4⟩
          · exact .inr (.inl ⟨a, vs, i, v, rfl, rv_int ry, g1, g3, p w _ H w.le_refl l g4⟩)
        · exact p.elim
      · exact p.elim
  · exact p.elim
section
variable {X : Cx} {G : GT} {W : WX} {a b e : Expr} {ma mb : ME} {pos p2 : Pos}
theorem de_ix {r : R2} {f : Op2} (hr : IxR X r) (h : Ok2 G r f) (ha : DE X G W a ma) (hb : DE X G W b mb) (hs : PlainIx b := by exact fun _ _ => rfl) : DE X G W (.Subscript a b pos) (e2 f ma mb) := PE.imp (pe_ix hr ha hb hs) (op_imp h)

/-! ### slices -/
abbrev MO := DEnv → Store → Out (Option Int)
def oNone : MO := fun _ μ => .ok none μ
def asInt : Dv → Store → Out (Option Int)
  | .d (.int i), μ => .ok (some i) μ
  | _, _ => .bad
def oSome (a : ME) : MO := fun ρ μ => (a ρ μ).bind asInt
abbrev tO (G : GT) (W : WX) (m : MO) : TO := tD G W (fun _ b c => b = c) m
abbrev DO (X : Cx) (G : GT) (W : WX) (e : Option Expr) (m : MO) : Prop := PO X e (tO G W m)
theorem PO.imp {X : Cx} {e : Option Expr} {t t' : TO} (h : PO X e t) (i : ∀ σ H Q, t' σ H Q → t σ H Q) : PO X e t' := ⟨fun p s σ H Q I hw => h.run p s σ H Q I (i _ _ _ hw)⟩
theorem do_none : DO X G W none oNone := by
  refine PO.imp po_none ?_
  rintro σ H Q ⟨w, μ, ρ, hl, he, p⟩
  exact p w none H w.le_refl hl rfl
theorem do_some (h : DE X G W e ma) : DO X G W (some e) (oSome ma) := by
  refine PO.imp (po_some h) ?_
  rintro σ H Q ⟨w, μ, ρ, hl, he, p⟩
  refine tD.seq (k := fun ρ x μ => asInt x μ) hl he p fun w1 μ1 H1 v b l1 lay1 en1 r1 p1 => ?_
  cases b with
  | d x =>
    cases x with
    | int i => exact ⟨i, rv_int r1, p1 w1 _ H1 w1.le_refl lay1 rfl⟩
    | _ => exact p1.elim
  | _ => exact p1.elim
def cutL {α : Type} (xs : List α) (lo hi : Option Int) : List α := (xs.drop (HT.sIx xs.length 0 lo)).take (HT.sIx xs.length xs.length hi - HT.sIx xs.length 0 lo)
theorem cutL_V (xs : List V) (lo hi : Option Int) : cutL xs lo hi = cutV xs lo hi := rfl
def dSl (x : Dv) (lo hi : Option Int) (μ : Store) : Out Dv := match x with
  | .d (.str z) => if z.length ≤ sizeLine then .ok (.d (.str (cutS z lo hi))) μ else .bad
  | .d (.tuple ds) => .ok (.d (.tuple (cutL ds lo hi))) μ
  | x => match items x μ with
    | some bs => match allD (cutL bs lo hi) with
      | some ds => .ok (.d (.list ds)) μ
      | none => .bad
    | none => .bad
def eSl (a : ME) (l h : MO) : ME := fun ρ μ => (a ρ μ).bind fun x μ => (l ρ μ).bind fun i μ => (h ρ μ).bind fun j μ => dSl x i j μ
/-- t[lo:hi] -/
def rSlZ (K : PySem.W.Frag) : V → Option Int → Option Int → Hp → VK → Prop := fun x lo hi H Q => ∃ a xs, x = .ref a ∧ SqT K H a xs ∧
  (HT.sIx xs.length 0 lo = 0 ∧ HT.sIx xs.length xs.length hi = xs.length → Q (.ref a) H) ∧ (¬ (HT.sIx xs.length 0 lo = 0 ∧ HT.sIx xs.length xs.length hi = xs.length) → ∀ p its, H p = none → Q (.ref p) (upd H p (frT its (cutV xs lo hi))))
theorem sl_tupZ {X : Cx} : SlR X (rSlZ X.K) := by
  intro pins s σ H x v vl vu lo hi sl Q I rx hs pl pu h
  obtain ⟨a, xs, rfl, hx, q1, q2⟩ := h
  cases rx
  obtain ⟨its, r, ht, hz⟩ := I.tuple hx
  have hlen : its.toArray.size = xs.length := by rw [List.size_toArray]; exact r.length.symm
  refine ⟨"tuple", _, PyProof.Rows.slot_tuple_getitem.lookup, ht.typeIs, ?_⟩
  by_cases hw : HT.sIx xs.length 0 lo = 0 ∧ HT.sIx xs.length xs.length hi = xs.length
  · exact L2.getItem_tuple_whole ht hs pl pu (by rw [hlen]; exact hw) ⟨.ref a, H, I, rfl, q1 hw⟩
  · refine HT.getItem_tuple_cut ht hs pl pu (by rw [hlen]; exact hw) ?_ (by rw [hlen]; exact hz)
    rw [hlen]
    refine ⟨.ref s.heap.objs.size, _, I.laid (t' := s.toks) (o := frT ((its.drop (HT.sIx xs.length 0 lo)).take (HT.sIx xs.length xs.length hi - HT.sIx xs.length 0 lo)).toArray (cutV xs lo hi)) (fun b ob q => Heap.get?_push_of_some _ q) (Nat.le_refl _)
      (frT_ok (Nat.le_trans (cutV_length xs lo hi) hz) ((r.drop _).take _) (Heap.get?_push_size _ (by rfl))), rfl, q2 hw _ _ (I.hok.fresh (Nat.le_refl _))⟩
def rSl (K : PySem.W.Frag) : V → Option Int → Option Int → Hp → VK → Prop := fun x lo hi H Q => rSlS x lo hi H Q ∨ rSlZ K x lo hi H Q ∨ rSlL K x lo hi H Q
theorem sl_any {X : Cx} : SlR X (rSl X.K) := sl_str.or (sl_tupZ.or sl_list)
theorem RpA.cut {K : PySem.W.Frag} {I : Hp} {vs : List V} {ds : List D} (r : RpA K I vs ds) (lo hi : Option Int) : RpA K I (cutV vs lo hi) (cutL ds lo hi) := by
  unfold cutV cutL
  rw [r.length]
  exact (r.drop _).take _
theorem Rvs.drop {G : GT} {w : Wd} : ∀ {vs : List V} {bs : List Dv} (n : Nat), Rvs G w vs bs → Rvs G w (vs.drop n) (bs.drop n)
  | _, _, 0, r => r
  | _, _, n + 1, .nil => .nil
  | _, _, n + 1, .cons _ t => Rvs.drop n t
theorem Rvs.take {G : GT} {w : Wd} : ∀ {vs : List V} {bs : List Dv} (n : Nat), Rvs G w vs bs → Rvs G w (vs.take n) (bs.take n)
  | _, _, 0, r => by simp; exact .nil
  | _, _, n + 1, .nil => .nil
  | _, _, n + 1, .cons r t => .cons r (Rvs.take n t)
theorem de_slice {lo hi : Option Expr} {ml mh : MO} (hK : X.K = G.K) (ha : DE X G W a ma) (hl : DO X G W lo ml) (hh : DO X G W hi mh) : DE X G W (.Subscript a (.Slice lo hi none p2) pos) (eSl ma ml mh) := by
  refine PE.imp (pe_slice sl_any ha hl hh) ?_
  rintro σ H Q ⟨w, μ, ρ, hl, he, p⟩
  refine tD.seq (k := fun ρ x μ => (ml ρ μ).bind fun i μ => (mh ρ μ).bind fun j μ => dSl x i j μ) hl he p fun w1 μ1 H1 v b l1 lay1 en1 r1 p1 => ?_
  refine tD.seq (k := fun ρ i μ => (mh ρ μ).bind fun j μ => dSl b i j μ) lay1 en1 p1 fun w2 μ2 H2 i i' l2 lay2 en2 r2 p2 => ?_
  refine tD.seq (k := fun ρ j μ => dSl b i' j μ) lay2 en2 p2 fun w3 μ3 H3 j j' l3 lay3 en3 r3 p3 => ?_
  have r2 : i = i' := r2
  have r3 : j = j' := r3
  subst r2 r3
  have r1 := (r1.mono l2).mono l3
  unfold dSl at p3
  split at p3
  · split at p3
    · rename_i h
      exact .inl ⟨_, rv_str r1, h, p3 w3 _ H3 w3.le_refl lay3 (.str _)⟩
    · exact p3.elim
  · obtain ⟨a, vs, rfl, g1, g2⟩ := rv_tupS r1
    refine .inr (.inl ⟨a, vs, rfl, by rw [hK]; exact (seqS lay3.same g1).t, fun e => ?_, fun _ p' its np => ?_⟩)
    · have : ∀ ds : List D, RpA G.K w3.I vs ds → cutL ds i j = ds := fun ds g2 => by
        unfold cutL
        rw [g2.length] at e
        rw [e.1, e.2]
        simp
      rw [this _ g2] at p3
      exact p3 w3 _ H3 w3.le_refl lay3 (.tup g1 g2)
    · obtain ⟨le, l2'⟩ := lay3.new np (frT its (cutV vs i j))
      exact p3 _ _ _ le l2' (.tup (SqS.of upd_same) (RpA.mono le.1 _ _ (g2.cut i j)))
  · split at p3
    · rename_i bs h
      split at p3
      · rename_i ds hd
        obtain ⟨a, vs, rfl, g1, g2⟩ := items_ok lay3 r1 h
        have g3 : Rvs G w3 (cutV vs i j) (cutL bs i j) := by
          unfold cutV cutL
          rw [Paired.length g2]
          exact Rvs.take _ (Rvs.drop _ g2)
        rw [allD_eq hd] at g3
        refine .inr (.inr ⟨a, vs, rfl, by rw [hK]; exact g1, fun p' np => ?_⟩)
        obtain ⟨le, l2'⟩ := lay3.new np (.lst (cutV vs i j))
        exact p3 _ _ _ le l2' (.lst (SqL.of upd_same) (RpA.mono le.1 _ _ (RpA_of_Rvs g3)))
      · exact p3.elim
    · exact p3.elim
end

/-! ### methods -/
def OkM (G : GT) (r : V → List V → Hp → VK → Prop) (f : Dv → OpN) : Prop := ∀ (W : WX) (σ : L2.St) (w : Wd) (μ : Store) (H : Hp) (x : V) (xs : List V) (b : Dv) (bs : List Dv) (Q : VK), Lay G w μ H → Rv G w x b → Rvs G w xs bs → Pst G W σ (Rv G) w (f b bs μ) Q → r x xs H Q
def OkT (G : GT) (T : String) (c : Dv → Store → Bool) : Prop := ∀ (w : Wd) (μ : Store) (H : Hp) (x : V) (b : Dv), Lay G w μ H → Rv G w x b → c b μ = true → tyV G.K T x H
def isStr : Dv → Store → Bool
  | .d (.str _), _ => true
  | _, _ => false
theorem ty_str {G : GT} : OkT G "str" isStr := by
  intro w μ H x b l r h
  unfold isStr at h
  split at h
  · rw [rv_str r]; exact rfl
  · cases h
def isList (b : Dv) (μ : Store) : Bool := (items b μ).isSome
theorem ty_list {G : GT} : OkT G "list" isList := by
  intro w μ H x b l r h
  unfold isList at h
  cases q : items b μ with
  | none => rw [q] at h; cases h
  | some xs =>
    obtain ⟨a, vs, rfl, g1, g2⟩ := items_ok l r q
    exact .inl ⟨rfl, vs, g1⟩
def eM (c : Dv → Store → Bool) (f : Dv → OpN) (o : ME) (a : MA) : ME := fun ρ μ => (o ρ μ).bind fun x μ => if c x μ = true then (a ρ μ).bind fun xs μ => f x xs μ else .bad
section
variable {X : Cx} {G : GT} {W : WX} {o e : Expr} {es : List Expr} {mo : ME} {mas : MA} {pos apos cpos : Pos} {T id : String} {name : Str} {r : V → List V → Hp → VK → Prop} {f : Dv → OpN} {c : Dv → Store → Bool}
theorem de_bm0 (pa : PlainAttrs T) (slot : Slot T name id) (hty : typeOf (.builtin id) = pure (.type "method_descriptor")) (hm : MtR X id r) (h : OkM G r f) (hT : OkT G T c) (hK : X.K = G.K) (ho : DE X G W o mo)
    (hbase : attributeBase o name X.env (eval o X.env) = eval o X.env := by rfl) (hline : (apos.endLine == cpos.line) = true := by rfl) : DE X G W (.Call (.Attribute o name apos) [] [] cpos) (eM c f mo aNil) := by
  refine PE.imp (pe_bm0 pa slot hty hm ho hbase hline) ?_
  rintro σ H Q ⟨w, μ, ρ, hl, he, p⟩
  refine tD.seq (k := fun ρ x μ => if c x μ = true then (aNil ρ μ).bind fun xs μ => f x xs μ else .bad) hl he p fun w1 μ1 H1 v b l1 lay1 en1 r1 p1 => ?_
  split at p1
  · rename_i hc
    exact ⟨by rw [hK]; exact hT w1 μ1 H1 v b lay1 r1 hc, h W σ w1 μ1 H1 v [] b [] Q lay1 r1 .nil p1⟩
  · exact p1.elim
theorem de_bm (pa : PlainAttrs T) (slot : Slot T name id) (hty : typeOf (.builtin id) = pure (.type "method_descriptor")) (hm : MtR X id r) (h : OkM G r f) (hT : OkT G T c) (hK : X.K = G.K) (ho : DE X G W o mo) (ha : DA X G W (e :: es) mas)
    (hbase : attributeBase o name X.env (eval o X.env) = eval o X.env := by rfl)
    (hfew : ((backTo cpos (starEach (e :: es) X.env)).all (fun x => !x.1) && (backToKw cpos (keywordEach [] X.env)).all (fun x => x.1.isSome)
      && decide ((e :: es).length + ([] : List Keyword).length + (if ([] : List Keyword).isEmpty then 0 else 1) < 30)) = true := by rfl)
    (hline : (apos.endLine == cpos.line) = true := by rfl) (hs : starEach (e :: es) X.env = (false, eval e X.env) :: starEach es X.env := by rfl) (hplain : (backTo cpos (starEach es X.env)).any (·.1) = false := by rfl) :
    DE X G W (.Call (.Attribute o name apos) (e :: es) [] cpos) (eM c f mo mas) := by
  refine PE.imp (pe_bm pa slot hty hm ho ha hbase hfew hline hs hplain) ?_
  rintro σ H Q ⟨w, μ, ρ, hl, he, p⟩
  refine tD.seq (k := fun ρ x μ => if c x μ = true then (mas ρ μ).bind fun xs μ => f x xs μ else .bad) hl he p fun w1 μ1 H1 v b l1 lay1 en1 r1 p1 => ?_
  split at p1
  · rename_i hc
    refine ⟨by rw [hK]; exact hT w1 μ1 H1 v b lay1 r1 hc, ?_⟩
    exact tD.seq (k := fun ρ xs μ => f b xs μ) lay1 en1 p1 fun w2 μ2 H2 vs bs l2 lay2 en2 r2 p2 => h W σ w2 μ2 H2 v vs b bs Q lay2 (r1.mono l2) r2 p2
  · exact p1.elim
end
end DL

/-! A law's end, by the promise of its def over data. -/
namespace DL
open PySem PySem.Spec PyProof.Rows L2

theorem RpA_ints {K : PySem.W.Frag} {I : Hp} : ∀ ns : List Int, RpA K I (ns.map V.int) (ns.map PyData.int)
  | [] => .nil
  | n :: ns => .cons (.int n) (RpA_ints ns)
/-- the law's call: its script is frozen, nothing else stands -/
theorem lawG {P : Program} {w : World} {G : GT} {mg mb : Str → Option Value} {k : Nat} {fa a : Addr} {fd : FuncData} {x : Str} {F : OpN} {s : Shared} {vs : List Value} {ns : List Int} {μ' : Store}
    (inK : G.K.In s.heap) (gl : s.heap.Ns mainGlobals mg) (bl : s.heap.Ns builtinsNs mb) (hbb : ∀ x : Str, x ≠ "__name__" → mb x = bootBuiltins x) (lim : s.heap.NoLimit) (gens : s.gens = #[])
    (ha : s.heap.get? a = some { cls := .type "list", data := .seq vs.toArray }) (hi : IntsAre vs ns) (hl : ns.length ≤ sizeLine) (room : Room k callerA)
    (hF : ∀ base : Heap, G.K.In base → base.Ns mainGlobals mg → FnG P w G.K mg base k fa fd [x] (spD G 1 F)) (bt : ∀ (s : Shared) (u : Value), BindsTo s fd ⟨[u], []⟩ [(x, u)])
    (hv : F [.d (.list (ns.map PyData.int))] [] = .ok (.d (.bool true)) μ') :
    codeAny (model P w) callerA (.call (.ref fa) ⟨[.ref a], []⟩) (fun r t => r = .ok (.ret (.bool true)) ∧ OldK s.heap t.heap ∧ t.os = s.os ∧ AllBare t.gens) s := by
  have rv := vals_ints hi
  have lenV := hi.length
  suffices main : ∀ H : Hp, (∀ b, H b ≠ none → b = a ∧ ∃ xs, H b = some (.frz { cls := .type "list", data := .seq vs.toArray } (.lst xs))) → SqL G.K H a (ns.map V.int) → HOk P w H s.heap → (H a ≠ none → G.K.lookup a = none) →
      codeAny (model P w) callerA (.call (.ref fa) ⟨[.ref a], []⟩) (fun r t => r = .ok (.ret (.bool true)) ∧ OldK s.heap t.heap ∧ t.os = s.os ∧ AllBare t.gens) s by
    cases hk : G.K.lookup a with
    | some o =>
      have e := inK a o hk
      rw [ha] at e
      cases e
      apply main (fun _ => none)
      · exact fun b z => absurd rfl z
      · exact Or.inr ⟨_, vs.toArray, _, hk, rfl, rfl, rfl, by rw [List.size_toArray, lenV]; exact hl, by simpa using rv⟩
      · intro b u z
        cases z
      · exact fun z => absurd rfl z
    | none =>
      have at_ : ∀ b u, (if b = a then some (HO.frz { cls := .type "list", data := .seq vs.toArray } (.lst (ns.map V.int))) else none) = some u → b = a ∧ u = .frz { cls := .type "list", data := .seq vs.toArray } (.lst (ns.map V.int)) := by
        intro b u z
        by_cases hb : b = a
        · rw [if_pos hb] at z
          exact ⟨hb, (Option.some.inj z).symm⟩
        · rw [if_neg hb] at z
          cases z
      apply main (fun b => if b = a then some (.frz { cls := .type "list", data := .seq vs.toArray } (.lst (ns.map V.int))) else none)
      · intro b z
        by_cases hb : b = a
        · exact ⟨hb, ns.map V.int, if_pos hb⟩
        · exact absurd (if_neg hb) z
      · exact Or.inl (Or.inr ⟨{ cls := .type "list", data := .seq vs.toArray }, if_pos rfl⟩)
      · intro b u z
        obtain ⟨rfl, rfl⟩ := at_ b u z
        exact ⟨ha, by rw [List.length_map]; exact hl, vs, _, rv, ha⟩
      · exact fun _ => hk
  intro H only sq ok own
  have keep : ∀ {b : Addr} {o : Obj}, s.heap.get? b = some o → H b = none → (hidT s.heap H).get? b = some o := hidT_get
  have isA : ∀ {b : Addr} {o : Obj} {es : Array DictEntry} {ep : Nat}, s.heap.get? b = some o → o.data = .dict es ep → H b = none := by
    intro b o es ep e d
    cases q : H b with
    | none => rfl
    | some u =>
      obtain ⟨rfl, _⟩ := only b (by rw [q]; simp)
      rw [ha] at e
      cases e
      cases d
  have kb : G.K.In (hidT s.heap H) := by
    intro b o e
    apply keep (inK b o e)
    cases q : H b with
    | none => rfl
    | some u =>
      obtain ⟨rfl, _⟩ := only b (by rw [q]; simp)
      rw [own (by rw [q]; simp)] at e
      cases e
  have nsB : ∀ {b : Addr} {m : Str → Option Value}, s.heap.Ns b m → (hidT s.heap H).Ns b m := by
    rintro b m ⟨o, es, ep, e, d, r⟩
    exact ⟨o, es, ep, keep e (isA e d), d, r⟩
  have md : Mod G.K mg (hidT s.heap H) := ⟨kb, nsB gl, ⟨mb, nsB bl, hbb⟩, by obtain ⟨mc, h1, h2⟩ := lim; exact ⟨mc, nsB h1, h2⟩⟩
  have e0 : Env0 P w G.K mg (hidT s.heap H) callerA [] s H := ⟨rfl, md, fun b o e => of_hidT e, Nat.le_of_eq (hidT_size _ _), trivial, fun b hb => absurd (show b ∈ ([] : List Addr) from hb) (by simp), ok, .of_eq gens⟩
  have sp : spD G 1 F [.ref a] H (fun v _ => v = .bl true) (fun _ _ _ => False) := by
    refine ⟨rfl, ⟨H, [], fun _ => none⟩, [], [.d (.list (ns.map PyData.int))], ?_, .cons (.lst sq (RpA_ints ns)) .nil, ?_⟩
    · exact ⟨Same.refl _, rfl, List.nodup_nil, fun a h => absurd h (by simp), fun b o e => (nomatch e), fun _ _ => rfl, fun a o e => (nomatch e), fun n c a e => absurd e (by simp)⟩
    · rw [hv]
      intro w' v H' _ _ r
      have r : Rp G.K w'.I v (.bool true) := r
      cases r
      rfl
  apply codeAny_mono ((hF _ kb (nsB gl)).run callerA [] s H ⟨[.ref a], []⟩ [.ref a] [.ref a] _ _ rfl room e0 (bt s (.ref a)) (.cons rfl .nil) sp)
  rintro (e | fl) t q
  · obtain ⟨_, _, _, _, _, _, _, _, _, _, _, _, z⟩ := q
    exact z.elim
  cases fl with
  | next => exact q.elim
  | brk => exact q.elim
  | cont => exact q.elim
  | ret u =>
    obtain ⟨v, H', os, bare, un, ok', r, rfl⟩ := q
    obtain rfl : u = Value.bool true := r
    refine ⟨rfl, ?_, os, bare⟩
    apply OldK.of_keep
    intro b o e
    cases q : H b with
    | none => exact un.keep b o e q (fun z => absurd (show b ∈ ([] : List Addr) from z) (by simp)) (by simp)
    | some u =>
      obtain ⟨_, xs, z⟩ := only b (by rw [q]; simp)
      have z2 := un.frzs b _ _ z
      obtain ⟨e1, _⟩ := ok b _ z
      obtain ⟨e2, _⟩ := ok' b _ z2
      rw [e] at e1
      cases e1
      exact e2
/-- the goal behind the head -/
theorem walkG {l : PySem.W.OpenLaw} {n k : Nat} {q : Program} {loose : List Str} {XP : (Str → Option Value) → Heap → Prop} {YP : World → Heap → Prop} {d : DefRec} {K : Params → PySem.W.Frag} {x : Str}
    (hn : l.most = some n) (hn2 : n ≤ sizeLine) (hdf : d.params.defaults = []) (hr : Room k callerA) (hY : ∀ (w : World) (h : Heap), YP w h → (K w.params).In h)
    (F : ∀ (w : World) (mg : Str → Option Value) (fa : Addr) (h : Heap), (K w.params).In h → h.Ns mainGlobals mg → mg d.name = some (.ref fa) →
      ∃ (fd : FuncData) (G : GT) (F : OpN), G.K = K w.params ∧ (∀ (s : Shared) (u : Value), BindsTo s fd ⟨[u], []⟩ [(x, u)]) ∧ (∀ base : Heap, (K w.params).In base → base.Ns mainGlobals mg → FnG l.prog w (K w.params) mg base k fa fd [x] (spD G 1 F)) ∧
        ∀ ns : List Int, ns.length ≤ n → (∀ i ∈ ns, Builtin.Int.intBits i ≤ 1048576) → ∃ μ', F [.d (.list (ns.map PyData.int))] [] = .ok (.d (.bool true)) μ') :
    PySem.W.WalkO q loose XP YP l.row.toRowW d [] (fun f vs => PySem.call f vs) := by
  apply Att.attach_callB hn hdf
  intro w s₀ s₁ mg mb fa o pm cd doc a vs ns T Y ho hd hcd hmg hobj hints hlen bits hg
  have inK := hY w _ Y
  obtain ⟨fd, G, F, eK, hb, hF, hv⟩ := F w mg fa _ inK T.T.g hmg
  obtain ⟨μ', hv⟩ := hv ns hlen bits
  rw [← eK] at inK hF
  exact lawG inK T.T.g T.T.b T.T.builtins T.T.nolimit hg hobj hints (Nat.le_trans hlen hn2) hr hF hb hv
end DL

/-! Statements of the data layer, further: a starred target, a cell's item stored, calls with keywords, comprehensions given to a name. -/
namespace DL
open PySem PySem.Spec PyProof.Rows L2

/-! ### a, *b = t -/
theorem ns_one {h : Heap} {L : Addr} {m m' : Str → Option Value} (x : h.Ns L m) (y : h.Ns L m') : m = m' := by
  obtain ⟨o, es, ep, e1, e2, _, e3⟩ := x
  obtain ⟨o', es', ep', f1, f2, _, f3⟩ := y
  rw [e1] at f1
  cases f1
  rw [e2] at f2
  cases f2
  funext z
  rw [← e3, ← f3]
section
variable {X : Cx} {pins : List (Addr × Obj)} {σ : L2.St} {H : Hp} {s : Shared}
theorem objok_there {P : Program} {w : World} {H : Hp} {h : Heap} {a : Addr} {o : HO} (x : ObjOk P w H h a o) : ∃ ob, h.get? a = some ob := by
  cases o with
  | lst xs => obtain ⟨_, _, _, _, e⟩ := x; exact ⟨_, e⟩
  | tup xs => obtain ⟨_, _, _, o, e, _⟩ := x; exact ⟨_, e⟩
  | dK kvs => obtain ⟨_, _, _, _, o, _, _, e, _⟩ := x; exact ⟨_, e⟩
  | dT kvs => obtain ⟨_, _, _, _, o, _, _, e, _⟩ := x; exact ⟨_, e⟩
  | set S n => obtain ⟨o, _, _, _, e, _⟩ := x; exact ⟨_, e⟩
  | ins C dx fs => obtain ⟨_, _, _, e, _⟩ := x; exact ⟨_, e⟩
  | own y => obtain ⟨_, e⟩ := x; exact ⟨_, e⟩
  | xd fs => obtain ⟨_, ⟨_, _, _, e, _⟩, _⟩ := x; exact ⟨_, e⟩
  | rng lo hi => obtain ⟨_, _, _, e⟩ := x; exact ⟨_, e⟩
  | frz ob u => obtain ⟨e, _⟩ := x; exact ⟨_, e⟩
  | tbl ps => exact ⟨_, x⟩
  | met f y => exact ⟨_, x⟩
  | ext φ => obtain ⟨_, ⟨_, e⟩, _⟩ := x; exact ⟨_, e⟩
theorem Inv.led {m : Str → Option Value} {h' : Heap} {tk : Nat} {D : Addr} {ys : List V} {its : List Value} (I : Inv X pins σ H s) (F : Fr X.base X.env.locals s.heap m) (F' : Fr X.base X.env.locals h' m) (N' : News X.base X.env.locals h' ((D, PySem.W.listOf its.toArray 0) :: allNews X.base s.heap X.env.locals))
    (lt : ∀ p ∈ allNews X.base s.heap X.env.locals, p.1 < D) (r : Vals ys its) (hz : ys.length ≤ sizeLine) : H D = none ∧ Inv X pins σ (upd H D (.lst ys)) { s with heap := h', toks := tk } := by
  obtain ⟨hD, nL, nb⟩ := N' (D, PySem.W.listOf its.toArray 0) List.mem_cons_self
  have fresh : s.heap.get? D = none := by
    cases q : s.heap.get? D with
    | none => rfl
    | some o => exact absurd (lt (D, o) (mem_allNews nL nb q)) (Nat.lt_irrefl _)
  have nH : H D = none := by
    cases q : H D with
    | none => rfl
    | some o =>
      obtain ⟨u, e⟩ := objok_there (I.hok D o q)
      rw [fresh] at e
      cases e
  have keep : ∀ b o, b ≠ X.env.locals → s.heap.get? b = some o → h'.get? b = some o := by
    intro b o hb e
    cases q : X.base.get? b with
    | some u =>
      have := F.keep b u q
      rw [e] at this
      cases this
      exact F'.keep b _ q
    | none => exact (N' (b, o) (List.mem_cons_of_mem _ (mem_allNews hb q e))).1
  have ns : ∀ m', s.heap.Ns X.env.locals m' → h'.Ns X.env.locals m' := fun m' hm => by rw [ns_one hm F.ns]; exact F'.ns
  refine ⟨nH, ?_⟩
  have sD : ∀ b o, s.heap.get? b = some o → b ≠ D := fun b o e z => by rw [z, fresh] at e; cases e
  apply I.step (g' := s.gens) (d' := s.drawn) (ch := [])
  · exact fun _ z => nomatch z
  · exact fun b o hb _ _ e _ => keep b o hb e
  · exact fun b o hb _ _ e _ => ⟨o.slots, keep b o hb e⟩
  · exact fun b o _ e n => by rw [upd_ne (sD b o e)]; exact n
  · intro b o _ e
    by_cases hb : b = X.env.locals
    · subst hb
      obtain ⟨o', _, _, e', _⟩ := F'.ns
      exact ⟨o', e'⟩
    · exact ⟨o, keep b o hb e⟩
  · exact fun b xs e => by rw [upd_ne (ne_of_none e nH)]; exact e
  · exact fun b o u e => by rw [upd_ne (ne_of_none e nH)]; exact e
  · exact fun b ps e => ⟨#[], by rw [upd_ne (ne_of_none e nH), e]; simp⟩
  · exact ns
  · intro b u e
    by_cases hb : b = D
    · subst hb
      rw [upd_same] at e
      cases e
      exact ⟨hz, its, 0, r, hD⟩
    · rw [upd_ne hb] at e
      refine (I.hok b u e).stay (fun c v hc q => keep c v ?_ q) (fun c q => by rw [upd_ne (ne_of_none q nH)]; exact q) fun c xs q => by rw [upd_ne (ne_of_none q nH)]; exact q
      rcases hc with rfl | hc
      · intro z; rw [z, I.free] at e; cases e
      · intro z; rw [z, I.free] at hc; cases hc
  · exact I.bare
end
def gStarV (K : PySem.W.Frag) (n : Nat) (t : TGs) : TG := fun v σ H Q => ∃ a xs, v = .ref a ∧ SqT K H a xs ∧ n ≤ xs.length ∧ xs.length ≤ 16384 ∧ ∀ D, H D = none → t (xs.take n ++ [.ref D]) σ (upd H D (.lst (xs.drop n))) Q
section
variable {X : Cx} {G : GT} {W : WX} {e t : Expr} {es : List Expr} {pos p : Pos} {g : MG} {gs : MGs} {S T : List Nat}
theorem pgs_star {tg : TG} {u : TGs} (h1 : PG X t tg) (h2 : PGs X es u) (hs : (assignEach (.Starred t p :: es) X.env).map (·.2) = assign t X.env :: (assignEach es X.env).map (·.2) := by rfl) : PGs X (.Starred t p :: es) (gCons tg u) := by
  constructor
  intro pins s σ H vs us Q I r h
  obtain ⟨v, vr, rfl, h⟩ := h
  cases r with
  | cons r rr =>
    rw [hs]
    apply assignInOrder_cons
    apply thn (h1.run pins s σ H _ _ _ I r h)
    rintro _ s1 ⟨σ1, H1, I1, q1⟩
    exact h2.run pins s1 σ1 H1 _ _ Q I1 rr q1
theorem pg_star {k n : Nat} {u : TGs} (hc : X.calm = true) (h : PGs X es u) (hn : (assignEach es X.env).length = n + 1 := by rfl) (hst : (assignEach es X.env).findIdx? (·.1) = some n := by rfl) : PG X (.Tuple es k pos) (gStarV X.K n u) := by
  constructor
  intro pins s σ H v uu Q I r hw
  obtain ⟨a, xs, rfl, hq, hl, h16, hw⟩ := hw
  cases r
  obtain ⟨its, rv, ht, hz⟩ := I.tuple hq
  obtain ⟨m, F⟩ := I.fr
  have hlen := rv.length
  refine PySem.W.kun_assignT (i := n) (n := n + 1) (first := its.take n) (mids := its.drop n) (lasts := []) F news_all ht (I.ok.hd hc) hn hst (Nat.lt_succ_self _) ?_ ?_ ?_ ?_ ?_ ?_
  · rw [List.size_toArray]; omega
  · rw [List.size_toArray]; omega
  · rfl
  · show (its.drop n).take (its.toArray.size + 1 - (n + 1)) = its.drop n
    rw [List.take_of_length_le]
    rw [List.length_drop, List.size_toArray]
    omega
  · show (its.drop n).drop (its.toArray.size + 1 - (n + 1)) = []
    rw [List.drop_of_length_le]
    rw [List.length_drop, List.size_toArray]
    omega
  · intro D h' tk F' N' lt
    obtain ⟨nH, I'⟩ := Inv.led (tk := tk) I F F' N' lt (rv.drop n) (by rw [List.length_drop]; omega)
    rw [List.append_nil]
    exact h.run pins _ σ _ _ _ Q I' ((rv.take n).append (Paired.cons (show L2.RelV (V.ref D) (Value.ref D) from rfl) .nil)) (hw D nH)
def gStar (n : Nat) (g : MGs) : MG := fun b ρ μ => match b with
  | .d (.tuple ds) => if n ≤ ds.length ∧ ds.length ≤ 16384 then g ((ds.take n).map .d ++ [.d (.list (ds.drop n))]) ρ μ else .bad
  | _ => .bad
theorem gcons_imp : ∀ vs σ H Q, tGs G (S ++ T) (gsCons g gs) vs σ H Q → gCons (tG G S g) (tGs G T gs) vs σ H Q := by
  rintro vs σ H Q ⟨w, μ, ρ, bs, hl, he, r, p⟩
  cases r with
  | nil => exact p.elim
  | @cons v b vs bs rv rr =>
    refine ⟨v, vs, rfl, w, μ, ρ, b, hl, he, rv, ?_⟩
    have p : PstG G w (S ++ T) σ ((g b ρ μ).bind fun ρ μ => gs bs ρ μ) Q := p
    cases q : g b ρ μ with
    | bad => rw [q] at p; exact p.elim
    | ex _ _ => rw [q] at p; exact p.elim
    | ok ρ1 μ1 =>
      rw [q] at p
      have p : PstG G w (S ++ T) σ (gs bs ρ1 μ1) Q := p
      refine fun w1 σ1 H1 l1 lay1 en1 ag => ⟨w1, μ1, ρ1, bs, lay1, en1, Rvs.mono l1 rr, ?_⟩
      cases q2 : gs bs ρ1 μ1 with
      | bad => rw [q2] at p; exact p.elim
      | ex _ _ => rw [q2] at p; exact p.elim
      | ok ρ2 μ2 =>
        rw [q2] at p
        exact fun w2 σ2 H2 l2 lay2 en2 ag2 => p w2 σ2 H2 (l1.trans l2) lay2 en2 (ag.trans ag2)
theorem dgs_star (h1 : DG X G S t g) (h2 : DGs X G T es gs) (hs : (assignEach (.Starred t p :: es) X.env).map (·.2) = assign t X.env :: (assignEach es X.env).map (·.2) := by rfl) : DGs X G (S ++ T) (.Starred t p :: es) (gsCons g gs) := PGs.imp (pgs_star h1 h2 hs) gcons_imp
theorem dg_star {k n : Nat} (hc : X.calm = true) (hK : X.K = G.K) (h : DGs X G S es gs) (hn : (assignEach es X.env).length = n + 1 := by rfl) (hst : (assignEach es X.env).findIdx? (·.1) = some n := by rfl) : DG X G S (.Tuple es k pos) (gStar n gs) := by
  refine PG.imp (pg_star hc h hn hst) ?_
  rintro v σ H Q ⟨w, μ, ρ, b, hl, he, r, p⟩
  unfold gStar at p
  split at p
  · rename_i ds
    split at p
    · rename_i hh
      obtain ⟨a, xs, rfl, h1, h2⟩ := rv_tup r
      refine ⟨a, xs, rfl, by rw [hK]; exact seqT hl.same h1, by rw [h2.length]; exact hh.1, by rw [h2.length]; exact hh.2, fun D nD => ?_⟩
      obtain ⟨le, l2⟩ := hl.new nD (.lst (xs.drop n))
      refine ⟨_, μ, ρ, _, l2, he.mono le, ?_, PstG.mono le p⟩
      have r1 : Rvs G (w.put D (.lst (xs.drop n))) (xs.take n) ((ds.take n).map .d) := Rvs_of_RpA (RpA.mono le.1 _ _ (h2.take n))
      have r2 : Rv G (w.put D (.lst (xs.drop n))) (.ref D) (.d (.list (ds.drop n))) := .lst (SqL.of upd_same) (RpA.mono le.1 _ _ (h2.drop n))
      exact Paired.rec (motive := fun l m _ => Rvs G (w.put D (.lst (xs.drop n))) (l ++ [.ref D]) (m ++ [.d (.list (ds.drop n))])) (.cons r2 .nil) (fun r _ ih => .cons r ih) r1
    · exact p.elim
  · exact p.elim
end

/-! ### x[i] = v of a cell -/
section
variable {G : GT} {w : Wd} {μ : Store} {H : Hp}
theorem get_nodup {l : List Addr} (h : l.Nodup) {i j : Nat} {a : Addr} (hi : l[i]? = some a) (hj : l[j]? = some a) : i = j := by
  obtain ⟨h1, e1⟩ := List.getElem?_eq_some_iff.mp hi
  obtain ⟨h2, e2⟩ := List.getElem?_eq_some_iff.mp hj
  exact (List.getElem_inj h).mp (e1.trans e2.symm)
/-- a cell is written -/
theorem Lay.write (l : Lay G w μ H) {n : Nat} {a : Addr} {c : Cell} {o : HO} (ha : w.α[n]? = some a) (nI : w.I a = none) (hc : ∀ H', H' a = some o → CellAt G w H' a c) : Lay G w (μ.set n c) (upd H a o) := by
  have nF := l.fd a (List.mem_of_getElem? ha)
  refine ⟨fun b u e => ?_, by rw [List.length_set]; exact l.len, l.nd, fun b hb => ?_, fun b u e => ?_, l.fd, l.di, fun m c' b e q => ?_⟩
  · rw [upd_ne (fun z => by rw [z, nI] at e; cases e)]; exact l.same b u e
  · by_cases z : b = a
    · subst z; exact ⟨o, upd_same⟩
    · rw [upd_ne z]; exact l.lv b hb
  · rw [upd_ne (fun z => by rw [z, nF] at e; cases e)]; exact l.fr b u e
  · by_cases z : n = m
    · subst z
      rw [ha] at q
      cases q
      have hn : n < μ.length := by rw [← l.len]; exact (List.getElem?_eq_some_iff.mp ha).1
      rw [List.getElem?_set_self hn] at e
      cases e
      exact hc _ upd_same
    · rw [List.getElem?_set_ne z] at e
      have ne : b ≠ a := fun y => z (get_nodup l.nd ha (y ▸ q))
      exact (l.at_ m c' b e q).cong (fun z => z) ⟨Same.refl _, List.prefix_refl _⟩ (upd_ne ne)
end
def dSetIx (x i v : Dv) (μ : Store) : Option Store := match x, i with
  | .c n, .d (.int k) => match μ[n]? with
    | some (.lst xs) => match ixN xs.length k with
      | some j => some (μ.set n (.lst (xs.set j v)))
      | none => none
    | _ => none
  | _, _ => none
def optN : Option Store → DEnv → Out Fl
  | some μ, ρ => .ok (.nx ρ) μ
  | none, _ => .bad
def sSetIx (m mo mi : ME) : MS := fun ρ μ => (m ρ μ).bind fun v μ => (mo ρ μ).bind fun x μ => (mi ρ μ).bind fun i μ => optN (dSetIx x i v μ) ρ
section
variable {X : Cx} {G : GT} {W : WX} {a b c e o tg : Expr} {es : List Expr} {m mo mi : ME} {mas : MA} {pos p : Pos} {S : List Nat}
theorem Rvs.set {w : Wd} {vs : List V} {bs : List Dv} (r : Rvs G w vs bs) {v : V} {b : Dv} (q : Rv G w v b) : ∀ j, Rvs G w (vs.set j v) (bs.set j b) := by
  induction r with
  | nil => intro j; exact .nil
  | cons r t ih =>
    intro j
    cases j with
    | zero => exact .cons q t
    | succ j => exact .cons r (ih j)
theorem ds_setIx {i : Expr} {pos' : Pos} (hv : DE X G W e m) (ho : DE X G W o mo) (hi : DE X G W i mi) (hs : swapsWithSole [.Subscript o i pos'] e pos.line X.env = pure false := by rfl) (hw : swappedStores [.Subscript o i pos'] e X.env = pure none := by rfl)
    (h1 : (assignEach [.Subscript o i pos'] X.env).map (·.2) = [assign (.Subscript o i pos') X.env] := by rfl)
    (ha : ∀ v, assign (.Subscript o i pos') X.env v = (do
      let ov ← holding [v] (eval o X.env)
      let iv ← holding [v, ov] (eval i X.env)
      standAt pos'
      holding [v, ov, iv] (setItem ov iv v)
      release [v, ov, iv] []) := by intro _; rfl) : DS X G W (.Assign [.Subscript o i pos'] e pos) (sSetIx m mo mi) := by
  refine PS.imp (ps_asg hv (pg_sub ho hi set_list ha) hs hw h1) ?_
  rintro D σ H ⟨w, μ, ρ, hl, he, p⟩
  refine tD.seqS (k := fun ρ v μ => (mo ρ μ).bind fun x μ => (mi ρ μ).bind fun i μ => optN (dSetIx x i v μ) ρ) hl he p fun w1 μ1 H1 v v' l1 lay1 en1 r1 p1 => ?_
  refine tD.seqS (k := fun ρ x μ => (mi ρ μ).bind fun i μ => optN (dSetIx x i v' μ) ρ) lay1 en1 p1 fun w2 μ2 H2 x x' l2 lay2 en2 r2 p2 => ?_
  refine tD.seqS (k := fun ρ i μ => optN (dSetIx x' i v' μ) ρ) lay2 en2 p2 fun w3 μ3 H3 y y' l3 lay3 en3 r3 p3 => ?_
  have r1 := (r1.mono l2).mono l3
  have r2 := r2.mono l3
  cases x' with
  | d _ => exact p3.elim
  | f _ => exact p3.elim
  | c n =>
    cases y' with
    | c _ => exact p3.elim
    | f _ => exact p3.elim
    | d yy =>
      cases yy with
      | int k =>
        unfold dSetIx at p3
        simp only at p3
        cases e : μ3[n]? with
        | none => simp only [e] at p3; exact p3.elim
        | some cl =>
          cases cl with
          | lst xs =>
            simp only [e] at p3
            cases q : ixN xs.length k with
            | none => simp only [q] at p3; exact p3.elim
            | some j =>
              simp only [q] at p3
              obtain ⟨a, g1, rfl⟩ := r2
              obtain ⟨nI, vs, g2, g3⟩ := lay3.at_ n _ a e g1
              refine ⟨a, vs, k, j, rfl, rv_int r3, g2, by rw [Paired.length g3]; exact q, ?_⟩
              exact p3 w3 σ _ w3.le_refl (lay3.write g1 nI fun H' e => ⟨nI, _, e, g3.set r1 j⟩) en3
          | _ => simp only [e] at p3; exact p3.elim
      | _ => exact p3.elim

/-! ### name = [.. for ..] -/
theorem ds_setLc {i : Nat} {y : Str} {py : Pos} {elt tg iter : Expr} {ifs : List Expr} {scope : Scope} (own : List (Str × Nat)) {lpos spos : Pos} {mi : MI} {g : MG} {tt : MT} {te : ME} {fin : OpN} (hf : OkFin G fin) (hc : X.calm = true) (hN : X.N.Nodup)
    (hi : DI X G W tg iter mi) (ok : BlkOk X.N X.env.scope scope own)
    (hg : ∀ (s : Shared) (H : Hp) (C : Addr) (cl : List (Str × Addr)) (fp : List Addr), DG (X.blk s H scope (compEnvC scope cl C X.env) fp) G S tg g) (ht : ∀ (s : Shared) (H : Hp) (C : Addr) (cl : List (Str × Addr)) (fp : List Addr), PTs (X.blk s H scope (compEnvC scope cl C X.env) fp) ifs (tT G W0 tt))
    (he : ∀ (s : Shared) (H : Hp) (C : Addr) (cl : List (Str × Addr)) (fp : List Addr), DE (X.blk s H scope (compEnvC scope cl C X.env) fp) G W0 elt te)
    (hy : X.N[i]? = some y := by rfl) (hyl : X.env.scope.names.lookup y = some .local := by rfl) (hsw : swapsWith (.ListComp elt [⟨tg, iter, ifs, 0⟩] scope lpos) (some (.Name y py)) spos.line X.env = pure true := by exact sw_true rfl rfl rfl (by decide +kernel))
    (hS : ∀ i ∈ S, i ∈ own.map (·.2) := by decide) (hs : ∀ x, foldedSetIterable iter X.env x = pure x := by intro _; rfl) :
    DS X G W (.Assign [.Name y py] (.ListComp elt [⟨tg, iter, ifs, 0⟩] scope lpos) spos) (sSet i (eLc fin mi g tt te (own.map (·.2)))) := by
  refine PS.imp (ps_setLc hc hN hy hyl hsw hi ok hg ht he hs) ?_
  rintro D σ H ⟨w, μ, ρ, hl, he, p⟩
  apply lc_imp hf hS
  exact tD.seqS (k := fun ρ b μ => .ok (.nx (ρ.set i (some b))) μ) hl he p fun w1 μ1 H1 v b l1 lay1 en1 r1 p1 => p1 w1 _ H1 w1.le_refl lay1 (en1.set i r1)
end

/-! ### calls with keywords -/
def pickL {α : Type} (d : α) (ix : List Nat) (l : List α) : List α := ix.map fun i => l.getD i d
def eCallK (n m : Nat) (ix : List Nat) (F : OpN) (a k : MA) : ME := fun ρ μ => (a ρ μ).bind fun bs μ => (k ρ μ).bind fun cs μ => if cs.length = m then fCall n F (pickL (.d .none) ix (bs ++ cs)) μ else .bad
abbrev DK (X : Cx) (G : GT) (W : WX) (ks : List Keyword) (m : MA) : Prop := PK X ks (tA G W m)
section
variable {X : Cx} {G : GT} {W : WX} {e : Expr} {es : List Expr} {kws : List Keyword} {ma : ME} {mas mks : MA} {pos p kpos : Pos} {x : Str} {nm : Option Str} {k n : Nat} {f : Addr} {fd : FuncData} {ps ks : List Str} {F : OpN} {ix : List Nat}
theorem PK.imp {t t' : TA} (h : PK X kws t) (i : ∀ σ H Q, t' σ H Q → t σ H Q) : PK X kws t' := ⟨fun po p s σ H Q I hw => h.run po p s σ H Q I (i _ _ _ hw)⟩
theorem dk_nil : DK X G W [] aNil := by
  refine PK.imp pk_nil ?_
  rintro σ H Q ⟨w, μ, ρ, hl, he, p⟩
  exact p w [] H w.le_refl hl .nil
theorem dk_cons (ha : DE X G W e ma) (hr : DK X G W kws mks) : DK X G W (⟨nm, e, kpos⟩ :: kws) (aCons ma mks) := PK.imp (pk_cons ha hr) acons_imp
theorem pick_vals {vs : List V} {us : List Value} (r : Vals vs us) : ∀ ix : List Nat, Vals (pickL .non ix vs) (pickL .none ix us)
  | [] => .nil
  | i :: ix => by
    refine .cons ?_ (pick_vals r ix)
    cases e : vs[i]? with
    | none =>
      have e2 := r.none_of e
      simp only [List.getD, e, e2]
      rfl
    | some v =>
      obtain ⟨u, e2, q⟩ := r.get e
      simp only [List.getD, e, e2]
      exact q
theorem pick_rvs {w : Wd} {vs : List V} {bs : List Dv} (r : Rvs G w vs bs) : ∀ ix : List Nat, Rvs G w (pickL .non ix vs) (pickL (.d .none) ix bs)
  | [] => .nil
  | i :: ix => by
    refine .cons ?_ (pick_rvs r ix)
    have hl := Paired.length r
    cases e : bs[i]? with
    | none =>
      have e2 : vs[i]? = none := List.getElem?_eq_none (by have := List.getElem?_eq_none_iff.mp e; omega)
      simp only [List.getD, e, e2]
      exact .non
    | some b =>
      obtain ⟨v, e2, q⟩ := r.at e
      simp only [List.getD, e, e2]
      exact q
/-- f(k = v, ..), keywords alone -/
theorem de_callK0 (hF : FnG X.prog X.w X.K X.mg X.base k f fd ps (spD G n F)) (g : X.A.guards = some []) (hr : Room k X.A) (hg : Gl X x) (hm : X.mg x = some (.ref f)) (hk : PySem.W.keepIn X.K (.ref f) = true)
    (hb : ∀ (s : Shared) (ws : List Value), ws.length = ks.length → BindsTo s fd ⟨[] ++ [], ks.zip ws⟩ (ps.zip (pickL .none ix ws))) (tk : Takes X W)
    (hkw : DK X G W kws mks) (hall : (backToKw pos (keywordEach kws X.env)).all (·.1.isSome) = true := by rfl) (hks : (backToKw pos (keywordEach kws X.env)).filterMap (·.1) = ks := by rfl)
    (hdb : (x == ("__debug__" : Str)) = false := by decide) (hpl : ((backTo pos (starEach [] X.env)).any (·.1) || (backToKw pos (keywordEach kws X.env)).any (·.1.isNone)) = false := by rfl) :
    DE X G W (.Call (.Name x p) [] kws pos) (eCallK n ks.length ix F aNil mks) := by
  constructor
  rintro pins s σ H Q I ⟨w, μ, ρ, hl, he, pp⟩
  apply wpAny_Call_Name_kw
  apply ld_glob I hg hm _ hdb
  apply PySem.W.callWith_KW0 (h₀ := X.base) I.ok.mod.kin hk hall _ hpl
  have pp : Pst G W σ (Rv G) w ((mks ρ μ).bind fun cs μ => if cs.length = ks.length then fCall n F (pickL (.d .none) ix ([] ++ cs)) μ else .bad) Q := pp
  apply thn (hkw.run pos pins s σ H (fun zs H2 => zs.length = ks.length ∧ (spD G n F) (pickL .non ix zs) H2 Q (WE W σ)) I (tD.seq (k := fun ρ cs μ => if cs.length = ks.length then fCall n F (pickL (.d .none) ix ([] ++ cs)) μ else .bad) hl he pp fun w1 μ1 H1 vs bs l1 lay1 en1 r1 p1 => ?_))
  · rintro ws s1 ⟨zs, H1, I1, r, hz, q⟩
    refine ⟨I1.kIn, ?_⟩
    rw [hks]
    apply wpAny_call
    apply codeAny_mono (runG hF g hr (fun _ _ _ _ _ I c => passAt tk σ _ _ _ _ _ I c) I1 (hb s1 ws (by rw [← r.length]; exact hz)) (pick_vals r ix) q)
    rintro (e | fl) s' q
    · exact q
    · cases fl with
      | ret u => exact q
      | next => exact q.elim
      | brk => exact q.elim
      | cont => exact q.elim
  · by_cases hb : bs.length = ks.length
    · simp only [if_pos hb, List.nil_append] at p1
      refine ⟨by rw [Paired.length r1]; exact hb, ?_⟩
      unfold fCall at p1
      by_cases q : (pickL (.d .none) ix bs).length = n
      · rw [if_pos q] at p1
        refine ⟨?_, w1, μ1, _, lay1, pick_rvs r1 ix, ?_⟩
        · rw [← q, pickL, pickL, List.length_map, List.length_map]
        · cases z : F (pickL (.d .none) ix bs) μ1 with
          | ok c μ2 => rw [z] at p1; exact p1
          | ex c μ2 => rw [z] at p1; exact p1
          | bad => rw [z] at p1; exact p1
      · rw [if_neg q] at p1
        exact p1.elim
    · simp only [if_neg hb] at p1
      exact p1.elim
end
end DL

/-! The data layer: built-in functions, methods of texts, what is walked. -/
namespace DL
open PySem PySem.Spec PyProof.Rows L2

theorem CallR.or {X : Cx} {f : Value} {r r' : List V → Hp → VK → Prop} (h : CallR X f r) (h' : CallR X f r') : CallR X f (fun xs H Q => r xs H Q ∨ r' xs H Q) := by
  intro pins s σ H xs us Q I rx q
  rcases q with q | q
  · exact h pins s σ H xs us Q I rx q
  · exact h' pins s σ H xs us Q I rx q
theorem MtR.or {X : Cx} {f : String} {r r' : V → List V → Hp → VK → Prop} (h : MtR X f r) (h' : MtR X f r') : MtR X f (fun x xs H Q => r x xs H Q ∨ r' x xs H Q) := by
  intro pins s σ H x xs v us Q I rv rx q
  rcases q with q | q
  · exact h pins s σ H x xs v us Q I rv rx q
  · exact h' pins s σ H x xs v us Q I rv rx q

/-! ### one, two arguments -/
def n1 (f : Dv → Store → Out Dv) : OpN := fun bs μ => match bs with
  | [b] => f b μ
  | _ => .bad
def n2 (f : Dv → Dv → Store → Out Dv) : OpN := fun bs μ => match bs with
  | [b, c] => f b c μ
  | _ => .bad
section
variable {G : GT}
theorem ok_n1 {r : List V → Hp → VK → Prop} {f : Dv → Store → Out Dv} (h : ∀ (W : WX) (σ : L2.St) (w : Wd) (μ : Store) (H : Hp) (x : V) (b : Dv) (Q : VK), Lay G w μ H → Rv G w x b → Pst G W σ (Rv G) w (f b μ) Q → r [x] H Q) : OkN G r (n1 f) := by
  intro W σ w μ H xs bs Q l r p
  match bs, r, p with
  | [b], .cons r .nil, p => exact h W σ w μ H _ b Q l r p
  | [], _, p => exact p.elim
  | _ :: _ :: _, _, p => exact p.elim
theorem ok_n2 {r : List V → Hp → VK → Prop} {f : Dv → Dv → Store → Out Dv} (h : ∀ (W : WX) (σ : L2.St) (w : Wd) (μ : Store) (H : Hp) (x y : V) (b c : Dv) (Q : VK), Lay G w μ H → Rv G w x b → Rv G w y c → Pst G W σ (Rv G) w (f b c μ) Q → r [x, y] H Q) : OkN G r (n2 f) := by
  intro W σ w μ H xs bs Q l r p
  match bs, r, p with
  | [b, c], .cons r (.cons r' .nil), p => exact h W σ w μ H _ _ b c Q l r r' p
  | [], _, p => exact p.elim
  | [_], _, p => exact p.elim
  | _ :: _ :: _ :: _, _, p => exact p.elim

def dLen : OpN := n1 fun b μ => match b with
  | .d (.str z) => if z.length ≤ sizeLine then .ok (.d (.int z.length)) μ else .bad
  | b => match itemsA b μ with
    | some xs => .ok (.d (.int xs.length)) μ
    | none => .bad
theorem ok_len : OkN G (fun xs H Q => ∃ x n, xs = [x] ∧ LenV G.K x H n ∧ Q (.int n) H) dLen := by
  apply ok_n1
  intro W σ w μ H x b Q l r p
  split at p
  · split at p
    · rename_i h
      rw [rv_str r]
      exact ⟨_, _, rfl, ⟨h, rfl⟩, p w _ H w.le_refl l (.int _)⟩
    · exact p.elim
  · split at p
    · rename_i xs h
      obtain ⟨a, vs, rfl, g1, g2⟩ := itemsA_ok l r h
      refine ⟨_, xs.length, rfl, ?_, p w _ H w.le_refl l (.int _)⟩
      rcases g1 with g1 | g1
      · exact .inl ⟨vs, g1, (Paired.length g2).symm⟩
      · exact .inr ⟨vs, g1, (Paired.length g2).symm⟩
    · exact p.elim
def dInt : OpN := n1 fun b μ => match b with
  | .d (.int i) => .ok (.d (.int i)) μ
  | .d (.bool k) => .ok (.d (.int (if k then 1 else 0))) μ
  | .d (.str z) => match PySem.intText? z with
    | some n => if z.length ≤ 640 then .ok (.d (.int n)) μ else .bad
    | none => .bad
  | _ => .bad
def rInt1 : List V → Hp → VK → Prop := fun xs H Q => (∃ i, xs = [.int i] ∧ Q (.int i) H) ∨ ∃ k, xs = [.bl k] ∧ Q (.int (if k then 1 else 0)) H
def rIntS : List V → Hp → VK → Prop := fun xs H Q => ∃ a n, xs = [.str a] ∧ PySem.intText? a = some n ∧ a.length ≤ 640 ∧ Q (.int n) H
theorem call_intA {X : Cx} : CallR X (.type "int") (fun xs H Q => rInt1 xs H Q ∨ rIntS xs H Q) := CallR.or (r := rInt1) (r' := rIntS) call_int1 call_int_str
theorem ok_int : OkN G (fun xs H Q => rInt1 xs H Q ∨ rIntS xs H Q) dInt := by
  apply ok_n1
  intro W σ w μ H x b Q l r p
  split at p
  · rw [rv_int r]; exact .inl (.inl ⟨_, rfl, p w _ H w.le_refl l (.int _)⟩)
  · rw [rv_bl r]; exact .inl (.inr ⟨_, rfl, p w _ H w.le_refl l (.int _)⟩)
  · split at p
    · rename_i h
      split at p
      · rename_i h2
        rw [rv_str r]; exact .inr ⟨_, _, rfl, h, h2, p w _ H w.le_refl l (.int _)⟩
      · exact p.elim
    · exact p.elim
  · exact p.elim
def dStr : OpN := n1 fun b μ => match b with
  | .d (.int i) => if i.natAbs.log2 < 1920 then .ok (.d (.str (toString i))) μ else .bad
  | .d (.str z) => .ok (.d (.str z)) μ
  | _ => .bad
def rStrI : List V → Hp → VK → Prop := fun xs H Q => ∃ i, xs = [.int i] ∧ i.natAbs.log2 < 1920 ∧ Q (.str (toString i)) H
def rStrS : List V → Hp → VK → Prop := fun xs H Q => ∃ a, xs = [.str a] ∧ Q (.str a) H
theorem call_strA {X : Cx} : CallR X (.type "str") (fun xs H Q => rStrI xs H Q ∨ rStrS xs H Q) := CallR.or (r := rStrI) (r' := rStrS) call_str_int SkE.call_str_str
theorem ok_str : OkN G (fun xs H Q => rStrI xs H Q ∨ rStrS xs H Q) dStr := by
  apply ok_n1
  intro W σ w μ H x b Q l r p
  split at p
  · split at p
    · rename_i h
      rw [rv_int r]; exact .inl ⟨_, rfl, h, p w _ H w.le_refl l (.str _)⟩
    · exact p.elim
  · rw [rv_str r]; exact .inr ⟨_, rfl, p w _ H w.le_refl l (.str _)⟩
  · exact p.elim
def dAbs : OpN := n1 fun b μ => match b with
  | .d (.int i) => .ok (.d (.int (if i < 0 then -i else i))) μ
  | _ => .bad
theorem ok_abs : OkN G (fun xs H Q => ∃ i, xs = [.int i] ∧ Q (.int (if i < 0 then -i else i)) H) dAbs := by
  apply ok_n1
  intro W σ w μ H x b Q l r p
  split at p
  · rw [rv_int r]; exact ⟨_, rfl, p w _ H w.le_refl l (.int _)⟩
  · exact p.elim
def dMax : OpN := n2 fun b c μ => match b, c with
  | .d (.int i), .d (.int j) => .ok (.d (.int (if j > i then j else i))) μ
  | _, _ => .bad
theorem ok_max : OkN G (fun xs H Q => ∃ i j, xs = [.int i, .int j] ∧ Q (.int (if j > i then j else i)) H) dMax := by
  apply ok_n2
  intro W σ w μ H x y b c Q l r r' p
  split at p
  · rw [rv_int r, rv_int r']; exact ⟨_, _, rfl, p w _ H w.le_refl l (.int _)⟩
  · exact p.elim
def dMin : OpN := n2 fun b c μ => match b, c with
  | .d (.int i), .d (.int j) => .ok (.d (.int (if j < i then j else i))) μ
  | _, _ => .bad
theorem ok_min : OkN G (fun xs H Q => ∃ i j, xs = [.int i, .int j] ∧ Q (.int (if j < i then j else i)) H) dMin := by
  apply ok_n2
  intro W σ w μ H x y b c Q l r r' p
  split at p
  · rw [rv_int r, rv_int r']; exact ⟨_, _, rfl, p w _ H w.le_refl l (.int _)⟩
  · exact p.elim
def allB : List Dv → Option (List Bool)
  | [] => some []
  | .d (.bool k) :: r => match allB r with
    | some ks => some (k :: ks)
    | none => none
  | _ => none
theorem allB_map : ∀ ks : List Bool, allB (ks.map fun k => .d (.bool k)) = some ks
  | [] => rfl
  | k :: ks => by rw [List.map_cons, allB, allB_map ks]
theorem allB_eq : ∀ {bs : List Dv} {ks : List Bool}, allB bs = some ks → bs = (ks.map PyData.bool).map Dv.d
  | [], _, h => by cases h; rfl
  | .d (.bool k) :: r, _, h => by
    unfold allB at h
    cases q : allB r with
    | none => rw [q] at h; cases h
    | some xs => rw [q] at h; cases h; rw [allB_eq q]; rfl
def dAll (f : List Bool → Bool) : OpN := n1 fun b μ => match items b μ with
  | some bs => match allB bs with
    | some ks => .ok (.d (.bool (f ks))) μ
    | none => .bad
  | none => .bad
theorem bools_ok {w : Wd} {μ : Store} {H : Hp} {x : V} {b : Dv} {bs : List Dv} {ks : List Bool} (l : Lay G w μ H) (r : Rv G w x b) (h : items b μ = some bs) (h2 : allB bs = some ks) : ∃ a, x = .ref a ∧ SqL G.K H a (ks.map V.bl) := by
  obtain ⟨a, vs, rfl, g1, g2⟩ := items_ok l r h
  rw [allB_eq h2] at g2
  rw [rv_bls (RpA_of_Rvs g2)] at g1
  exact ⟨a, rfl, g1⟩
theorem ok_all : OkN G (rAll G.K) (dAll fun ks => ks.all id) := by
  apply ok_n1
  intro W σ w μ H x b Q l r p
  split at p
  · rename_i bs h
    split at p
    · rename_i ks h2
      obtain ⟨a, rfl, g⟩ := bools_ok l r h h2
      exact ⟨a, ks, rfl, g, p w _ H w.le_refl l (.bl _)⟩
    · exact p.elim
  · exact p.elim
theorem ok_any : OkN G (rAny G.K) (dAll fun ks => ks.any id) := by
  apply ok_n1
  intro W σ w μ H x b Q l r p
  split at p
  · rename_i bs h
    split at p
    · rename_i ks h2
      obtain ⟨a, rfl, g⟩ := bools_ok l r h h2
      exact ⟨a, ks, rfl, g, p w _ H w.le_refl l (.bl _)⟩
    · exact p.elim
  · exact p.elim
def allI : List Dv → Option (List Int)
  | [] => some []
  | .d (.int k) :: r => match allI r with
    | some ks => some (k :: ks)
    | none => none
  | _ => none
theorem allI_map : ∀ ks : List Int, allI (ks.map fun k => .d (.int k)) = some ks
  | [] => rfl
  | k :: ks => by rw [List.map_cons, allI, allI_map ks]
theorem allI_eq : ∀ {bs : List Dv} {ks : List Int}, allI bs = some ks → bs = (ks.map PyData.int).map Dv.d
  | [], _, h => by cases h; rfl
  | .d (.int k) :: r, _, h => by
    unfold allI at h
    cases q : allI r with
    | none => rw [q] at h; cases h
    | some xs => rw [q] at h; cases h; rw [allI_eq q]; rfl
def dSum : OpN := n1 fun b μ => match items b μ with
  | some bs => match allI bs with
    | some ks => .ok (.d (.int ks.sum)) μ
    | none => .bad
  | none => .bad
theorem ok_sum : OkN G (rSum G.K) dSum := by
  apply ok_n1
  intro W σ w μ H x b Q l r p
  split at p
  · rename_i bs h
    split at p
    · rename_i ks h2
      obtain ⟨a, vs, rfl, g1, g2⟩ := items_ok l r h
      rw [allI_eq h2] at g2
      rw [rv_ints (RpA_of_Rvs g2)] at g1
      exact ⟨a, ks, rfl, g1, p w _ H w.le_refl l (.int _)⟩
    · exact p.elim
  · exact p.elim

/-! ### repr -/
def rRepr (K : PySem.W.Frag) : List V → Hp → VK → Prop := fun xs H Q => ∃ x d, xs = [x] ∧ Dp K H x d ∧ d.showable = true ∧ d.hasDict = false ∧ d.depth ≤ 40 ∧ d.shown.length ≤ sizeLine ∧ Q (.str d.shown) H
theorem call_reprA {X : Cx} (g : X.A.guards = some []) (hu : X.A.units + 64 < cLine) : CallR X (.builtin "repr") (rRepr X.K) := by
  intro pins s σ H xs us Q I r h
  obtain ⟨x, d, rfl, dp, sh, nd, dep, sz, q⟩ := h
  obtain ⟨u, rfl, r1⟩ := vals1 r
  obtain ⟨as, rd⟩ := Dp.reads I d x u dp r1
  have fin : ∀ h' u tk, (∀ b o, s.heap.get? b = some o → h'.get? b = some o) → EP X pins σ Q (.str d.shown u) { s with heap := h', toks := tk } := fun h' u tk hk => ⟨.str d.shown, H, I.kept hk, ⟨u, rfl⟩, q⟩
  have go : isDisplay d = true → wpAny (model X.prog X.w) X.A (call (.builtin "repr") [u]) (EP X pins σ Q) X.xe s := fun hd => by
    obtain ⟨a, rfl⟩ := isRef_of_reads rd hd
    exact repr_of_reads' rd sh (PyData.noDict_hsm nd) g (by omega) (fun _ _ e => e) fin sz
  cases d with
  | none => cases rd; exact PySem.P.repr_of_none (fin s.heap _ _ fun _ _ e => e)
  | bool b => cases rd; exact PySem.P.repr_of_bool (fin s.heap _ _ fun _ _ e => e)
  | int i => cases rd; exact PySem.P.repr_of_int (by simpa [PyData.showable] using sh) (fin s.heap _ _ fun _ _ e => e)
  | str z => cases rd; exact PySem.P.repr_of_str (fin s.heap _ _ fun _ _ e => e) (hsz := by simpa [PyData.shown] using sz)
  | list ds => exact go rfl
  | tuple ds => exact go rfl
  | dict ds => cases dp
def dRepr : OpN := n1 fun b μ => match view b μ with
  | some d => if (d.showable && nodict d && !d.hasDict && decide (d.depth ≤ 40) && decide (d.shown.length ≤ sizeLine)) = true then .ok (.d (.str d.shown)) μ else .bad
  | none => .bad
theorem ok_repr : OkN G (rRepr G.K) dRepr := by
  apply ok_n1
  intro W σ w μ H x b Q l r p
  split at p
  · rename_i d h
    split at p
    · rename_i h2
      simp only [Bool.and_eq_true, decide_eq_true_eq, Bool.not_eq_true'] at h2
      exact ⟨x, d, rfl, Rp.dp _ _ h2.1.1.1.2 (view_ok l r h), h2.1.1.1.1, h2.1.1.2, h2.1.2, h2.2, p w _ H w.le_refl l (.str _)⟩
    · exact p.elim
  · exact p.elim
end
end DL

/-! The data layer: what is walked, methods of texts, cells frozen. -/
namespace DL
open PySem PySem.Spec PyProof.Rows L2

/-! ### what is walked -/
def signs (z : Str) : List Dv := z.cps.toList.map fun c => .d (.str ⟨#[c]⟩)
/-- a frozen list, a tuple, a text -/
def walkD : Dv → Store → Out (List Dv)
  | .d (.str z), μ => .ok (signs z) μ
  | .d (.list ds), μ => .ok (ds.map .d) μ
  | .d (.tuple ds), μ => .ok (ds.map .d) μ
  | _, _ => .bad
def iSeq (a : ME) : MI := fun ρ μ => (a ρ μ).bind walkD
section
variable {G : GT} {w : Wd}
theorem it_tup {a : Addr} {vs : List V} {bs : List Dv} (hs : SqT G.K w.I a vs) (r : Rvs G w vs bs) : ItR G w (Itt G.K a) bs where
  go := fun i w' μ H hi l lay => ⟨vs, vs[i]'(by rw [Paired.length r]; exact hi), seqT (Same.trans l.1 lay.same) hs, by simp⟩
  yld := fun i b w' μ H x H' e l lay y => by
    obtain ⟨rfl, y⟩ := y
    obtain ⟨v, e1, q⟩ := r.at e
    have := y vs (seqT (Same.trans l.1 lay.same) hs)
    rw [e1] at this
    cases this
    exact ⟨w', w'.le_refl, lay, q.mono l⟩
  stop := fun i w' μ H hi l lay => ⟨vs, seqT (Same.trans l.1 lay.same) hs, by rw [Paired.length r]; exact hi⟩
theorem it_str (z : Str) : ItR G w (Its z) (signs z) where
  go := fun i w' μ H hi l lay => by
    have hi : i < z.cps.toList.length := by simpa [signs] using hi
    show i < z.cps.size
    simpa using hi
  yld := fun i b w' μ H x H' e l lay y => by
    obtain ⟨rfl, c, e1, rfl⟩ := y
    unfold signs at e
    rw [List.getElem?_map, Array.getElem?_toList, e1] at e
    cases e
    exact ⟨w', w'.le_refl, lay, .str _⟩
  stop := fun i w' μ H hi l lay => by
    have hi : z.cps.toList.length ≤ i := by simpa [signs] using hi
    show z.cps.size ≤ i
    simpa using hi
theorem it_range (lo : Int) (n : Nat) : ItR G w (Itr lo n) ((List.range n).map fun (i : Nat) => Dv.d (.int (lo + (i : Int)))) where
  go := fun i w' μ H hi l lay => by
    rw [List.length_map, List.length_range] at hi
    exact hi
  yld := fun i b w' μ H x H' e l lay y => by
    obtain ⟨rfl, rfl⟩ := y
    rw [List.getElem?_map] at e
    cases q : (List.range n)[i]? with
    | none => rw [q] at e; cases e
    | some j =>
      rw [q] at e
      cases e
      obtain ⟨h1, h2⟩ := List.getElem?_eq_some_iff.mp q
      rw [List.getElem_range] at h2
      subst h2
      exact ⟨w', w'.le_refl, lay, .int _⟩
  stop := fun i w' μ H hi l lay => by
    rw [List.length_map, List.length_range] at hi
    exact hi
end
def iAny (K : PySem.W.Frag) (te : TE) : TI := fun σ H R => te σ H fun x H1 => (∃ a, x = .ref a ∧ (∃ xs, SqL K H1 a xs) ∧ R (Itl K a) H1) ∨ (∃ a, x = .ref a ∧ (∃ xs, SqT K H1 a xs) ∧ R (Itt K a) H1) ∨ ∃ z, x = .str z ∧ R (Its z) H1
section
variable {X : Cx} {G : GT} {W : WX} {tg e : Expr} {es : List Expr} {m : ME} {mas : MA} {pos p : Pos}
theorem pi_any {te : TE} (he : PE X e te) : PI X tg e (iAny X.K te) := by
  constructor
  intro pins s σ H R I h
  apply thn (he.run pins s σ H _ I h)
  rintro v s1 ⟨x, H1, I1, r1, ⟨a, rfl, ⟨xs, hq⟩, q⟩ | ⟨a, rfl, ⟨xs, hq⟩, q⟩ | ⟨z, rfl, q⟩⟩
  · cases r1
    obtain ⟨its, rv, pl, _⟩ := I1.list hq
    apply wpAny_pyIter_list pl.isList
    exact pi_one (tk := s1.toks) I1 _ (turn_list a _) ⟨_, Heap.get?_push_size _ rfl, rfl, rfl⟩ q
  · cases r1
    obtain ⟨its, rv, pt, _⟩ := I1.tuple hq
    apply wpAny_pyIter_tuple (show s1.heap.IsTuple a its.toArray from pt)
    exact pi_one (tk := s1.toks) I1 _ (turn_tuple a _) ⟨_, Heap.get?_push_size _ rfl, rfl, rfl⟩ q
  · obtain ⟨t, rfl⟩ := r1
    by_cases ha : z.cps.all (· < 128) = true
    · exact wpAny_pyIter_ascii ha (pi_one (tk := s1.toks) I1 _ (turn_str _ z t "str_ascii_iterator" (Or.inl rfl)) ⟨_, Heap.get?_push_size _ rfl, rfl, rfl⟩ q)
    · exact wpAny_pyIter_wide (by simpa using ha) (pi_one (tk := s1.toks) I1 _ (turn_str _ z t "str_iterator" (Or.inr rfl)) ⟨_, Heap.get?_push_size _ rfl, rfl, rfl⟩ q)
theorem it_listX {w : Wd} {a : Addr} {vs : List V} {bs : List Dv} (hs : SqL G.K w.I a vs) (r : Rvs G w vs bs) : ItR G w (Itl G.K a) bs where
  go := fun i w' μ H hi l lay => ⟨vs, vs[i]'(by rw [Paired.length r]; exact hi), seqL (Same.trans l.1 lay.same) hs, by simp⟩
  yld := fun i b w' μ H x H' e l lay y => by
    obtain ⟨rfl, y⟩ := y
    obtain ⟨v, e1, q⟩ := r.at e
    have := y vs (seqL (Same.trans l.1 lay.same) hs)
    rw [e1] at this
    cases this
    exact ⟨w', w'.le_refl, lay, q.mono l⟩
  stop := fun i w' μ H hi l lay => ⟨vs, seqL (Same.trans l.1 lay.same) hs, by rw [Paired.length r]; exact hi⟩
theorem di_seq (hK : X.K = G.K) (he : DE X G W e m) : DI X G W tg e (iSeq m) := by
  refine PI.imp (pi_any he) ?_
  rintro σ H Q ⟨w, μ, ρ, hl, he, p⟩
  refine tD.seq (k := fun ρ x μ => walkD x μ) hl he p fun w1 μ1 H1 v b l1 lay1 en1 r1 p1 => ?_
  unfold walkD at p1
  split at p1
  · rename_i z
    rw [rv_str r1]
    exact .inr (.inr ⟨z, rfl, p1 w1 _ H1 w1.le_refl lay1 (it_str z)⟩)
  · obtain ⟨a, vs, rfl, g1, g2⟩ := rv_lst r1
    exact .inl ⟨a, rfl, ⟨vs, by rw [hK]; exact seqL lay1.same g1⟩, p1 w1 _ H1 w1.le_refl lay1 (by rw [hK]; exact it_listX g1 (Rvs_of_RpA g2))⟩
  · obtain ⟨a, vs, rfl, g1, g2⟩ := rv_tup r1
    exact .inr (.inl ⟨a, rfl, ⟨vs, by rw [hK]; exact seqT lay1.same g1⟩, p1 w1 _ H1 w1.le_refl lay1 (by rw [hK]; exact it_tup g1 (Rvs_of_RpA g2))⟩)
  · exact p1.elim
def okR (i : Int) : Bool := decide (-(2 ^ 62) ≤ i) && decide (i < 2 ^ 62)
def rng1 : List Dv → Store → Out (List Dv)
  | [.d (.int j)], μ => if okR j = true then .ok ((List.range j.toNat).map fun (i : Nat) => Dv.d (.int i)) μ else .bad
  | _, _ => .bad
def rng2 : List Dv → Store → Out (List Dv)
  | [.d (.int i), .d (.int j)], μ => if (okR i && okR j) = true then .ok ((List.range (j - i).toNat).map fun (k : Nat) => Dv.d (.int (i + k))) μ else .bad
  | _, _ => .bad
def iRng (f : List Dv → Store → Out (List Dv)) (a : MA) : MI := fun ρ μ => (a ρ μ).bind f
theorem di_range1 {a : Expr} (hg : Gl X "range") (hm : X.mg "range" = none) (ha : DA X G W [a] mas) (hs : starEach [a] X.env = [(false, eval a X.env)] := by rfl) : DI X G W tg (.Call (.Name "range" p) [a] [] pos) (iRng rng1 mas) := by
  refine PI.imp (pi_range1 hg hm ha hs) ?_
  rintro σ H Q ⟨w, μ, ρ, hl, he, pp⟩
  refine tD.seq (k := fun ρ xs μ => rng1 xs μ) hl he pp fun w1 μ1 H1 v b l1 lay1 en1 r1 p1 => ?_
  unfold rng1 at p1
  split at p1
  · rename_i j
    split at p1
    · rename_i h
      unfold okR at h
      simp only [Bool.and_eq_true, decide_eq_true_eq] at h
      cases r1 with
      | cons r t =>
        cases t
        rw [rv_int r]
        have z := it_range (G := G) (w := w1) 0 j.toNat
        have : (List.range j.toNat).map (fun (i : Nat) => Dv.d (.int (0 + (i : Int)))) = (List.range j.toNat).map fun (i : Nat) => Dv.d (.int (i : Int)) := by simp only [Int.zero_add]
        rw [this] at z
        exact ⟨j, rfl, h.1, h.2, p1 w1 _ H1 w1.le_refl lay1 z⟩
    · exact p1.elim
  · exact p1.elim
theorem di_range2 {a b : Expr} (hg : Gl X "range") (hm : X.mg "range" = none) (ha : DA X G W [a, b] mas) (hs : starEach [a, b] X.env = [(false, eval a X.env), (false, eval b X.env)] := by rfl) (hs2 : starEach [b] X.env = [(false, eval b X.env)] := by rfl) :
    DI X G W tg (.Call (.Name "range" p) [a, b] [] pos) (iRng rng2 mas) := by
  refine PI.imp (pi_range2 hg hm ha hs hs2) ?_
  rintro σ H Q ⟨w, μ, ρ, hl, he, pp⟩
  refine tD.seq (k := fun ρ xs μ => rng2 xs μ) hl he pp fun w1 μ1 H1 v b l1 lay1 en1 r1 p1 => ?_
  unfold rng2 at p1
  split at p1
  · rename_i i j
    split at p1
    · rename_i h
      unfold okR at h
      simp only [Bool.and_eq_true, decide_eq_true_eq] at h
      cases r1 with
      | cons r t =>
        cases t with
        | cons r' t =>
          cases t
          rw [rv_int r, rv_int r']
          exact ⟨i, j, rfl, ⟨h.1.1, h.1.2, h.2.1, h.2.2⟩, p1 w1 _ H1 w1.le_refl lay1 (it_range i _)⟩
    · exact p1.elim
  · exact p1.elim
end

/-! ### a cell that is changed no more -/
def dFrz : Op1 := fun x μ => match x with
  | .d y => .ok (.d y) μ
  | .c n => match μ[n]? with
    | some (.lst xs) => match allD xs with
      | some ds => .ok (.d (.list ds)) (μ.set n .dead)
      | none => .bad
    | _ => .bad
  | .f _ => .bad
theorem Lay.freeze {G : GT} {w : Wd} {μ : Store} {H : Hp} (l : Lay G w μ H) {n : Nat} {a : Addr} {vs : List V} (ha : w.α[n]? = some a) (nI : w.I a = none) (e : H a = some (.lst vs)) : w.le (w.put a (.lst vs)) ∧ Lay G (w.put a (.lst vs)) (μ.set n .dead) H := by
  have nF := l.fd a (List.mem_of_getElem? ha)
  refine ⟨⟨same_upd nI, List.prefix_refl _, Same.refl _⟩, fun b u q => ?_, by rw [List.length_set]; exact l.len, l.nd, l.lv, l.fr, l.fd, fun b u q => ?_, fun m c b q1 q2 => ?_⟩
  · by_cases z : b = a
    · subst z; have q : upd w.I b (.lst vs) b = some u := q; rw [upd_same] at q; rw [← q]; exact e
    · have q : upd w.I a (.lst vs) b = some u := q; rw [upd_ne z] at q; exact l.same b u q
  · have : b ≠ a := fun z => by rw [z, nF] at q; cases q
    show upd w.I a _ b = none
    rw [upd_ne this]; exact l.di b u q
  · by_cases z : n = m
    · subst z
      have hn : n < μ.length := by rw [← l.len]; exact (List.getElem?_eq_some_iff.mp ha).1
      rw [List.getElem?_set_self hn] at q1
      cases q1
      trivial
    · rw [List.getElem?_set_ne z] at q1
      have ne : b ≠ a := fun y => z (get_nodup l.nd ha (y ▸ q2))
      exact CellAt.cong (w' := w.put a (.lst vs)) (fun z => by show upd w.I a _ b = none; rw [upd_ne ne]; exact z) ⟨same_upd nI, List.prefix_refl _⟩ rfl (l.at_ m c b q1 q2)
section
variable {X : Cx} {G : GT} {W : WX} {e : Expr} {m : ME}
theorem de_frz (he : DE X G W e m) : DE X G W e (e1 dFrz m) := by
  refine PE.imp he ?_
  rintro σ H Q ⟨w, μ, ρ, hl, he, p⟩
  refine ⟨w, μ, ρ, hl, he, ?_⟩
  have p : Pst G W σ (Rv G) w ((m ρ μ).bind fun x μ => dFrz x μ) Q := p
  cases q : m ρ μ with
  | bad => rw [q] at p; exact p.elim
  | ex _ _ => rw [q] at p; exact p
  | ok b μ1 =>
    rw [q] at p
    intro w1 v H1 l1 lay1 r1
    have p1 : Pst G W σ (Rv G) w (dFrz b μ1) Q := p
    have p1 := Pst.mono l1 p1
    cases b with
    | d x => exact p1 w1 v H1 w1.le_refl lay1 r1
    | f n => exact p1.elim
    | c n =>
      unfold dFrz at p1
      simp only at p1
      cases e : μ1[n]? with
      | none => simp only [e] at p1; exact p1.elim
      | some cl =>
        cases cl with
        | lst xs =>
          simp only [e] at p1
          cases q2 : allD xs with
          | none => simp only [q2] at p1; exact p1.elim
          | some ds =>
            simp only [q2] at p1
            obtain ⟨a, g1, rfl⟩ := r1
            obtain ⟨nI, vs, g2, g3⟩ := lay1.at_ n _ a e g1
            obtain ⟨le, l2⟩ := lay1.freeze g1 nI g2
            rw [allD_eq q2] at g3
            exact p1 _ _ H1 le l2 (.lst (SqL.of upd_same) (RpA.mono le.1 _ _ (RpA_of_Rvs g3)))
        | _ => simp only [e] at p1; exact p1.elim
end

/-! ### methods of texts -/
def m0 (f : Str → Store → Out Dv) : Dv → OpN := fun x bs μ => match x, bs with
  | .d (.str a), [] => f a μ
  | _, _ => .bad
def m1 (f : Str → Dv → Store → Out Dv) : Dv → OpN := fun x bs μ => match x, bs with
  | .d (.str a), [b] => f a b μ
  | _, _ => .bad
def m2 (f : Str → Dv → Dv → Store → Out Dv) : Dv → OpN := fun x bs μ => match x, bs with
  | .d (.str a), [b, c] => f a b c μ
  | _, _ => .bad
section
variable {G : GT}
theorem ok_m0 {r : V → List V → Hp → VK → Prop} {f : Str → Store → Out Dv} (h : ∀ (W : WX) (σ : L2.St) (w : Wd) (μ : Store) (H : Hp) (a : Str) (Q : VK), Lay G w μ H → Pst G W σ (Rv G) w (f a μ) Q → r (.str a) [] H Q) : OkM G r (m0 f) := by
  intro W σ w μ H x xs b bs Q l r rr p
  unfold m0 at p
  split at p
  · cases rr; rw [rv_str r]; exact h W σ w μ H _ Q l p
  · exact p.elim
theorem ok_m1 {r : V → List V → Hp → VK → Prop} {f : Str → Dv → Store → Out Dv} (h : ∀ (W : WX) (σ : L2.St) (w : Wd) (μ : Store) (H : Hp) (a : Str) (y : V) (b : Dv) (Q : VK), Lay G w μ H → Rv G w y b → Pst G W σ (Rv G) w (f a b μ) Q → r (.str a) [y] H Q) : OkM G r (m1 f) := by
  intro W σ w μ H x xs b bs Q l r rr p
  unfold m1 at p
  split at p
  · cases rr with
    | cons r1 t => cases t; rw [rv_str r]; exact h W σ w μ H _ _ _ Q l r1 p
  · exact p.elim
theorem ok_m2 {r : V → List V → Hp → VK → Prop} {f : Str → Dv → Dv → Store → Out Dv} (h : ∀ (W : WX) (σ : L2.St) (w : Wd) (μ : Store) (H : Hp) (a : Str) (y z : V) (b c : Dv) (Q : VK), Lay G w μ H → Rv G w y b → Rv G w z c → Pst G W σ (Rv G) w (f a b c μ) Q → r (.str a) [y, z] H Q) : OkM G r (m2 f) := by
  intro W σ w μ H x xs b bs Q l r rr p
  unfold m2 at p
  split at p
  · cases rr with
    | cons r1 t =>
      cases t with
      | cons r2 t => cases t; rw [rv_str r]; exact h W σ w μ H _ _ _ _ _ Q l r1 r2 p
  · exact p.elim
def dPartition : Dv → OpN := m1 fun a b μ => match b with
  | .d (.str b) => if (b.length == 0) = false ∧ a.length ≤ sizeLine then .ok (.d (.tuple [.str (Txt.partition a b).1, .str (Txt.partition a b).2.1, .str (Txt.partition a b).2.2])) μ else .bad
  | _ => .bad
def dSplit : Dv → OpN := m1 fun a b μ => match b with
  | .d (.str b) => if (b.length == 0) = false ∧ a.length + 2 ≤ sizeLine then .ok (.d (.list ((Txt.split a b).map .str))) μ else .bad
  | _ => .bad
theorem ok_split : OkM G (fun x xs H Q => ∃ a b, x = .str a ∧ xs = [.str b] ∧ (b.length == 0) = false ∧ a.length + 2 ≤ sizeLine ∧ rNewStrs (Txt.split a b) H Q) dSplit := by
  apply ok_m1
  intro W σ w μ H a y b Q l r p
  split at p
  · split at p
    · rename_i h
      rw [rv_str r]
      refine ⟨a, _, rfl, rfl, h.1, h.2, fun q nq => ?_⟩
      obtain ⟨le, l2⟩ := l.new nq (.lst ((Txt.split a _).map V.str))
      exact p _ _ _ le l2 (.lst (SqL.of upd_same) (RpA_strs _))
    · exact p.elim
  · exact p.elim
def allS : List Dv → Option (List Str)
  | [] => some []
  | .d (.str k) :: r => match allS r with
    | some ks => some (k :: ks)
    | none => none
  | _ => none
theorem allS_map : ∀ ks : List Str, allS (ks.map fun k => .d (.str k)) = some ks
  | [] => rfl
  | k :: ks => by rw [List.map_cons, allS, allS_map ks]
theorem allS_eq : ∀ {bs : List Dv} {ks : List Str}, allS bs = some ks → bs = (ks.map PyData.str).map Dv.d
  | [], _, h => by cases h; rfl
  | .d (.str k) :: r, _, h => by
    unfold allS at h
    cases q : allS r with
    | none => rw [q] at h; cases h
    | some xs => rw [q] at h; cases h; rw [allS_eq q]; rfl
def dJoin : Dv → OpN := m1 fun a b μ => match itemsA b μ with
  | some bs => match allS bs with
    | some ys => if (ys.map (·.length)).sum + ys.length * a.length ≤ 16777216 then .ok (.d (.str (Txt.join a ys))) μ else .bad
    | none => .bad
  | none => .bad
theorem ok_join : OkM G (fun x xs H Q => ∃ a p, ∃ ys : List Str, x = .str a ∧ xs = [.ref p] ∧ (SqL G.K H p (ys.map V.str) ∨ SqT G.K H p (ys.map V.str)) ∧ (ys.map (·.length)).sum + ys.length * a.length ≤ 16777216 ∧ Q (.str (Txt.join a ys)) H) dJoin := by
  apply ok_m1
  intro W σ w μ H a y b Q l r p
  split at p
  · rename_i bs h
    split at p
    · rename_i ys h2
      split at p
      · rename_i h3
        obtain ⟨q, vs, rfl, g1, g2⟩ := itemsA_ok l r h
        rw [allS_eq h2] at g2
        rw [rv_strs (RpA_of_Rvs g2)] at g1
        exact ⟨a, q, ys, rfl, rfl, g1, h3, p w _ H w.le_refl l (.str _)⟩
      · exact p.elim
    · exact p.elim
  · exact p.elim
def dIndexS : Dv → OpN := m1 fun a b μ => match b with
  | .d (.str b) => match Builtin.Str.occurrences a b 0 a.length 1 with
    | i :: _ => .ok (.d (.int (i : Nat))) μ
    | [] => .bad
  | _ => .bad
theorem ok_indexS : OkM G (fun x xs H Q => ∃ a b i rest, x = .str a ∧ xs = [.str b] ∧ Builtin.Str.occurrences a b 0 a.length 1 = i :: rest ∧ Q (.int (i : Nat)) H) dIndexS := by
  apply ok_m1
  intro W σ w μ H a y b Q l r p
  split at p
  · split at p
    · rename_i i rest h
      rw [rv_str r]
      exact ⟨a, _, i, rest, rfl, rfl, h, p w _ H w.le_refl l (.int _)⟩
    · exact p.elim
  · exact p.elim
end
def rPadF (f : Str → Int → Nat → Str) : V → List V → Hp → VK → Prop := fun x xs H Q => ∃ (a : Str) (i : Int) (z : Str), x = .str a ∧ xs = [.int i, .str z] ∧ PadOk i = true ∧ z.length = 1 ∧ Q (.str (f a i (z.cps.getD 0 0))) H
theorem mt_ljustF {X : Cx} : MtR X "str.ljust" (rPadF Txt.ljustF) := by
  intro pins s σ H x xs v us Q I rx rs h
  obtain ⟨a, i, z, rfl, rfl, h1, h2, q⟩ := h
  obtain ⟨t, rfl⟩ := rx
  obtain ⟨u1, u2, rfl, ⟨t1, rfl⟩, ⟨t2, rfl⟩⟩ := vals2 rs
  exact ljust_fill h1 h2 fun t' k => ⟨.str _, H, I.tok k, ⟨t', rfl⟩, q⟩
theorem mt_rjustF {X : Cx} : MtR X "str.rjust" (rPadF Txt.rjustF) := by
  intro pins s σ H x xs v us Q I rx rs h
  obtain ⟨a, i, z, rfl, rfl, h1, h2, q⟩ := h
  obtain ⟨t, rfl⟩ := rx
  obtain ⟨u1, u2, rfl, ⟨t1, rfl⟩, ⟨t2, rfl⟩⟩ := vals2 rs
  exact rjust_fill h1 h2 fun t' k => ⟨.str _, H, I.tok k, ⟨t', rfl⟩, q⟩
def dPadF (f : Str → Int → Nat → Str) : Dv → OpN := m2 fun a b c μ => match b, c with
  | .d (.int i), .d (.str z) => if PadOk i = true ∧ z.length = 1 then .ok (.d (.str (f a i (z.cps.getD 0 0)))) μ else .bad
  | _, _ => .bad
theorem ok_padF {G : GT} {f : Str → Int → Nat → Str} : OkM G (rPadF f) (dPadF f) := by
  apply ok_m2
  intro W σ w μ H a y z b c Q l r r' p
  split at p
  · split at p
    · rename_i h
      rw [rv_int r, rv_str r']
      exact ⟨a, _, _, rfl, rfl, h.1, h.2, p w _ H w.le_refl l (.str _)⟩
    · exact p.elim
  · exact p.elim

/-! ### a text times a number -/
def dMulA : Op2 := fun x y μ => match x, y with
  | .d (.str z), .d (.int i) => if (decide (-(2 ^ 31) ≤ i) && decide (i < 2 ^ 31) && decide (z.length * i.toNat ≤ sizeLine) && decide (i < 1 ∨ (z.length : Int) ≤ (2 ^ 63 - 1) / i)) = true then .ok (.d (.str (Txt.mul z i))) μ else .bad
  | x, y => dMul x y μ
theorem ok_mulA {G : GT} : Ok2 G (fun x y H Q => rI CMulX (fun i j => .int (i * j)) x y H Q ∨ rMulS x y H Q) dMulA := by
  intro W σ w μ H x y b c Q l rx ry p
  unfold dMulA at p
  split at p
  · split at p
    · rename_i z i h
      simp only [Bool.and_eq_true, decide_eq_true_eq] at h
      refine .inr ⟨z, i, rv_str rx, rv_int ry, ⟨?_, fun h1 _ => ?_, fun h1 _ => ?_⟩, p w _ H w.le_refl l (.str _)⟩
      · simp only [Bool.or_eq_false_iff, decide_eq_false_iff_not]
        omega
      · have := h.2
        omega
      · have h2 := h.1.2
        unfold Builtin.Str.tooLong
        exact decide_eq_false (by omega)
    · exact p.elim
  · exact .inl (ok_mul W σ w μ H x y _ _ Q l rx ry p)
theorem op_mulA {X : Cx} : OpR X (binaryOp .Mult) (fun x y H Q => rI CMulX (fun i j => .int (i * j)) x y H Q ∨ rMulS x y H Q) := op_mulX.or op_mulS
end DL

/-! Defs of a text as callees. -/
namespace DL
open PySem PySem.Spec PyProof.Rows L2
/-- a text of these signs -/
def T (l : List Nat) : Str := ⟨l.toArray⟩
/-- the def called x: its promise over data, how it is found, how its arguments bind -/
structure Cal (P : Program) (w : World) (G : GT) (mg : Str → Option Value) (base : Heap) (x : Str) (k : Nat) (ps : List Str) (kb : List (List Str × List Nat)) (F : OpN) : Prop where
  ex : ∃ (f : Addr) (fd : FuncData), FnG P w G.K mg base k f fd ps (spD G ps.length F) ∧ mg x = some (.ref f) ∧ PySem.W.keepIn G.K (.ref f) = true ∧ Binds G.K fd ps [] ∧
    ∀ q ∈ kb, ∀ (s : Shared) (ws : List Value), ws.length = q.1.length → BindsTo s fd ⟨[] ++ [], q.1.zip ws⟩ (ps.zip (pickL .none q.2 ws))
section
variable {X : Cx} {G : GT} {W : WX} {e : Expr} {es : List Expr} {kws : List Keyword} {mas mks : MA} {pos p : Pos} {x : Str} {k : Nat} {ps ks : List Str} {kb : List (List Str × List Nat)} {F : OpN} {ix : List Nat} {n m : Nat}
theorem de_calC (hK : X.K = G.K) (C : Cal X.prog X.w G X.mg X.base x k ps kb F) (g : X.A.guards = some []) (hr : Room k X.A) (tk : Takes X W) (hg : Gl X x) (ha : DA X G W (e :: es) mas) (hdb : (x == ("__debug__" : Str)) = false := by decide)
    (he : starEach (e :: es) X.env = (false, eval e X.env) :: starEach es X.env := by rfl) (hpl : (backTo pos (starEach es X.env)).any (·.1) = false := by rfl) (hn : ps.length = n := by rfl) : DE X G W (.Call (.Name x p) (e :: es) [] pos) (eN (fCall n F) mas) := by
  subst hn
  obtain ⟨f, fd, h1, h2, h3, h4, _⟩ := C.ex
  rw [← hK] at h1 h3 h4
  exact de_callG h1 g hr hg h2 h3 h4 tk ha hdb he hpl
theorem de_calK (ks : List Str) (ix : List Nat) (hK : X.K = G.K) (C : Cal X.prog X.w G X.mg X.base x k ps kb F) (g : X.A.guards = some []) (hr : Room k X.A) (tk : Takes X W) (hg : Gl X x) (hkw : DK X G W kws mks) (hm : (ks, ix) ∈ kb)
    (hall : (backToKw pos (keywordEach kws X.env)).all (·.1.isSome) = true := by rfl) (hks : (backToKw pos (keywordEach kws X.env)).filterMap (·.1) = ks := by rfl)
    (hdb : (x == ("__debug__" : Str)) = false := by decide) (hpl : ((backTo pos (starEach [] X.env)).any (·.1) || (backToKw pos (keywordEach kws X.env)).any (·.1.isNone)) = false := by rfl) (hn : ps.length = n := by rfl) (hl : ks.length = m := by rfl) : DE X G W (.Call (.Name x p) [] kws pos) (eCallK n m ix F aNil mks) := by
  subst hn hl
  obtain ⟨f, fd, h1, h2, h3, h4, h5⟩ := C.ex
  rw [← hK] at h1 h3
  exact de_callK0 h1 g hr hg h2 h3 (fun s ws hl => h5 (ks, ix) hm s ws hl) tk hkw hall hks hdb hpl
end
end DL

/-! Running the data forms: equations for simp, texts as lists of signs, a law's hand of drawn numbers. -/
namespace DL
open PySem PySem.Spec PyProof.Rows L2

/-! ### texts as lists -/
theorem T_tl (x : Str) : T x.cps.toList = x := rfl
theorem tl_T (l : List Nat) : (T l).cps.toList = l := rfl
theorem T_len (l : List Nat) : (T l).length = l.length := by simp [T, Str.length]
theorem T_inj {l m : List Nat} : T l = T m ↔ l = m := ⟨fun h => by have := congrArg (fun x : Str => x.cps.toList) h; exact this, fun h => by rw [h]⟩
theorem T_app (l m : List Nat) : T l ++ T m = T (l ++ m) := TL.ext_tl (by rw [TL.tl_append]; rfl)
theorem T_one (c : Nat) : (⟨#[c]⟩ : Str) = T [c] := rfl
theorem ofS (s : String) : Str.ofString s = T (s.toList.map Char.toNat) := TL.ext_tl (TL.tl_ofString s)
theorem eqv_T (l m : List Nat) : PyData.eqv (.str (T l)) (.str (T m)) = decide (l = m) := by
  show (T l == T m) = _
  rw [Bool.eq_iff_iff]
  simp [T_inj]
theorem cutS_T (l : List Nat) (lo hi : Option Int) : cutS (T l) lo hi = T (cutL l lo hi) := by
  unfold cutS cutL
  rw [tl_T, T_len]
  rfl
theorem sub1_T (c : Nat) (l : List Nat) : sub1 (T [c]) (T l) = decide (c ∈ l) := rfl
theorem signs_T (l : List Nat) : signs (T l) = l.map fun c => .d (.str (T [c])) := rfl
theorem line_big : 16000000 ≤ sizeLine := by rw [sizeLine_eq]; decide
theorem join_T (l : List Nat) (ps : List (List Nat)) : Txt.join (T l) (ps.map T) = T (TL.joinL l ps) := by
  apply TL.ext_tl
  rw [TL.join_eq, TL.tl_join, List.map_map]
  show TL.joinL l (ps.map fun p => (T p).cps.toList) = _
  simp [tl_T]
theorem joinL_nil (ps : List (List Nat)) : TL.joinL [] ps = ps.flatten := by
  induction ps with
  | nil => rfl
  | cons p ps ih =>
    cases ps with
    | nil => simp [TL.joinL]
    | cons q qs =>
      rw [TL.joinL, ih]
      simp
theorem part_T (l : List Nat) (s : Nat) : Txt.partition (T l) (T [s]) = match TL.par [s] [] l with
    | some (a, b) => (T a, T [s], T b)
    | none => (T l, T [], T []) := by
  rw [TL.partition_par _ _ (by simp [TL.tl, tl_T])]
  show (match TL.par [s] [] l with | some (a, b) => _ | none => _) = _
  cases TL.par [s] [] l <;> rfl
theorem split_T (l : List Nat) (s : Nat) (h : s < 256) : Txt.split (T l) (T [s]) = (TL.spl [s] 0 [] l).map T := by
  apply TL.map_tl_inj
  rw [TL.split_spl _ _ (by simp [TL.tl, tl_T]) (TL.kind_ok (by simp [T, h])), List.map_map]
  show TL.spl [s] 0 [] l = _
  simp [TL.tl, tl_T, Function.comp_def]
/-- a text cut at its first s -/
theorem par_one (s : Nat) (acc l : List Nat) : TL.par [s] acc l = if s ∈ l then some (acc ++ l.takeWhile (· != s), (l.dropWhile (· != s)).drop 1) else none := by
  induction l generalizing acc with
  | nil => rfl
  | cons c r ih =>
    by_cases h : c = s
    · subst h
      rw [TL.par_hit (by simp [TL.pre])]
      simp
    · rw [TL.par_miss (TL.pre_of_head _ _ h), ih]
      have h' : (c != s) = true := by simp [h]
      have hs : (s ∈ c :: r) = (s ∈ r) := by simp [Ne.symm h]
      simp only [hs, List.takeWhile_cons, List.dropWhile_cons, h', if_true]
      split <;> simp
def splitL (s : Nat) : List Nat → List Nat → List (List Nat)
  | acc, [] => [acc]
  | acc, c :: r => if c = s then acc :: splitL s [] r else splitL s (acc ++ [c]) r
theorem spl_one (s : Nat) (acc l : List Nat) : TL.spl [s] 0 acc l = splitL s acc l := by
  induction l generalizing acc with
  | nil => rfl
  | cons c r ih =>
    by_cases h : c = s
    · subst h
      rw [TL.spl_hit (by simp [TL.pre]), splitL, if_pos rfl, ← ih]
      rfl
    · rw [TL.spl_miss (TL.pre_of_head _ _ h), splitL, if_neg h, ih]

/-! ### simp's words: what each form comes to when it is run -/
def finB : Out Fl → Out Dv
  | .ok (.nx _) μ' => .ok (.d .none) μ'
  | .ok (.rt b) μ' => .ok b μ'
  | .ok _ _ => .bad
  | .ex e μ' => .ex e μ'
  | .bad => .bad
theorem runB_eq (n : Nat) (B : MS) (bs : List Dv) (μ : Store) : runB n B bs μ = finB (B (bs.map some ++ List.replicate (n - bs.length) none) μ) := by
  unfold runB
  cases h : B (bs.map some ++ List.replicate (n - bs.length) none) μ with
  | ok f μ' => cases f <;> rfl
  | ex e μ' => rfl
  | bad => rfl
section
variable {ρ : DEnv} {μ : Store} {b : Dv} {a c : ME} {t u : MS} {i : Nat}
@[simp] theorem finB_nx : finB (.ok (.nx ρ) μ) = .ok (.d .none) μ := id rfl
@[simp] theorem finB_rt : finB (.ok (.rt b) μ) = .ok b μ := id rfl
@[simp] theorem finB_ex {e : Ex} : finB (.ex e μ) = .ex e μ := id rfl
@[simp] theorem finB_bad : finB .bad = .bad := id rfl
@[simp] theorem seqF_nx : seqF u (.nx ρ) μ = u ρ μ := id rfl
@[simp] theorem seqF_rt : seqF u (.rt b) μ = .ok (.rt b) μ := id rfl
@[simp] theorem seqF_bk : seqF u (.bk ρ) μ = .ok (.bk ρ) μ := id rfl
@[simp] theorem seqF_ct : seqF u (.ct ρ) μ = .ok (.ct ρ) μ := id rfl
@[simp] theorem sSeq_r : sSeq t u ρ μ = (t ρ μ).bind (seqF u) := id rfl
@[simp] theorem sNext_r : sNext ρ μ = .ok (.nx ρ) μ := id rfl
@[simp] theorem sBreak_r : sBreak ρ μ = .ok (.bk ρ) μ := id rfl
@[simp] theorem sCont_r : sCont ρ μ = .ok (.ct ρ) μ := id rfl
@[simp] theorem sRetN_r : sRetN ρ μ = .ok (.rt (.d .none)) μ := id rfl
@[simp] theorem sRet_r : sRet a ρ μ = (a ρ μ).bind fun b μ => .ok (.rt b) μ := id rfl
@[simp] theorem sDrop_r : sDrop a ρ μ = (a ρ μ).bind fun _ μ => .ok (.nx ρ) μ := id rfl
@[simp] theorem sSet_r : sSet i a ρ μ = (a ρ μ).bind fun b μ => .ok (.nx (ρ.set i (some b))) μ := id rfl
@[simp] theorem sIf_r {k : MT} : sIf k t u ρ μ = (k ρ μ).bind fun x μ => if x = true then t ρ μ else u ρ μ := id rfl
@[simp] theorem sPar_r {j : Nat} {m : MA} : sPar i j m ρ μ = (m ρ μ).bind (parF i j ρ) := id rfl
@[simp] theorem parF_r {j : Nat} {d : Dv} : parF i j ρ [b, d] μ = .ok (.nx ((ρ.set i (some b)).set j (some d))) μ := id rfl
@[simp] theorem sAsg_r {g : MG} : sAsg a g ρ μ = (a ρ μ).bind fun b μ => (g b ρ μ).gb fun ρ μ => .ok (.nx ρ) μ := id rfl
@[simp] theorem sSetIx_r {o j : ME} : sSetIx a o j ρ μ = (a ρ μ).bind fun v μ => (o ρ μ).bind fun x μ => (j ρ μ).bind fun i μ => optN (dSetIx x i v μ) ρ := id rfl
@[simp] theorem optN_r : optN (some μ) ρ = .ok (.nx ρ) μ := id rfl
@[simp] theorem sFor_r {mi : MI} {g : MG} {mb : MS} : sFor mi g mb ρ μ = (mi ρ μ).bind fun bs μ => forL g mb bs ρ μ := id rfl
@[simp] theorem gN_r : gN i b ρ μ = .ok (ρ.set i (some b)) μ := id rfl
@[simp] theorem gT_r {n : Nat} {g : MGs} {ds : List D} : gT n g (.d (.tuple ds)) ρ μ = if ds.length = n then g (ds.map .d) ρ μ else .bad := id rfl
@[simp] theorem gsNil_r : gsNil [] ρ μ = .ok ρ μ := id rfl
@[simp] theorem gsCons_r {g : MG} {r : MGs} {bs : List Dv} : gsCons g r (b :: bs) ρ μ = (g b ρ μ).bind fun ρ μ => r bs ρ μ := id rfl
@[simp] theorem gStar_r {n : Nat} {g : MGs} {ds : List D} : gStar n g (.d (.tuple ds)) ρ μ = if n ≤ ds.length ∧ ds.length ≤ 16384 then g ((ds.take n).map .d ++ [.d (.list (ds.drop n))]) ρ μ else .bad := id rfl
@[simp] theorem eVar_r : eVar i ρ μ = match ρ[i]? with
  | some (some b) => .ok b μ
  | _ => .bad := id rfl
@[simp] theorem eC_r : eC b ρ μ = .ok b μ := id rfl
@[simp] theorem e1_r {f : Op1} : e1 f a ρ μ = (a ρ μ).bind fun x μ => f x μ := id rfl
@[simp] theorem e2_r {f : Op2} : e2 f a c ρ μ = (a ρ μ).bind fun x μ => (c ρ μ).bind fun y μ => f x y μ := id rfl
@[simp] theorem tV_r : tV a ρ μ = (a ρ μ).bind asBool := id rfl
@[simp] theorem asBool_r {k : Bool} : asBool (.d (.bool k)) μ = .ok k μ := id rfl
@[simp] theorem bind_asBool {k : Bool} : (Out.ok (Dv.d (.bool k)) μ).bind asBool = .ok k μ := id rfl
@[simp] theorem tAndM_r {x y : MT} : tAndM x y ρ μ = (x ρ μ).bind fun k μ => if k = true then y ρ μ else .ok false μ := id rfl
@[simp] theorem tOrM_r {x y : MT} : tOrM x y ρ μ = (x ρ μ).bind fun k μ => if k = true then .ok true μ else y ρ μ := id rfl
@[simp] theorem tNotM_r {x : MT} : tNotM x ρ μ = (x ρ μ).bind fun k μ => .ok (!k) μ := id rfl
@[simp] theorem eAnd_r : eAnd a c ρ μ = (a ρ μ).bind fun x μ => (asBool x μ).bind fun k μ => if k = true then c ρ μ else .ok (.d (.bool false)) μ := id rfl
@[simp] theorem eOr_r : eOr a c ρ μ = (a ρ μ).bind fun x μ => (asBool x μ).bind fun k μ => if k = true then .ok (.d (.bool true)) μ else c ρ μ := id rfl
@[simp] theorem eNot_r : eNot a ρ μ = (a ρ μ).bind fun x μ => (asBool x μ).bind fun k μ => .ok (.d (.bool (!k))) μ := id rfl
@[simp] theorem eIf_r {k : MT} : eIf k a c ρ μ = (k ρ μ).bind fun x μ => if x = true then a ρ μ else c ρ μ := id rfl
@[simp] theorem eChain_r {f g : Op2} {d : ME} : eChain f g a c d ρ μ = (a ρ μ).bind fun x μ => (c ρ μ).bind fun y μ => (f x y μ).bind fun z μ => (asBool z μ).bind fun k μ => if k = true then (d ρ μ).bind fun u μ => g y u μ else .ok (.d (.bool false)) μ := id rfl
@[simp] theorem aNil_r : aNil ρ μ = .ok [] μ := id rfl
@[simp] theorem aCons_r {r : MA} : aCons a r ρ μ = (a ρ μ).bind fun x μ => (r ρ μ).bind fun xs μ => .ok (x :: xs) μ := id rfl
@[simp] theorem eN_r {f : OpN} {m : MA} : eN f m ρ μ = (m ρ μ).bind fun xs μ => f xs μ := id rfl
@[simp] theorem fCall_r {n : Nat} {F : OpN} {bs : List Dv} : fCall n F bs μ = if bs.length = n then F bs μ else .bad := id rfl
@[simp] theorem eCallK_r {n m : Nat} {ix : List Nat} {F : OpN} {x y : MA} : eCallK n m ix F x y ρ μ = (x ρ μ).bind fun bs μ => (y ρ μ).bind fun cs μ => if cs.length = m then fCall n F (pickL (.d .none) ix (bs ++ cs)) μ else .bad := id rfl
@[simp] theorem eM_r {k : Dv → Store → Bool} {f : Dv → OpN} {m : MA} : eM k f a m ρ μ = (a ρ μ).bind fun x μ => if k x μ = true then (m ρ μ).bind fun xs μ => f x xs μ else .bad := id rfl
@[simp] theorem isStr_r {z : Str} : isStr (.d (.str z)) μ = true := id rfl
@[simp] theorem eSl_r {l h : MO} : eSl a l h ρ μ = (a ρ μ).bind fun x μ => (l ρ μ).bind fun i μ => (h ρ μ).bind fun j μ => dSl x i j μ := id rfl
@[simp] theorem oNone_r : oNone ρ μ = .ok none μ := id rfl
@[simp] theorem oSome_r : oSome a ρ μ = (a ρ μ).bind asInt := id rfl
@[simp] theorem asInt_r {k : Int} : asInt (.d (.int k)) μ = .ok (some k) μ := id rfl
@[simp] theorem bind_asInt {k : Int} : (Out.ok (Dv.d (.int k)) μ).bind asInt = .ok (some k) μ := id rfl
@[simp] theorem eIsN_r {n : Bool} : eIsN n a ρ μ = (a ρ μ).bind fun x μ => dIsN n x (.d .none) μ := id rfl
@[simp] theorem dIsN_r {n : Bool} {x : D} {y : Dv} : dIsN n (.d x) y μ = .ok (.d (.bool (if n then !isNone x else isNone x))) μ := id rfl
@[simp] theorem eLc_r {f : OpN} {mi : MI} {g : MG} {tt : MT} {vs : List Nat} : eLc f mi g tt a vs ρ μ = (mi ρ μ).bind fun bs μ => lcF f g tt a vs ρ bs μ := id rfl
@[simp] theorem iSeq_r : iSeq a ρ μ = (a ρ μ).bind walkD := id rfl
@[simp] theorem bind_walkD {x : Dv} : (Out.ok x μ).bind walkD = walkD x μ := id rfl
@[simp] theorem iRng_r {f : List Dv → Store → Out (List Dv)} {m : MA} : iRng f m ρ μ = (m ρ μ).bind f := id rfl
-- operations
@[simp] theorem dAdd_ii {x y : Int} : dAdd (.d (.int x)) (.d (.int y)) μ = .ok (.d (.int (x + y))) μ := id rfl
@[simp] theorem dSub_ii {x y : Int} : dInt2 (fun i j => .int (i - j)) (.d (.int x)) (.d (.int y)) μ = .ok (.d (.int (x - y))) μ := id rfl
@[simp] theorem dNum_ii {C : Int → Int → Bool} {g : Int → Int → Int} {x y : Int} (h : C x y = true) : dNum C g (.d (.int x)) (.d (.int y)) μ = .ok (.d (.int (g x y))) μ := by
  show (if C x y = true then _ else _) = _
  rw [if_pos h]
@[simp] theorem dMulA_ii {x y : Int} (h : cMul x y = true) : dMulA (.d (.int x)) (.d (.int y)) μ = .ok (.d (.int (x * y))) μ := by
  show (if cMul x y = true then _ else _) = _
  rw [if_pos h]
@[simp] theorem dNeg_i {x : Int} : dNeg (.d (.int x)) μ = .ok (.d (.int (-x))) μ := id rfl
@[simp] theorem dCmp_ii {g : Int → Int → Bool} {h : List Nat → List Nat → Bool} {x y : Int} : dCmp g h (.d (.int x)) (.d (.int y)) μ = .ok (.d (.bool (g x y))) μ := id rfl
@[simp] theorem dAdd_ss {l m : List Nat} (h : l.length + m.length ≤ 16000000) : dAdd (.d (.str (T l))) (.d (.str (T m))) μ = .ok (.d (.str (T (l ++ m)))) μ := by
  show (if (T l).length + (T m).length ≤ sizeLine then _ else _) = _
  rw [T_len, T_len, T_app, if_pos (Nat.le_trans h line_big)]
theorem dEq_dd {n : Bool} {x y : D} (h : (scalD x y || (SeqAt.shaped x && SeqAt.shaped y)) = true) : dEq n (.d x) (.d y) μ = .ok (.d (.bool (if n then !PyData.eqv x y else PyData.eqv x y))) μ := by
  unfold dEq
  show (match eqD x y with | some k => _ | none => _) = _
  have : eqD x y = some (PyData.eqv x y) := by
    unfold eqD
    by_cases h1 : scalD x y = true
    · rw [if_pos h1]
    · rw [if_neg h1]
      simp only [h1, Bool.false_or] at h
      rw [if_pos h]
  rw [this]
@[simp] theorem dEq_ii {n : Bool} {x y : Int} : dEq n (.d (.int x)) (.d (.int y)) μ = .ok (.d (.bool (if n then !decide (x = y) else decide (x = y)))) μ := by
  rw [dEq_dd rfl]
  have : PyData.eqv (.int x) (.int y) = decide (x = y) := by
    show (x == y) = _
    rw [Bool.eq_iff_iff]; simp
  rw [this]
@[simp] theorem dEq_ss {n : Bool} {x y : List Nat} : dEq n (.d (.str (T x))) (.d (.str (T y))) μ = .ok (.d (.bool (if n then !decide (x = y) else decide (x = y)))) μ := by
  rw [dEq_dd rfl, eqv_T]
@[simp] theorem dIn_ss {n : Bool} {x : Nat} {y : List Nat} : dIn n (.d (.str (T [x]))) (.d (.str (T y))) μ = .ok (.d (.bool (if n then !decide (x ∈ y) else decide (x ∈ y)))) μ := id rfl
@[simp] theorem items_l {ds : List D} : items (.d (.list ds)) μ = some (ds.map .d) := id rfl
@[simp] theorem itemsA_l {ds : List D} : itemsA (.d (.list ds)) μ = some (ds.map .d) := id rfl
@[simp] theorem itemsA_t {ds : List D} : itemsA (.d (.tuple ds)) μ = some (ds.map .d) := id rfl
theorem dIx_l {ds : List D} {k : Int} {x : D} (h : L2.atI ds k = some x) : dIx (.d (.list ds)) (.d (.int k)) μ = .ok (.d x) μ := by
  have : L2.atI (ds.map Dv.d) k = some (.d x) := by
    unfold L2.atI at h ⊢
    rw [List.length_map]
    cases q : ixN ds.length k with
    | none => rw [q] at h; cases h
    | some j =>
      rw [q] at h
      show (ds.map Dv.d)[j]? = _
      have h : ds[j]? = some x := h
      rw [List.getElem?_map, h]
      rfl
  show (match L2.atI (ds.map Dv.d) k with | some b => Out.ok b μ | none => Out.bad) = _
  rw [this]
theorem dIx_t {ds : List D} {k : Int} {x : D} (h : L2.atI ds k = some x) : dIx (.d (.tuple ds)) (.d (.int k)) μ = .ok (.d x) μ := dIx_l h
theorem dIx_s {l : List Nat} {k : Int} {c : Nat} (hl : l.length ≤ 16000000) (h : L2.atI l k = some c) : dIx (.d (.str (T l))) (.d (.int k)) μ = .ok (.d (.str (T [c]))) μ := by
  show (if (T l).length ≤ sizeLine then (match L2.atI (T l).cps.toList k with | some c => _ | none => _) else _) = _
  rw [T_len, if_pos (Nat.le_trans hl line_big), tl_T, h]
  rfl
theorem dIx_c {n : Nat} {xs : List Dv} {k : Int} {x : Dv} (e : μ[n]? = some (.lst xs)) (h : L2.atI xs k = some x) : dIx (.c n) (.d (.int k)) μ = .ok x μ := by
  have : itemsA (.c n) μ = some xs := by
    unfold itemsA itemsT items
    simp only [e]
  show (match itemsA (.c n) μ with | some bs => (match L2.atI bs k with | some b => Out.ok b μ | none => Out.bad) | none => Out.bad) = _
  rw [this]
  show (match L2.atI xs k with | some b => Out.ok b μ | none => Out.bad) = _
  rw [h]
theorem atI_nn {α : Type} {xs : List α} {k : Nat} {x : α} (h : xs[k]? = some x) : L2.atI xs (k : Int) = some x := by
  have hl := (List.getElem?_eq_some_iff.mp h).1
  unfold L2.atI L2.ixN
  rw [if_pos (by omega), if_pos (by omega)]
  simpa using h
theorem dSetIx_c {n : Nat} {xs : List Dv} {k : Int} {j : Nat} {x : Dv} (e : μ[n]? = some (.lst xs)) (h : L2.ixN xs.length k = some j) : dSetIx (.c n) (.d (.int k)) x μ = some (μ.set n (.lst (xs.set j x))) := by
  unfold dSetIx
  simp only [e, h]
@[simp] theorem dLen_s {l : List Nat} (h : l.length ≤ 16000000) : dLen [.d (.str (T l))] μ = .ok (.d (.int l.length)) μ := by
  show (if (T l).length ≤ sizeLine then _ else _) = _
  rw [T_len, if_pos (Nat.le_trans h line_big)]
@[simp] theorem dLen_l {ds : List D} : dLen [.d (.list ds)] μ = .ok (.d (.int ds.length)) μ := by
  show Out.ok (Dv.d (.int ((ds.map Dv.d).length : Nat))) μ = _
  rw [List.length_map]
@[simp] theorem dLen_t {ds : List D} : dLen [.d (.tuple ds)] μ = .ok (.d (.int ds.length)) μ := by
  show Out.ok (Dv.d (.int ((ds.map Dv.d).length : Nat))) μ = _
  rw [List.length_map]
@[simp] theorem allD_cons {x : D} {r : List Dv} : allD (.d x :: r) = (allD r).map (x :: ·) := by
  show (match allD r with | some xs => _ | none => _) = _
  cases allD r <;> rfl
@[simp] theorem allD_nil : allD [] = some [] := id rfl
theorem dList_d {ds : List D} (h : ds.length ≤ sizeLine) : dList (ds.map .d) μ = .ok (.d (.list ds)) μ := by
  unfold dList
  rw [allD_map]
  show (if ds.length ≤ sizeLine then _ else _) = _
  rw [if_pos h]
@[simp] theorem dTup_l {ds : List D} (h : ds.length ≤ 16000000) : dTup (ds.map .d) μ = .ok (.d (.tuple ds)) μ := by
  unfold dTup
  rw [allD_map]
  show (if ds.length ≤ sizeLine then _ else _) = _
  rw [if_pos (Nat.le_trans h line_big)]
@[simp] theorem dList_1 {a : D} : dList [.d a] μ = .ok (.d (.list [a])) μ := dList_d (ds := [a]) (Nat.le_trans (by show 1 ≤ 16000000; decide) line_big)
@[simp] theorem dList_2 {a b : D} : dList [.d a, .d b] μ = .ok (.d (.list [a, b])) μ := dList_d (ds := [a, b]) (Nat.le_trans (by show 2 ≤ 16000000; decide) line_big)
@[simp] theorem dTup_1 {a : D} : dTup [.d a] μ = .ok (.d (.tuple [a])) μ := dTup_l (ds := [a]) (by show 1 ≤ 16000000; decide)
@[simp] theorem dTup_2 {a b : D} : dTup [.d a, .d b] μ = .ok (.d (.tuple [a, b])) μ := dTup_l (ds := [a, b]) (by show 2 ≤ 16000000; decide)
@[simp] theorem dTup_3 {a b c : D} : dTup [.d a, .d b, .d c] μ = .ok (.d (.tuple [a, b, c])) μ := dTup_l (ds := [a, b, c]) (by show 3 ≤ 16000000; decide)
@[simp] theorem dTup_4 {a b c d : D} : dTup [.d a, .d b, .d c, .d d] μ = .ok (.d (.tuple [a, b, c, d])) μ := dTup_l (ds := [a, b, c, d]) (by show 4 ≤ 16000000; decide)
theorem dTup_d {ds : List D} (h : ds.length ≤ sizeLine) : dTup (ds.map .d) μ = .ok (.d (.tuple ds)) μ := by
  unfold dTup
  rw [allD_map]
  show (if ds.length ≤ sizeLine then _ else _) = _
  rw [if_pos h]
@[simp] theorem dSl_s {l : List Nat} {i j : Option Int} (h : l.length ≤ 16000000) : dSl (.d (.str (T l))) i j μ = .ok (.d (.str (T (cutL l i j)))) μ := by
  show (if (T l).length ≤ sizeLine then Out.ok (Dv.d (.str (cutS (T l) i j))) μ else _) = _
  rw [T_len, cutS_T, if_pos (Nat.le_trans h line_big)]
@[simp] theorem dSl_t {ds : List D} {i j : Option Int} : dSl (.d (.tuple ds)) i j μ = .ok (.d (.tuple (cutL ds i j))) μ := id rfl
theorem allS_T (ls : List (List Nat)) : allS ((ls.map fun l => PyData.str (T l)).map Dv.d) = some (ls.map T) := by
  have := allS_map (ls.map T)
  rw [List.map_map] at this
  rw [List.map_map]
  exact this
/-- texts joined -/
theorem dJoin_s {l : List Nat} {ls : List (List Nat)} (h : (ls.map (·.length)).sum + ls.length * l.length ≤ 16777216) : dJoin (.d (.str (T l))) [.d (.list (ls.map fun l => PyData.str (T l)))] μ = .ok (.d (.str (T (TL.joinL l ls)))) μ := by
  show (match allS ((ls.map fun l => PyData.str (T l)).map Dv.d) with | some (ys : List Str) => (if (ys.map Str.length).sum + ys.length * (T l).length ≤ 16777216 then Out.ok (Dv.d (.str (Txt.join (T l) ys))) μ else Out.bad) | none => Out.bad) = _
  rw [allS_T]
  show (if ((ls.map T).map Str.length).sum + (ls.map T).length * (T l).length ≤ 16777216 then _ else _) = _
  have e : (ls.map T).map Str.length = ls.map (·.length) := by
    rw [List.map_map]
    apply List.map_congr_left
    intro x _
    exact T_len x
  rw [e, List.length_map, T_len, if_pos h, join_T]
end
theorem ite_bind {β γ : Type} (c : Prop) [Decidable c] (a b : Out β) (k : β → Store → Out γ) : (if c then a else b).bind k = if c then a.bind k else b.bind k := by split <;> rfl

/-! ### the hand -/
/-- a cell of three numbers, in bounds; m: how many draws at most so far -/
def Hnd (h m : Nat) (μ : Store) : Prop := ∃ a b c : Int, μ[h]? = some (.lst [.d (.int a), .d (.int b), .d (.int c)]) ∧ 0 ≤ a ∧ a.natAbs < 2 ^ 700 ∧ 0 ≤ b ∧ b < 2 ^ 62 ∧ 0 ≤ c ∧ c ≤ m
theorem Hnd.mono {h m n : Nat} {μ : Store} (x : Hnd h m μ) (l : m ≤ n) : Hnd h n μ := by
  obtain ⟨a, b, c, e, h1, h2, h3, h4, h5, h6⟩ := x
  exact ⟨a, b, c, e, h1, h2, h3, h4, h5, by omega⟩
/-- nothing but the cell h is otherwise -/
def Oth (h : Nat) (μ μ' : Store) : Prop := μ'.length = μ.length ∧ ∀ i, i ≠ h → μ'[i]? = μ[i]?
theorem Oth.refl (h : Nat) (μ : Store) : Oth h μ μ := ⟨rfl, fun _ _ => rfl⟩
theorem Oth.trans {h : Nat} {a b c : Store} (x : Oth h a b) (y : Oth h b c) : Oth h a c := ⟨y.1.trans x.1, fun i hi => (y.2 i hi).trans (x.2 i hi)⟩
theorem Oth.set (h : Nat) (μ : Store) (c : Cell) : Oth h μ (μ.set h c) := ⟨List.length_set, fun i hi => List.getElem?_set_ne (Ne.symm hi)⟩
theorem lt_of_get {h : Nat} {μ : Store} {c : Cell} (e : μ[h]? = some c) : h < μ.length := (List.getElem?_eq_some_iff.mp e).1
theorem log2_lt {i : Int} {n : Nat} (h : i.natAbs < 2 ^ n) (hn : 0 < n) : i.natAbs.log2 < n := PySem.Flt.log2_lt_of hn h
theorem cMul_ok {i j : Int} {a b : Nat} (ha : i.natAbs < 2 ^ a) (hb : j.natAbs < 2 ^ b) (h0 : 0 < a) (h1 : 0 < b) (h : a + b ≤ 1000000) : cMul i j = true := by
  unfold cMul
  exact decide_eq_true (mulx_ok ha hb (by omega))
theorem cMod_of {x k : Int} (h : 0 < k) : cMod x k = true := decide_eq_true h
end DL

/-! Loops and comprehensions run: lemmas over the data forms. -/
namespace DL
open PySem PySem.Spec PyProof.Rows L2
/-- a comprehension whose turn changes nothing and gives f of its item -/
theorem lcM_map {g : MG} {te : ME} {ρ : DEnv} {μ : Store} {f : Dv → Dv} : ∀ {bs : List Dv}, (∀ b ∈ bs, ∃ ρ', g b ρ μ = .ok ρ' μ ∧ te ρ' μ = .ok (f b) μ) → lcM g tYesM te ρ bs μ = .ok (bs.map f) μ
  | [], _ => rfl
  | b :: bs, h => by
    obtain ⟨ρ', h1, h2⟩ := h b List.mem_cons_self
    have ih := lcM_map (g := g) (te := te) (ρ := ρ) (μ := μ) (f := f) (bs := bs) fun x hx => h x (List.mem_cons_of_mem _ hx)
    unfold lcM
    rw [h1]
    simp only [gb_ok, tYesM, if_true]
    rw [h2]
    simp only [gb_ok]
    rw [ih]
    rfl
/-- .. with a test -/
theorem lcM_filter {g : MG} {tt : MT} {te : ME} {ρ : DEnv} {μ : Store} {p : Dv → Bool} {f : Dv → Dv} : ∀ {bs : List Dv}, (∀ b ∈ bs, ∃ ρ', g b ρ μ = .ok ρ' μ ∧ tt ρ' μ = .ok (p b) μ ∧ (p b = true → te ρ' μ = .ok (f b) μ)) → lcM g tt te ρ bs μ = .ok ((bs.filter p).map f) μ
  | [], _ => rfl
  | b :: bs, h => by
    obtain ⟨ρ', h1, h2, h3⟩ := h b List.mem_cons_self
    have ih := lcM_filter (g := g) (tt := tt) (te := te) (ρ := ρ) (μ := μ) (p := p) (f := f) (bs := bs) fun x hx => h x (List.mem_cons_of_mem _ hx)
    unfold lcM
    rw [h1]
    simp only [gb_ok]
    rw [h2]
    simp only [gb_ok]
    by_cases hp : p b = true
    · rw [if_pos hp, h3 hp, List.filter_cons_of_pos hp]
      simp only [gb_ok]
      rw [ih]
      rfl
    · rw [if_neg hp, ih, List.filter_cons_of_neg hp]
theorem lcF_list {g : MG} {tt : MT} {te : ME} {vs : List Nat} {ρ : DEnv} {bs : List Dv} {μ μ' : Store} {ds : List D} (h : lcM g tt te (wipeD ρ vs) bs μ = .ok (ds.map .d) μ') (hb : bs.length ≤ sizeLine) (hd : ds.length ≤ sizeLine) : lcF dList g tt te vs ρ bs μ = .ok (.d (.list ds)) μ' := by
  unfold lcF
  rw [if_pos hb, h]
  exact dList_d hd
/-- a for that goes on -/
theorem forL_cons {g : MG} {mb : MS} {b : Dv} {bs : List Dv} {ρ ρ1 ρ2 : DEnv} {μ μ1 μ2 : Store} (h1 : g b ρ μ = .ok ρ1 μ1) (h2 : mb ρ1 μ1 = .ok (.nx ρ2) μ2) : forL g mb (b :: bs) ρ μ = forL g mb bs ρ2 μ2 := by
  conv => lhs; unfold forL
  rw [h1]
  simp only [gb_ok]
  rw [h2]
  rfl
theorem forL_ret {g : MG} {mb : MS} {b v : Dv} {bs : List Dv} {ρ ρ1 : DEnv} {μ μ1 μ2 : Store} (h1 : g b ρ μ = .ok ρ1 μ1) (h2 : mb ρ1 μ1 = .ok (.rt v) μ2) : forL g mb (b :: bs) ρ μ = .ok (.rt v) μ2 := by
  conv => lhs; unfold forL
  rw [h1]
  simp only [gb_ok]
  rw [h2]
  rfl
/-- a for by an invariant -/
theorem forL_inv {g : MG} {mb : MS} (Pv : Nat → DEnv → Store → Prop) : ∀ {bs : List Dv} {i : Nat} {ρ : DEnv} {μ : Store}, Pv i ρ μ → (∀ k b ρ μ, i ≤ k → bs[k - i]? = some b → Pv k ρ μ → ∃ ρ1 μ1 ρ2 μ2, g b ρ μ = .ok ρ1 μ1 ∧ mb ρ1 μ1 = .ok (.nx ρ2) μ2 ∧ Pv (k + 1) ρ2 μ2) →
    ∃ ρ' μ', forL g mb bs ρ μ = .ok (.nx ρ') μ' ∧ Pv (i + bs.length) ρ' μ'
  | [], i, ρ, μ, h0, _ => ⟨ρ, μ, rfl, h0⟩
  | b :: bs, i, ρ, μ, h0, h => by
    obtain ⟨ρ1, μ1, ρ2, μ2, h1, h2, h3⟩ := h i b ρ μ (Nat.le_refl _) (by simp) h0
    obtain ⟨ρ', μ', e, q⟩ := forL_inv Pv (bs := bs) (i := i + 1) h3 fun k c ρ μ hk hc => h k c ρ μ (by omega) (by
      have : k - i = (k - (i + 1)) + 1 := by omega
      rw [this, List.getElem?_cons_succ]
      exact hc)
    refine ⟨ρ', μ', ?_, ?_⟩
    · rw [forL_cons h1 h2, e]
    · rw [List.length_cons]
      have : i + 1 + bs.length = i + (bs.length + 1) := by omega
      rw [← this]
      exact q
theorem whileL_go {c : MT} {mb : MS} {n : Nat} {ρ ρ1 : DEnv} {μ μ1 μ2 : Store} (h1 : c ρ μ = .ok true μ1) (h2 : mb ρ μ1 = .ok (.nx ρ1) μ2) : whileL c mb (n + 1) ρ μ = whileL c mb n ρ1 μ2 := by
  conv => lhs; unfold whileL
  rw [h1]
  simp only [bind_ok, if_true]
  rw [h2]
  rfl
theorem whileL_end {c : MT} {mb : MS} {n : Nat} {ρ : DEnv} {μ μ1 : Store} (h1 : c ρ μ = .ok false μ1) : whileL c mb (n + 1) ρ μ = .ok (.nx ρ) μ1 := by
  conv => lhs; unfold whileL
  rw [h1]
  rfl

/-- signs joined -/
theorem dJoin_one {l : List Nat} {μ : Store} (h : l.length ≤ 16000000) : dJoin (.d (.str (T []))) [.d (.list (l.map fun c => PyData.str (T [c])))] μ = .ok (.d (.str (T l))) μ := by
  have e1 : ∀ l : List Nat, ((l.map fun c => [c]).map (·.length)).sum = l.length := fun l => by
    induction l with
    | nil => rfl
    | cons c l ih =>
      simp only [List.map_cons, List.sum_cons, List.length_cons, List.length_nil]
      rw [ih]
      omega
  have e2 : ∀ l : List Nat, (l.map fun c => [c]).flatten = l := fun l => by
    induction l with
    | nil => rfl
    | cons c l ih => rw [List.map_cons, List.flatten_cons, ih]; rfl
  have := dJoin_s (μ := μ) (l := []) (ls := l.map fun c => [c]) (by rw [e1]; show l.length + (l.map fun c => [c]).length * 0 ≤ _; omega)
  rw [List.map_map, joinL_nil, e2] at this
  exact this
/-! ### slices -/
theorem cut_to {α : Type} (l : List α) {k : Int} (h : 0 ≤ k) : cutL l none (some k) = l.take k.toNat := by
  have e : HT.sIx l.length l.length (some k) = min k.toNat l.length := by
    show (if k < 0 then _ else _) = _
    rw [if_neg (by omega)]
  unfold cutL
  rw [e]
  show (l.drop 0).take (min k.toNat l.length - 0) = _
  rw [List.drop_zero, Nat.sub_zero, List.take_eq_take_iff]
  omega
theorem cut_from {α : Type} (l : List α) {k : Int} (h : 0 ≤ k) : cutL l (some k) none = l.drop k.toNat := by
  have e : HT.sIx l.length 0 (some k) = min k.toNat l.length := by
    show (if k < 0 then _ else _) = _
    rw [if_neg (by omega)]
  unfold cutL
  rw [e]
  show (l.drop (min k.toNat l.length)).take (l.length - min k.toNat l.length) = _
  rw [List.take_of_length_le (by rw [List.length_drop]; omega)]
  by_cases hk : k.toNat ≤ l.length
  · rw [Nat.min_eq_left hk]
  · rw [Nat.min_eq_right (by omega), List.drop_of_length_le (Nat.le_refl _), List.drop_of_length_le (by omega)]
theorem cut_toN {α : Type} (l : List α) {k : Int} (h : k < 0) : cutL l none (some k) = l.take (l.length - (-k).toNat) := by
  have e : HT.sIx l.length l.length (some k) = (k + (l.length : Int)).toNat := by
    show (if k < 0 then _ else _) = _
    rw [if_pos h]
  unfold cutL
  rw [e]
  show (l.drop 0).take ((k + (l.length : Int)).toNat - 0) = _
  rw [List.drop_zero, Nat.sub_zero]
  congr 1
  omega
theorem cut_fromN {α : Type} (l : List α) {k : Int} (h : k < 0) : cutL l (some k) none = l.drop (l.length - (-k).toNat) := by
  have e : HT.sIx l.length 0 (some k) = (k + (l.length : Int)).toNat := by
    show (if k < 0 then _ else _) = _
    rw [if_pos h]
  unfold cutL
  rw [e]
  show (l.drop (k + (l.length : Int)).toNat).take (l.length - (k + (l.length : Int)).toNat) = _
  rw [List.take_of_length_le (by rw [List.length_drop]; omega)]
  congr 1
  omega
end DL

/-! More words for simp: walks, tests of signs, numbers in texts. -/
namespace DL
open PySem PySem.Spec PyProof.Rows L2
section
variable {μ : Store} {ρ : DEnv}
@[simp] theorem walkD_s {z : List Nat} : walkD (.d (.str (T z))) μ = .ok (z.map fun c => .d (.str (T [c]))) μ := id rfl
@[simp] theorem walkD_l {ds : List D} : walkD (.d (.list ds)) μ = .ok (ds.map .d) μ := id rfl
@[simp] theorem walkD_t {ds : List D} : walkD (.d (.tuple ds)) μ = .ok (ds.map .d) μ := id rfl
@[simp] theorem rng1_r {j : Int} (h : okR j = true) : rng1 [.d (.int j)] μ = .ok ((List.range j.toNat).map fun (i : Nat) => Dv.d (.int i)) μ := by
  show (if okR j = true then _ else _) = _
  rw [if_pos h]
@[simp] theorem dAll_b {f : List Bool → Bool} {ks : List Bool} : dAll f [.d (.list (ks.map PyData.bool))] μ = .ok (.d (.bool (f ks))) μ := by
  show (match allB ((ks.map PyData.bool).map Dv.d) with | some ks => Out.ok (Dv.d (.bool (f ks))) μ | none => Out.bad) = _
  have := allB_map ks
  rw [List.map_map]
  have e : (Dv.d ∘ PyData.bool) = fun k => Dv.d (.bool k) := rfl
  rw [e, this]
@[simp] theorem dAbs_i {i : Int} : dAbs [.d (.int i)] μ = .ok (.d (.int (if i < 0 then -i else i))) μ := id rfl
@[simp] theorem dMax_i {i j : Int} : dMax [.d (.int i), .d (.int j)] μ = .ok (.d (.int (if j > i then j else i))) μ := id rfl
@[simp] theorem dMin_i {i j : Int} : dMin [.d (.int i), .d (.int j)] μ = .ok (.d (.int (if j < i then j else i))) μ := id rfl
@[simp] theorem dInt_b {k : Bool} : dInt [.d (.bool k)] μ = .ok (.d (.int (if k then 1 else 0))) μ := id rfl
@[simp] theorem dInt_i {k : Int} : dInt [.d (.int k)] μ = .ok (.d (.int k)) μ := id rfl
def isDig (c : Nat) : Bool := decide (48 ≤ c ∧ c ≤ 57)
theorem isDig_iff {c : Nat} : isDig c = true ↔ 48 ≤ c ∧ c ≤ 57 := by simp [isDig]
theorem dig_mem (c : Nat) : (c ∈ [48, 49, 50, 51, 52, 53, 54, 55, 56, 57]) = (isDig c = true) := by
  unfold isDig
  simp only [List.mem_cons, List.not_mem_nil, or_false, decide_eq_true_eq, eq_iff_iff]
  omega
def dval (l : List Nat) : Nat := NumText.digitsVal l
theorem dval_app (l m : List Nat) (k : Nat) : dval (l ++ m) = m.foldl (fun acc c => acc * 10 + (c - 48)) (dval l) := by
  unfold dval NumText.digitsVal
  rw [List.foldl_append]
theorem all_dig {l : List Nat} (h : l.all isDig = true) : NumText.AllDigits l := fun c hc => by
  have := List.all_eq_true.mp h c hc
  exact isDig_iff.mp this
theorem dInt_s {l : List Nat} (h : l.all isDig = true) (h0 : l ≠ []) (h1 : l.length ≤ 640) : dInt [.d (.str (T l))] μ = .ok (.d (.int (dval l))) μ := by
  have e := intText_digits (x := T l) (by rw [tl_T]; exact all_dig h) (by rw [tl_T]; exact h0) (by rw [T_len]; omega)
  rw [tl_T] at e
  show (match PySem.intText? (T l) with | some n => if (T l).length ≤ 640 then Out.ok (Dv.d (.int n)) μ else .bad | none => .bad) = _
  rw [e, T_len]
  show (if l.length ≤ 640 then _ else _) = _
  rw [if_pos h1]
  rfl
def showI (i : Int) : List Nat := if i < 0 then 45 :: TL.numL i.natAbs else TL.numL i.natAbs
theorem dStr_n {n : Nat} (h : n.log2 < 1920) : dStr [.d (.int (n : Int))] μ = .ok (.d (.str (T (TL.numL n)))) μ := by
  show (if (n : Int).natAbs.log2 < 1920 then Out.ok (Dv.d (.str (toString (n : Int)))) μ else Out.bad) = _
  rw [if_pos (by simpa using h)]
  have : (toString (n : Int) : String) = toString (n : Int) := rfl
  have e := TL.tl_num n
  have : Str.ofString (toString (n : Int)) = T (TL.numL n) := TL.ext_tl (by rw [e]; rfl)
  exact congrArg (fun x => Out.ok (Dv.d (.str x)) μ) this
theorem toString_neg (n : Nat) (h : 0 < n) : toString (-(n : Int)) = "-" ++ toString (n : Int) := by
  obtain ⟨m, rfl⟩ : ∃ m, n = m + 1 := ⟨n - 1, by omega⟩
  rfl
theorem dStr_m {n : Nat} (h0 : 0 < n) (h : n.log2 < 1920) : dStr [.d (.int (-(n : Int)))] μ = .ok (.d (.str (T (45 :: TL.numL n)))) μ := by
  show (if (-(n : Int)).natAbs.log2 < 1920 then Out.ok (Dv.d (.str (toString (-(n : Int))))) μ else Out.bad) = _
  rw [if_pos (by simpa using h), toString_neg n h0]
  have e := TL.tl_num n
  have : Str.ofString ("-" ++ toString (n : Int)) = T (45 :: TL.numL n) := TL.ext_tl (by
    rw [TL.tl_ofString, String.toList_append, List.map_append]
    have e2 := TL.tl_ofString (toString (n : Int))
    rw [e] at e2
    rw [← e2]
    rfl)
  exact congrArg (fun x => Out.ok (Dv.d (.str x)) μ) this
@[simp] theorem dIn_t2 {n : Bool} {x a b : List Nat} : dIn n (.d (.str (T x))) (.d (.tuple [.str (T a), .str (T b)])) μ = .ok (.d (.bool (if n then !(decide (a = x) || decide (b = x)) else (decide (a = x) || decide (b = x))))) μ := by
  show (match allFlat ([PyData.str (T a), PyData.str (T b)].map Dv.d) with
      | some (ds : List D) => (if flatD (.str (T x)) = true then Out.ok (Dv.d (PyData.bool (if n then !(ds.any fun y => PyData.eqv y (.str (T x))) else ds.any fun y => PyData.eqv y (.str (T x))))) μ else Out.bad)
      | none => .bad) = _
  rw [allFlat_map (by intro d hd; simp at hd; rcases hd with rfl | rfl <;> rfl)]
  show Out.ok (Dv.d (PyData.bool (if n then !([PyData.str (T a), PyData.str (T b)].any fun y => PyData.eqv y (.str (T x))) else [PyData.str (T a), PyData.str (T b)].any fun y => PyData.eqv y (.str (T x))))) μ = _
  simp [eqv_T]
theorem ljustF_T (l : List Nat) (n c : Nat) : Txt.ljustF (T l) (n : Int) c = T (l ++ List.replicate (n - l.length) c) := by
  unfold Txt.ljustF
  rw [T_len]
  split
  · rename_i h
    have : n - l.length = 0 := by omega
    rw [this]
    show T l = T (l ++ [])
    rw [List.append_nil]
  · apply TL.ext_tl
    show (Array.replicate 0 c ++ (T l).cps ++ Array.replicate ((n : Int).toNat - l.length) c).toList = (T _).cps.toList
    rw [tl_T, Array.toList_append, Array.toList_append, tl_T, Array.toList_replicate, Array.toList_replicate]
    rfl
theorem rjustF_T (l : List Nat) (n c : Nat) : Txt.rjustF (T l) (n : Int) c = T (List.replicate (n - l.length) c ++ l) := by
  unfold Txt.rjustF
  rw [T_len]
  split
  · rename_i h
    have : n - l.length = 0 := by omega
    rw [this]
    rfl
  · apply TL.ext_tl
    show (Array.replicate ((n : Int).toNat - l.length) c ++ (T l).cps ++ Array.replicate 0 c).toList = (T _).cps.toList
    rw [tl_T, Array.toList_append, Array.toList_append, tl_T, Array.toList_replicate, Array.toList_replicate]
    simp
theorem padOk {k : Nat} (h : k ≤ 16000000) : PadOk (k : Int) = true := by
  have hb := line_big
  unfold PadOk fitsSsize Builtin.Str.tooLong
  simp
  omega
theorem dLjust {l : List Nat} {k c : Nat} (h : k ≤ 16000000) : dPadF Txt.ljustF (.d (.str (T l))) [.d (.int k), .d (.str (T [c]))] μ = .ok (.d (.str (T (l ++ List.replicate (k - l.length) c)))) μ := by
  show (if PadOk (k : Int) = true ∧ (T [c]).length = 1 then Out.ok (Dv.d (.str (Txt.ljustF (T l) k c))) μ else Out.bad) = _
  rw [if_pos ⟨padOk h, rfl⟩, ljustF_T]
theorem dRjust {l : List Nat} {k c : Nat} (h : k ≤ 16000000) : dPadF Txt.rjustF (.d (.str (T l))) [.d (.int k), .d (.str (T [c]))] μ = .ok (.d (.str (T (List.replicate (k - l.length) c ++ l)))) μ := by
  show (if PadOk (k : Int) = true ∧ (T [c]).length = 1 then Out.ok (Dv.d (.str (Txt.rjustF (T l) k c))) μ else Out.bad) = _
  rw [if_pos ⟨padOk h, rfl⟩, rjustF_T]
theorem tw_self {s : Nat} : ∀ {l : List Nat}, s ∉ l → l.takeWhile (· != s) = l
  | [], _ => rfl
  | c :: l, h => by
    have h1 : (c != s) = true := by simp; exact fun q => h (q ▸ List.mem_cons_self)
    rw [List.takeWhile_cons, h1, if_pos rfl, tw_self fun q => h (List.mem_cons_of_mem _ q)]
theorem dw_nil {s : Nat} : ∀ {l : List Nat}, s ∉ l → l.dropWhile (· != s) = []
  | [], _ => rfl
  | c :: l, h => by
    have h1 : (c != s) = true := by simp; exact fun q => h (q ▸ List.mem_cons_self)
    rw [List.dropWhile_cons, h1, if_pos rfl, dw_nil fun q => h (List.mem_cons_of_mem _ q)]
theorem dPart_one {l : List Nat} {s : Nat} (h : l.length ≤ 16000000) : dPartition (.d (.str (T l))) [.d (.str (T [s]))] μ = .ok (.d (.tuple [.str (T (l.takeWhile (· != s))), .str (T (if s ∈ l then [s] else [])), .str (T ((l.dropWhile (· != s)).drop 1))])) μ := by
  show (if ((T [s]).length == 0) = false ∧ (T l).length ≤ sizeLine then Out.ok (Dv.d (PyData.tuple [.str (Txt.partition (T l) (T [s])).1, .str (Txt.partition (T l) (T [s])).2.1, .str (Txt.partition (T l) (T [s])).2.2])) μ else Out.bad) = _
  have hb := line_big
  rw [if_pos ⟨rfl, by rw [T_len]; omega⟩, part_T, par_one]
  by_cases q : s ∈ l
  · rw [if_pos q, if_pos q]
    rfl
  · rw [if_neg q, if_neg q]
    have e1 := tw_self q
    have e2 := dw_nil q
    rw [e1, e2]
    rfl
def zs (n : Nat) : List Nat := List.replicate n 48
theorem dAdd_ll {xs ys : List D} (h : xs.length + ys.length ≤ 16000000) : dAdd (.d (.list xs)) (.d (.list ys)) μ = .ok (.d (.list (xs ++ ys))) μ := by
  show dList (xs.map Dv.d ++ ys.map Dv.d) μ = _
  rw [← List.map_append]
  exact dList_d (by rw [List.length_append]; exact Nat.le_trans h line_big)
theorem dSplit_one {l : List Nat} {s : Nat} (hs : s < 256) (h : l.length ≤ 15000000) : dSplit (.d (.str (T l))) [.d (.str (T [s]))] μ = .ok (.d (.list ((splitL s [] l).map fun p => .str (T p)))) μ := by
  have hb := line_big
  show (if ((T [s]).length == 0) = false ∧ (T l).length + 2 ≤ sizeLine then Out.ok (Dv.d (.list ((Txt.split (T l) (T [s])).map .str))) μ else Out.bad) = _
  rw [if_pos ⟨rfl, by rw [T_len]; omega⟩, split_T _ _ hs, spl_one, List.map_map]
  rfl
theorem splitL_no {s : Nat} : ∀ {l acc : List Nat}, s ∉ l → splitL s acc l = [acc ++ l]
  | [], acc, _ => by rw [List.append_nil]; rfl
  | c :: l, acc, h => by
    have h1 : ¬ c = s := fun q => h (q ▸ List.mem_cons_self)
    rw [splitL, if_neg h1, splitL_no fun q => h (List.mem_cons_of_mem _ q)]
    simp
theorem splitL_app {s : Nat} : ∀ {a acc r : List Nat}, s ∉ a → splitL s acc (a ++ s :: r) = (acc ++ a) :: splitL s [] r
  | [], acc, r, _ => by
    rw [List.nil_append, splitL, if_pos rfl, List.append_nil]
  | c :: a, acc, r, h => by
    have h1 : ¬ c = s := fun q => h (q ▸ List.mem_cons_self)
    rw [List.cons_append, splitL, if_neg h1, splitL_app fun q => h (List.mem_cons_of_mem _ q)]
    simp
theorem splitL_ne {s : Nat} : ∀ {l acc : List Nat}, splitL s acc l ≠ []
  | [], acc => by unfold splitL; simp
  | c :: l, acc => by
    unfold splitL
    split
    · simp
    · exact splitL_ne
theorem cut_at {s : Nat} : ∀ {l : List Nat}, s ∈ l → ∃ a r, l = a ++ s :: r ∧ s ∉ a
  | c :: l, h => by
    by_cases hc : c = s
    · exact ⟨[], l, by rw [hc]; rfl, by simp⟩
    · obtain ⟨a, r, e, n⟩ := cut_at (l := l) (by
        rcases List.mem_cons.mp h with h | h
        · exact absurd h.symm hc
        · exact h)
      exact ⟨c :: a, r, by rw [e]; rfl, by simp; exact ⟨fun q => hc q.symm, n⟩⟩
theorem tw_app {s : Nat} : ∀ {a r : List Nat}, s ∉ a → (a ++ s :: r).takeWhile (· != s) = a
  | [], r, _ => by simp
  | c :: a, r, h => by
    have h1 : (c != s) = true := by simp; exact fun q => h (q ▸ List.mem_cons_self)
    rw [List.cons_append, List.takeWhile_cons, h1, if_pos rfl, tw_app fun q => h (List.mem_cons_of_mem _ q)]
theorem dw_app {s : Nat} : ∀ {a r : List Nat}, s ∉ a → ((a ++ s :: r).dropWhile (· != s)).drop 1 = r
  | [], r, _ => by simp
  | c :: a, r, h => by
    have h1 : (c != s) = true := by simp; exact fun q => h (q ▸ List.mem_cons_self)
    rw [List.cons_append, List.dropWhile_cons, h1, if_pos rfl, dw_app fun q => h (List.mem_cons_of_mem _ q)]
/-- a comprehension over the signs of a text -/
theorem lcF_signs {i : Nat} {te : ME} {vs : List Nat} {l : List Nat} {f : Nat → D} (hl : l.length ≤ 16000000) (h : ∀ c ∈ l, te ((wipeD ρ vs).set i (some (.d (.str (T [c]))))) μ = .ok (.d (f c)) μ) :
    lcF dList (gN i) tYesM te vs ρ (l.map fun c => .d (.str (T [c]))) μ = .ok (.d (.list (l.map f))) μ := by
  have hb := line_big
  refine lcF_list ?_ (by rw [List.length_map]; omega) (by rw [List.length_map]; omega)
  have := lcM_map (g := gN i) (te := te) (ρ := wipeD ρ vs) (μ := μ) (f := fun b => match b with | .d (.str z) => .d (f (z.cps.toList.headD 0)) | b => b) (bs := l.map fun c => .d (.str (T [c]))) (by
    intro b hb
    obtain ⟨c, hc, rfl⟩ := List.mem_map.mp hb
    exact ⟨_, rfl, h c hc⟩)
  rw [this, List.map_map, List.map_map]
  rfl
end
end DL

/-! repr of small data, a sign times a number. -/
namespace DL
open PySem PySem.Spec PyProof.Rows L2
section
variable {μ : Store} {ρ : DEnv}
theorem str_len_app (x y : Str) : (x ++ y).length = x.length + y.length := by
  rw [← T_tl x, ← T_tl y, T_app, T_len, T_len, T_len, List.length_append]
theorem dMulA_s1 {z : List Nat} (h : z.length ≤ 1000) : dMulA (.d (.str (T z))) (.d (.int 1)) μ = .ok (.d (.str (T z))) μ := by
  have hb := line_big
  show (if (decide (-(2 ^ 31) ≤ (1 : Int)) && decide ((1 : Int) < 2 ^ 31) && decide ((T z).length * (1 : Int).toNat ≤ sizeLine) && decide ((1 : Int) < 1 ∨ ((T z).length : Int) ≤ (2 ^ 63 - 1) / 1)) = true then Out.ok (Dv.d (.str (Txt.mul (T z) 1))) μ else .bad) = _
  rw [if_pos (by
    rw [T_len]
    simp only [Bool.and_eq_true, decide_eq_true_eq]
    refine ⟨⟨⟨by decide, by decide⟩, ?_⟩, .inr ?_⟩
    · show z.length * 1 ≤ _; omega
    · omega)]
  rfl
theorem dMulA_s0 {z : List Nat} : dMulA (.d (.str (T z))) (.d (.int 0)) μ = .ok (.d (.str (T []))) μ := by
  show (if (decide (-(2 ^ 31) ≤ (0 : Int)) && decide ((0 : Int) < 2 ^ 31) && decide ((T z).length * (0 : Int).toNat ≤ sizeLine) && decide ((0 : Int) < 1 ∨ ((T z).length : Int) ≤ (2 ^ 63 - 1) / 0)) = true then Out.ok (Dv.d (.str (Txt.mul (T z) 0))) μ else .bad) = _
  rw [if_pos (by
    simp only [Bool.and_eq_true, decide_eq_true_eq]
    refine ⟨⟨⟨by decide, by decide⟩, ?_⟩, .inl (by decide)⟩
    show (T z).length * 0 ≤ _; omega)]
  rfl
/-- none or a number of at most 40 figures -/
def smallD : D → Bool
  | .none => true
  | .int i => decide (i.natAbs < 10 ^ 40)
  | _ => false
theorem small_len {x : D} (h : smallD x = true) : x.shown.length ≤ 41 := by
  cases x with
  | none => show Str.length "None" ≤ 41; decide +kernel
  | int i =>
    have h : i.natAbs < 10 ^ 40 := of_decide_eq_true h
    show Str.length (Str.ofString (toString i)) ≤ 41
    rcases Int.le_total 0 i with hi | hi
    · obtain ⟨n, rfl⟩ := Int.eq_ofNat_of_zero_le hi
      have e : Str.ofString (toString (n : Int)) = T (TL.numL n) := TL.ext_tl (by rw [TL.tl_num n]; rfl)
      rw [e, T_len]
      exact Nat.le_trans (TL.numL_len (by decide) (k := 40) (by simpa using h)) (by decide)
    · obtain ⟨n, hn⟩ := Int.eq_ofNat_of_zero_le (a := -i) (by omega)
      have : i = -(n : Int) := by omega
      subst this
      by_cases h0 : 0 < n
      · rw [toString_neg n h0]
        have e : Str.ofString ("-" ++ toString (n : Int)) = T (45 :: TL.numL n) := TL.ext_tl (by
          rw [TL.tl_ofString, String.toList_append, List.map_append]
          have e2 := TL.tl_ofString (toString (n : Int))
          rw [TL.tl_num n] at e2
          rw [← e2]
          rfl)
        rw [e, T_len, List.length_cons]
        have := TL.numL_len (n := n) (by decide) (k := 40) (by simpa using h)
        omega
      · have : n = 0 := by omega
        subst this
        decide +kernel
  | bool b => cases h
  | str z => cases h
  | list ds => cases h
  | tuple ds => cases h
  | dict ds => cases h
theorem small_show {x : D} (h : smallD x = true) : x.showable = true ∧ nodict x = true ∧ x.hasDict = false ∧ x.depth = 0 := by
  cases x with
  | none => exact ⟨rfl, rfl, rfl, rfl⟩
  | int i =>
    refine ⟨?_, rfl, rfl, rfl⟩
    have h : i.natAbs < 10 ^ 40 := of_decide_eq_true h
    show decide (i.natAbs.log2 < 1920) = true
    have h2 : i.natAbs < 2 ^ 200 := Nat.lt_trans h (by decide)
    have := log2_lt (i := i) (n := 200) h2 (by decide)
    exact decide_eq_true (by omega)
  | bool b => cases h
  | str z => cases h
  | list ds => cases h
  | tuple ds => cases h
  | dict ds => cases h
theorem dRepr_1 {x : D} (h : smallD x = true) : dRepr [.d x] μ = .ok (.d (.str x.shown)) μ := by
  have hb := line_big
  have h1 := small_len h
  obtain ⟨a, b, c, d⟩ := small_show h
  show (if (x.showable && nodict x && !x.hasDict && decide (x.depth ≤ 40) && decide (x.shown.length ≤ sizeLine)) = true then Out.ok (Dv.d (.str x.shown)) μ else .bad) = _
  rw [if_pos (by rw [a, b, c, d]; simp; omega)]
theorem dRepr_2 {x : D} (h : smallD x = true) : dRepr [.d (.list [x, x])] μ = .ok (.d (.str (PyData.list [x, x]).shown)) μ := by
  have hb := line_big
  have h1 := small_len h
  obtain ⟨a, b, c, d⟩ := small_show h
  have hl : (PyData.list [x, x]).shown.length ≤ 1000 := by
    show Str.length (listText [x.shown, x.shown]) ≤ 1000
    unfold listText
    simp only [textFrom, str_len_app]
    have e1 : Str.length ("[" : Str) = 1 := by decide +kernel
    have e2 : Str.length ("]" : Str) = 1 := by decide +kernel
    have e3 : Str.length (", " : Str) = 2 := by decide +kernel
    have e4 : Str.length ("" : Str) = 0 := by decide +kernel
    simp [e1, e2, e3, e4]
    omega
  show (if ((x.showable && (x.showable && true)) && nodict (.list [x, x]) && !(x.hasDict || (x.hasDict || false)) && decide (max x.depth (max x.depth 0) + 1 ≤ 40) && decide ((PyData.list [x, x]).shown.length ≤ sizeLine)) = true then Out.ok (Dv.d (.str (PyData.list [x, x]).shown)) μ else .bad) = _
  have hn : nodict (.list [x, x]) = true := by simp [nodict, nodicts, b]
  rw [if_pos (by rw [a, c, d, hn]; simp; omega)]
end
end DL

/-! zip of lists, tuples, texts in any mix. -/
namespace DL
open PySem PySem.Spec PyProof.Rows L2

inductive Sc where
  | li (a : Addr) | tu (a : Addr) | tx (z : Str)
def Sc.v : Sc → V
  | .li a => .ref a
  | .tu a => .ref a
  | .tx z => .str z
def Sc.at (K : PySem.W.Frag) (H : Hp) : Sc → List V → Prop
  | .li a, xs => SqL K H a xs
  | .tu a, xs => SqT K H a xs
  | .tx z, xs => xs = z.cps.toList.map fun c => V.str ⟨#[c]⟩
def Sc.st (it : Addr) (i : Nat) (h : Heap) : Sc → Prop
  | .li a => h.IsListIter it a i
  | .tu a => h.IsTupleIter it a i
  | .tx z => ∃ t, h.IsStrIter it (strIterType z) z t i
def Sc.fp (it : Addr) : Sc → List Addr
  | .li a => [it, a]
  | .tu a => [it, a]
  | .tx _ => [it]
def Sc.apart (it : Addr) : Sc → Prop
  | .li a => a ≠ it
  | .tu a => a ≠ it
  | .tx _ => True
section
variable {X : Cx} {pins : List (Addr × Obj)} {σ : L2.St} {H : Hp} {s : Shared}
theorem Sc.draws (I : Inv X pins σ H s) (hh : X.A.handled = none) {it : Addr} {i : Nat} : ∀ {c : Sc} {xs : List V}, c.at X.K H xs → c.apart it → c.st it i s.heap →
    ∃ (P : Nat → Value → Prop) (St : Nat → Heap → Prop), Draws X.prog X.w X.A.in1 it (c.fp it) xs.length P St ∧ (∀ j h', St j h' → c.st it j h') ∧ St i s.heap ∧ ∀ j v, P j v → ∃ x, xs[j]? = some x ∧ RelV x v
  | .li a, xs, h, hn, st => by
    obtain ⟨its, rv, pl, _⟩ := I.list h
    have D := Draws.list (prog := X.prog) (w := X.w) (A := X.A.in1) hh it a hn its.toArray
    have hl : its.toArray.size = xs.length := by rw [List.size_toArray]; exact rv.length.symm
    rw [hl] at D
    refine ⟨_, _, D, fun j h' q => q.1, ⟨st, pl.isList⟩, fun j v q => ?_⟩
    have q : its[j]? = some v := by simpa using q
    have hj : j < xs.length := by rw [← hl, List.size_toArray]; exact (List.getElem?_eq_some_iff.mp q).1
    obtain ⟨u, h1, h2⟩ := rv.get (show xs[j]? = some xs[j] by simp [hj])
    rw [q] at h1
    cases h1
    exact ⟨_, by simp [hj], h2⟩
  | .tu a, xs, h, hn, st => by
    obtain ⟨its, rv, pl, _⟩ := I.tuple h
    have D := Draws.tuple (prog := X.prog) (w := X.w) (A := X.A.in1) hh it a hn its.toArray
    have hl : its.toArray.size = xs.length := by rw [List.size_toArray]; exact rv.length.symm
    rw [hl] at D
    refine ⟨_, _, D, fun j h' q => q.1, ⟨st, pl⟩, fun j v q => ?_⟩
    have q : its[j]? = some v := by simpa using q
    have hj : j < xs.length := by rw [← hl, List.size_toArray]; exact (List.getElem?_eq_some_iff.mp q).1
    obtain ⟨u, h1, h2⟩ := rv.get (show xs[j]? = some xs[j] by simp [hj])
    rw [q] at h1
    cases h1
    exact ⟨_, by simp [hj], h2⟩
  | .tx z, xs, h, hn, st => by
    obtain ⟨t, st⟩ := st
    have D := Draws.text (prog := X.prog) (w := X.w) (A := X.A.in1) hh it z t
    have h : xs = z.cps.toList.map fun c => V.str ⟨#[c]⟩ := h
    subst h
    have hl : z.cps.size = (z.cps.toList.map fun c => V.str ⟨#[c]⟩).length := by simp
    rw [hl] at D
    refine ⟨_, _, D, fun j h' q => ⟨t, q⟩, st, fun j v q => ?_⟩
    obtain ⟨c, u, q, rfl⟩ := q
    refine ⟨.str ⟨#[c]⟩, ?_, ⟨u, rfl⟩⟩
    rw [List.getElem?_map, Array.getElem?_toList, q]
    rfl
end
def ItzX (K : PySem.W.Frag) (c1 c2 : Sc) (xs ys : List V) : It :=
  ⟨fun i H => c1.at K H xs ∧ c2.at K H ys ∧ i < xs.length ∧ i < ys.length,
    fun i H v H' => ∃ T x y its, v = .ref T ∧ H T = none ∧ H' = upd H T (frT its [x, y]) ∧ xs[i]? = some x ∧ ys[i]? = some y,
    fun i H => c1.at K H xs ∧ c2.at K H ys ∧ min xs.length ys.length ≤ i⟩
theorem Sc.keep {it : Addr} {i : Nat} {h h' : Heap} : ∀ {c : Sc}, c.st it i h → (∀ o, h.get? it = some o → h'.get? it = some o) → c.st it i h'
  | .li a, st, k => st.at fun o e => k o e
  | .tu a, st, k => st.at fun o e => k o e
  | .tx z, ⟨t, o, e, r⟩, k => ⟨t, o, k o e, r⟩
theorem Sc.objs {it : Addr} {i : Nat} {h : Heap} : ∀ {c : Sc}, c.st it i h → ∃ o, h.get? it = some o ∧ ∀ v, o.data ≠ .cell v
  | .li a, ⟨o, e, _, d⟩ => ⟨o, e, fun v q => by rw [d] at q; cases q⟩
  | .tu a, ⟨o, e, _, d⟩ => ⟨o, e, fun v q => by rw [d] at q; cases q⟩
  | .tx z, ⟨t, o, e, _, d⟩ => ⟨o, e, fun v q => by rw [d] at q; cases q⟩
theorem turn_zipX {P : Program} {w : World} {K : PySem.W.Frag} {elts : List Expr} {kk : Nat} {tpos : Pos} {z TI TO i1 i2 : Addr} {c1 c2 : Sc} {xs ys : List V} (S : ZipSep2 z TI TO i1 i2 (c1.fp i1) (c2.fp i2)) (h12 : i1 ≠ i2) (n1 : c1.apart i1) (n2 : c2.apart i2) :
    Turn P w K (.Tuple elts kk tpos) (ItzX K c1 c2 xs ys) [z, TI, TO, i1, i2] z (fun i h => (IsZip h z TI TO .none ∧ IsTupOf2 h TI (.ref i1) (.ref i2) ∧ (∃ x y, IsTupOf2 h TO x y) ∧ c1.st i1 i h ∧ c2.st i2 i h) ∧ i ≤ min xs.length ys.length) where
  mem := by simp
  obj := fun i h st c hc => by
    obtain ⟨⟨hz, hTI, ⟨x, y, hTO⟩, s1, s2⟩, _⟩ := st
    have e' : c = z ∨ c = TI ∨ c = TO ∨ c = i1 ∨ c = i2 := by simpa using hc
    rcases e' with q | q | q | q | q
    · rw [q]; exact ⟨_, hz, fun v q => nomatch q⟩
    · rw [q]; exact ⟨_, hTI, fun v q => nomatch q⟩
    · rw [q]; exact ⟨_, hTO, fun v q => nomatch q⟩
    · rw [q]; exact Sc.objs s1
    · rw [q]; exact Sc.objs s2
  keep := fun i h h' st k => by
    obtain ⟨⟨hz, hTI, ⟨x, y, hTO⟩, s1, s2⟩, hi⟩ := st
    exact ⟨⟨k z (by simp) _ hz, k TI (by simp) _ hTI, ⟨x, y, k TO (by simp) _ hTO⟩, Sc.keep s1 fun o q => k i1 (by simp) o q, Sc.keep s2 fun o q => k i2 (by simp) o q⟩, hi⟩
  item := by
    intro X hP hw hK hc i pins s σ H E I hf st hg
    subst hP hw hK
    obtain ⟨⟨hz, hTI, ⟨x0, y0, hTO⟩, s1, s2⟩, _⟩ := st
    obtain ⟨a1, a2, l1, l2⟩ := hg
    obtain ⟨P1, St1, D1, k1, t1, r1⟩ := Sc.draws I (I.ok.hd hc) a1 n1 s1
    obtain ⟨P2, St2, D2, k2, t2, r2⟩ := Sc.draws I (I.ok.hd hc) a2 n2 s2
    have hzl : z < s.heap.objs.size := Heap.lt_size hz
    have hTIl : TI < s.heap.objs.size := Heap.lt_size hTI
    have hTOl : TO < s.heap.objs.size := Heap.lt_size hTO
    have hi1l : i1 < s.heap.objs.size := by obtain ⟨_, e, _⟩ := Sc.objs s1; exact Heap.lt_size e
    have hi2l : i2 < s.heap.objs.size := by obtain ⟨_, e, _⟩ := Sc.objs s2; exact Heap.lt_size e
    refine wpAny_pyNext_zipD2_item S D1 D2 hz hTI hTO t1 t2 l1 l2 fun u u2 h' tk p1 p2 z' TO' s1' s2' hT hsz hk => ?_
    obtain ⟨x, hx, ru⟩ := r1 _ _ p1
    obtain ⟨y, hy, ru2⟩ := r2 _ _ p2
    refine ⟨_, rfl, wpAny_letOwnedTupleGo_zip (s := { s with heap := h', toks := tk }) z' fun h'' z'' sb => ?_⟩
    have hT2 : h''.get? s.heap.objs.size = some { cls := .type "tuple", data := .seq #[u, u2] } := (sb.2 _ (Nat.ne_of_gt hzl)).trans hT
    have new : ObjOk X.prog X.w (upd H s.heap.objs.size (frT #[u, u2] [x, y])) h'' s.heap.objs.size (frT #[u, u2] [x, y]) :=
      frT_ok (its := [u, u2]) (by show 2 ≤ sizeLine; decide) (.cons ru (.cons ru2 .nil)) hT2
    have I1 : Inv X pins σ (upd H s.heap.objs.size (frT #[u, u2] [x, y])) { s with heap := h'', toks := tk } :=
      I.turnedNew (t' := tk) (ch := [z, TI, TO, i1, i2]) (fun c o hb q => (sb.2 c (fun q' => hb (by simp [q']))).trans (hk c o (fun q' => hb (by simp [q'])) (fun q' => hb (by simp [q'])) (fun q' => hb (by simp [q'])) (fun q' => hb (by simp [q'])) q)) hf (Nat.le_refl _) new
    refine ⟨.ref s.heap.objs.size, _, I1, rfl, ⟨_, x, y, _, rfl, I.hok.fresh (Nat.le_refl _), rfl, hx, hy⟩, ⟨⟨z'', ?_, ⟨u, u2, ?_⟩, ?_, ?_⟩, by omega⟩, fun c hcm => ?_⟩
    · exact (sb.2 _ S.TIz).trans (hk _ _ S.TIz S.TITO S.TIi1 S.TIi2 hTI)
    · exact (sb.2 _ S.TOz).trans TO'
    · exact Sc.keep (k1 _ _ s1') fun o q => (sb.2 _ S.zi1.symm).trans q
    · exact Sc.keep (k2 _ _ s2') fun o q => (sb.2 _ S.zi2.symm).trans q
    · have hlt : c < s.heap.objs.size := by
        have e' : c = z ∨ c = TI ∨ c = TO ∨ c = i1 ∨ c = i2 := by simpa using hcm
        rcases e' with q | q | q | q | q <;> rw [q] <;> assumption
      rw [upd_ne (Nat.ne_of_lt hlt)]
      exact (hf c hcm).1
  done := by
    intro X hP hw hK hc i pins s σ H E I hf st hg
    subst hP hw hK
    obtain ⟨⟨hz, hTI, ⟨x0, y0, hTO⟩, s1, s2⟩, hi⟩ := st
    obtain ⟨a1, a2, hend⟩ := hg
    obtain ⟨P1, St1, D1, k1, t1, r1⟩ := Sc.draws I (I.ok.hd hc) a1 n1 s1
    obtain ⟨P2, St2, D2, k2, t2, r2⟩ := Sc.draws I (I.ok.hd hc) a2 n2 s2
    exact wpAny_pyNext_zipD2_end S D1 D2 hz hTI hTO t1 t2 (by omega) (by omega) (by omega) fun h' tk hk => ⟨rfl, I.turnedL (t' := tk) (ch := [z, TI, TO, i1, i2]) (fun c o hb q =>
      hk c o (fun q' => hb (by simp [q'])) (fun q' => hb (by simp [q'])) (fun q' => hb (by simp [q'])) (fun q' => hb (by simp [q'])) q) hf⟩
  self := fun A i s Q E st h => wpAny_pyIter_zip st.1.1 h
/-! ### the walk of zip(a, b) -/
theorem Sc.begins {X : Cx} {pins : List (Addr × Obj)} {σ : L2.St} {H : Hp} {s : Shared} (I : Inv X pins σ H s) : ∀ {c : Sc} {xs : List V} {u : Value}, c.at X.K H xs → RelV c.v u → ∃ (o : Obj) (H1 : Heap → Prop), Begins u o H1 ∧ H1 s.heap ∧ (∀ h it, h.get? it = some o → c.st it 0 h) ∧ ∀ b ∈ c.fp s.heap.objs.size, b < s.heap.objs.size ∨ b = s.heap.objs.size
  | .li a, xs, u, h, r => by
    cases r
    obtain ⟨its, rv, pl, _⟩ := I.list h
    refine ⟨_, _, begins_list a its.toArray, pl.isList, fun h it e => ⟨_, e, rfl, rfl⟩, fun b hb => ?_⟩
    have hb : b = s.heap.objs.size ∨ b = a := by simpa [Sc.fp] using hb
    rcases hb with hb | hb
    · exact .inr hb
    · exact .inl (by rw [hb]; exact pl.lt)
  | .tu a, xs, u, h, r => by
    cases r
    obtain ⟨its, rv, pl, _⟩ := I.tuple h
    refine ⟨_, _, begins_tuple a its.toArray, pl, fun h it e => ⟨_, e, rfl, rfl⟩, fun b hb => ?_⟩
    have hb : b = s.heap.objs.size ∨ b = a := by simpa [Sc.fp] using hb
    rcases hb with hb | hb
    · exact .inr hb
    · obtain ⟨o, e, _⟩ := pl
      exact .inl (by rw [hb]; exact Heap.lt_size e)
  | .tx z, xs, u, h, r => by
    obtain ⟨t, rfl⟩ := r
    refine ⟨_, _, begins_text z t, trivial, fun h it e => ⟨t, _, e, rfl, rfl⟩, fun b hb => ?_⟩
    have hb : b = s.heap.objs.size := by simpa [Sc.fp] using hb
    exact .inr hb
def Sc.src : Sc → Option Addr
  | .li a => some a
  | .tu a => some a
  | .tx _ => none
theorem Sc.fp_mem {c : Sc} {it b : Addr} (h : b ∈ c.fp it) : b = it ∨ c.src = some b := by
  cases c with
  | li a =>
    have hb : b = it ∨ b = a := by simpa [Sc.fp] using h
    rcases hb with h | h
    · exact .inl h
    · exact .inr (by rw [h]; rfl)
  | tu a =>
    have hb : b = it ∨ b = a := by simpa [Sc.fp] using h
    rcases hb with h | h
    · exact .inl h
    · exact .inr (by rw [h]; rfl)
  | tx z => exact .inl (by simpa [Sc.fp] using h)
theorem Sc.mem_fp {c : Sc} {it : Addr} : it ∈ c.fp it := by cases c <;> simp [Sc.fp]
theorem Sc.apart_of {c : Sc} {it : Addr} (h : ∀ a, c.src = some a → a ≠ it) : c.apart it := by
  cases c with
  | li a => exact h a rfl
  | tu a => exact h a rfl
  | tx z => trivial
theorem Sc.src_lt {X : Cx} {pins : List (Addr × Obj)} {σ : L2.St} {H : Hp} {s : Shared} (I : Inv X pins σ H s) : ∀ {c : Sc} {xs : List V} {a : Addr}, c.at X.K H xs → c.src = some a → a < s.heap.objs.size
  | .li a, xs, b, h, e => by
    cases e
    obtain ⟨its, rv, pl, _⟩ := I.list h
    exact pl.lt
  | .tu a, xs, b, h, e => by
    cases e
    obtain ⟨its, rv, ⟨o, e, _⟩, _⟩ := I.tuple h
    exact Heap.lt_size e
  | .tx z, xs, b, h, e => by cases e
def iZipX (K : PySem.W.Frag) (ta : TA) : TI := fun σ H R => ta σ H fun vs H1 => ∃ c1 c2 xs ys, vs = [Sc.v c1, Sc.v c2] ∧ c1.at K H1 xs ∧ c2.at K H1 ys ∧ R (ItzX K c1 c2 xs ys) H1
theorem pi_zipX {X : Cx} {e e2 : Expr} {ta : TA} {p pos tpos : Pos} {elts : List Expr} {kk : Nat} (hg : Gl X "zip") (hm : X.mg "zip" = none) (ha : PA X [e, e2] ta)
    (hs : starEach [e, e2] X.env = (false, eval e X.env) :: starEach [e2] X.env := by rfl) (hpl : (backTo pos (starEach [e2] X.env)).any (·.1) = false := by rfl) :
    PI X (.Tuple elts kk tpos) (.Call (.Name "zip" p) [e, e2] [] pos) (iZipX X.K ta) := by
  refine ⟨fun pins s σ H R I h => ?_⟩
  refine Call_ (ld_blt I hg hm PyProof.Rows.boot_zip (PyProof.Rows.callWith_type1 (thn (ha.run pos pins s σ H _ I h) fun us s1 ⟨vs, H1, I1, r1, q1⟩ => ?_) hs hpl))
  obtain ⟨c1, c2, xs, ys, ex, a1, a2, q⟩ := q1
  subst ex
  cases r1 with
  | cons r rr =>
    cases rr with
    | cons r' rr =>
      cases rr
      obtain ⟨o1, H1', B1, b1, k1, _⟩ := Sc.begins I1 a1 r
      obtain ⟨o2, H2', B2, b2, k2, _⟩ := Sc.begins I1 a2 r'
      have fresh5 : ∀ c, c ∈ [s1.heap.objs.size + 4, s1.heap.objs.size + 2, s1.heap.objs.size + 3, s1.heap.objs.size, s1.heap.objs.size + 1] → FpOk X pins H1 c := fun c hcm => by
        have e' : c = s1.heap.objs.size + 4 ∨ c = s1.heap.objs.size + 2 ∨ c = s1.heap.objs.size + 3 ∨ c = s1.heap.objs.size ∨ c = s1.heap.objs.size + 1 := by simpa using hcm
        have hle : s1.heap.objs.size ≤ c := by
          rcases e' with z | z | z | z | z
          · rw [z]; exact Nat.le_add_right _ _
          · rw [z]; exact Nat.le_add_right _ _
          · rw [z]; exact Nat.le_add_right _ _
          · rw [z]; exact Nat.le_refl _
          · rw [z]; exact Nat.le_add_right _ _
        exact I1.fpOk hle (I1.hok.fresh hle)
      have lt1 : ∀ a, c1.src = some a → a < s1.heap.objs.size := fun a e => Sc.src_lt I1 a1 e
      have lt2 : ∀ a, c2.src = some a → a < s1.heap.objs.size := fun a e => Sc.src_lt I1 a2 e
      refine zip_begins2 B1 B2 b1 b2 fun h' hz hTI hTO h1 h2 hsz hk => wpAny_pyIter_zip hz ?_
      have I2 : Inv X pins σ H1 { s1 with heap := h' } := I1.kept (t' := s1.toks) hk
      have g1 : ∀ b, s1.heap.objs.size < b → b ∉ c1.fp s1.heap.objs.size := fun b hb hm => by
        rcases Sc.fp_mem hm with e | e
        · exact absurd e (Nat.ne_of_gt hb)
        · exact absurd (lt1 b e) (Nat.not_lt_of_gt hb)
      have g2 : ∀ b, s1.heap.objs.size ≤ b → b ≠ s1.heap.objs.size + 1 → b ∉ c2.fp (s1.heap.objs.size + 1) := fun b hb hne hm => by
        rcases Sc.fp_mem hm with e | e
        · exact absurd e hne
        · exact absurd (lt2 b e) (Nat.not_lt_of_ge hb)
      have S : ZipSep2 (s1.heap.objs.size + 4) (s1.heap.objs.size + 2) (s1.heap.objs.size + 3) s1.heap.objs.size (s1.heap.objs.size + 1) (c1.fp s1.heap.objs.size) (c2.fp (s1.heap.objs.size + 1)) := by
        generalize s1.heap.objs.size = n at *
        exact ⟨by simp, by simp, by simp, by simp, Sc.mem_fp, g1 _ (by omega), g1 _ (by omega), by simp, Sc.mem_fp, g2 _ (by omega) (by simp), g2 _ (by omega) (by simp), g2 _ (Nat.le_refl _) (by simp), g1 _ (by omega)⟩
      exact ⟨s1.heap.objs.size + 4, [s1.heap.objs.size + 4, s1.heap.objs.size + 2, s1.heap.objs.size + 3, s1.heap.objs.size, s1.heap.objs.size + 1], _, _, H1, rfl, I2,
        turn_zipX S (by simp) (Sc.apart_of fun a e => Nat.ne_of_lt (lt1 a e)) (Sc.apart_of fun a e => Nat.ne_of_lt (Nat.lt_succ_of_lt (lt2 a e))), ⟨⟨hz, hTI, ⟨_, _, hTO⟩, k1 _ _ h1, k2 _ _ h2⟩, Nat.zero_le _⟩, fresh5, q⟩

/-! ### zip as data -/
def srcD : Dv → Option (List D)
  | .d (.list ds) => some ds
  | .d (.tuple ds) => some ds
  | .d (.str z) => some (z.cps.toList.map fun c => .str ⟨#[c]⟩)
  | _ => none
def zipD : List Dv → Store → Out (List Dv)
  | [x, y], μ => match srcD x, srcD y with
    | some ds, some es => .ok ((ds.zip es).map fun p => .d (.tuple [p.1, p.2])) μ
    | _, _ => .bad
  | _, _ => .bad
section
variable {G : GT} {w : Wd}
theorem RpA_signs {K : PySem.W.Frag} {I : Hp} : ∀ l : List Nat, RpA K I (l.map fun c => V.str ⟨#[c]⟩) (l.map fun c => PyData.str ⟨#[c]⟩)
  | [] => .nil
  | c :: l => .cons (.str _) (RpA_signs l)
theorem src_ok {v : V} {b : Dv} {ds : List D} (r : Rv G w v b) (h : srcD b = some ds) : ∃ c xs, v = Sc.v c ∧ c.at G.K w.I xs ∧ RpA G.K w.I xs ds := by
  unfold srcD at h
  split at h
  · cases h
    obtain ⟨a, xs, rfl, h1, h2⟩ := rv_lst r
    exact ⟨.li a, xs, rfl, h1, h2⟩
  · cases h
    obtain ⟨a, xs, rfl, h1, h2⟩ := rv_tup r
    exact ⟨.tu a, xs, rfl, h1, h2⟩
  · rename_i z
    cases h
    rw [rv_str r]
    exact ⟨.tx z, _, rfl, rfl, RpA_signs _⟩
  · cases h
theorem Sc.mono {K : PySem.W.Frag} {H H' : Hp} (e : Same H H') : ∀ {c : Sc} {xs : List V}, c.at K H xs → c.at K H' xs
  | .li a, _, h => seqL e h
  | .tu a, _, h => seqT e h
  | .tx z, _, h => h
theorem it_zip {c1 c2 : Sc} {xs ys : List V} {ds es : List D} (h1 : c1.at G.K w.I xs) (h2 : c2.at G.K w.I ys) (r1 : RpA G.K w.I xs ds) (r2 : RpA G.K w.I ys es) :
    ItR G w (ItzX G.K c1 c2 xs ys) ((ds.zip es).map fun p => .d (.tuple [p.1, p.2])) where
  go := fun i w' μ H hi l lay => by
    rw [List.length_map, List.length_zip] at hi
    have a := r1.length
    have b := r2.length
    exact ⟨Sc.mono (Same.trans l.1 lay.same) h1, Sc.mono (Same.trans l.1 lay.same) h2, by omega, by omega⟩
  yld := fun i b w' μ H x H' e l lay y => by
    obtain ⟨T, u, v, its, rfl, hT, rfl, hx, hy⟩ := y
    obtain ⟨d, hd, rd⟩ := r1.get hx
    obtain ⟨f, hf, rf⟩ := r2.get hy
    rw [List.getElem?_map] at e
    have ez : (ds.zip es)[i]? = some (d, f) := by rw [List.getElem?_zip_eq_some]; exact ⟨hd, hf⟩
    rw [ez] at e
    cases e
    obtain ⟨le, l2⟩ := lay.new hT (frT its [u, v])
    refine ⟨_, le, l2, ?_⟩
    exact .tup (SqS.of upd_same) (RpA.mono (Same.trans l.1 le.1) _ _ (.cons rd (.cons rf .nil)))
  stop := fun i w' μ H hi l lay => by
    rw [List.length_map, List.length_zip] at hi
    have a := r1.length
    have b := r2.length
    exact ⟨Sc.mono (Same.trans l.1 lay.same) h1, Sc.mono (Same.trans l.1 lay.same) h2, by omega⟩
end
theorem di_zip {X : Cx} {G : GT} {W : WX} {mas : MA} {a b : Expr} {p pos tpos : Pos} {elts : List Expr} {kk : Nat} (hK : X.K = G.K) (hg : Gl X "zip") (hm : X.mg "zip" = none) (ha : DA X G W [a, b] mas)
    (hs : starEach [a, b] X.env = (false, eval a X.env) :: starEach [b] X.env := by rfl) (hpl : (backTo pos (starEach [b] X.env)).any (·.1) = false := by rfl) :
    DI X G W (.Tuple elts kk tpos) (.Call (.Name "zip" p) [a, b] [] pos) (iRng zipD mas) := by
  refine PI.imp (pi_zipX hg hm ha hs hpl) ?_
  rintro σ H Q ⟨w, μ, ρ, hl, he, pp⟩
  refine tD.seq (k := fun ρ xs μ => zipD xs μ) hl he pp fun w1 μ1 H1 v bs l1 lay1 en1 r1 p1 => ?_
  unfold zipD at p1
  split at p1
  · split at p1
    · rename_i e1 e2
      cases r1 with
      | cons r t =>
        cases t with
        | cons r' t =>
          cases t
          obtain ⟨c1, xs, rfl, h1, q1⟩ := src_ok r e1
          obtain ⟨c2, ys, rfl, h2, q2⟩ := src_ok r' e2
          refine ⟨c1, c2, xs, ys, rfl, ?_, ?_, ?_⟩
          · rw [hK]; exact Sc.mono lay1.same h1
          · rw [hK]; exact Sc.mono lay1.same h2
          · rw [hK]; exact p1 w1 _ H1 w1.le_refl lay1 (it_zip h1 h2 q1 q2)
    · exact p1.elim
  · exact p1.elim
end DL

/-! dicts that stay as they were made: displays, d[k]. -/
namespace DL
open PySem PySem.Spec PyProof.Rows L2

def keyOf : D → Option Key
  | .int i => some (.inl i)
  | .str z => some (.inr z)
  | _ => none
theorem keyOf_eq {d : D} {k : Key} (h : keyOf d = some k) : d = kD k := by
  cases d <;> first | (cases h; rfl) | cases h
theorem keyOf_kD (k : Key) : keyOf (kD k) = some k := by cases k <;> rfl
theorem rp_key {K : PySem.W.Frag} {I : Hp} {v : V} {k : Key} (r : Rp K I v (kD k)) : v = kV k := by
  cases k with
  | inl i => cases r; rfl
  | inr z => cases r; rfl
abbrev ML := List (ME × ME)
def prsM : ML → DEnv → Store → Out (List (Dv × Dv))
  | [], _, μ => .ok [] μ
  | (a, b) :: r, ρ, μ => (a ρ μ).bind fun x μ => (b ρ μ).bind fun y μ => (prsM r ρ μ).bind fun ps μ => .ok ((x, y) :: ps) μ
/-- the pairs as keys and data -/
def allP : List (Dv × Dv) → Option (List (Key × D))
  | [] => some []
  | (.d k, .d x) :: r => match keyOf k, allP r with
    | some k, some ps => some ((k, x) :: ps)
    | _, _ => none
  | _ :: _ => none
def dicOf (ps : List (Key × D)) : D := .dict (ps.map fun p => (kD p.1, p.2))
def dDicF (ps : List (Dv × Dv)) (μ : Store) : Out Dv := match allP ps with
  | some kvs => if (kvs.map Prod.fst).Nodup ∧ kvs.length ≤ 15 then .ok (.d (dicOf kvs)) μ else .bad
  | none => .bad
def eDic (l : ML) : ME := fun ρ μ => (prsM l ρ μ).bind dDicF
abbrev Rpp (G : GT) (w : Wd) : List (V × V) → List (Dv × Dv) → Prop := Paired fun p q => Rv G w p.1 q.1 ∧ Rv G w p.2 q.2
theorem Rpp.mono {G : GT} {w w' : Wd} (l : w.le w') {a : List (V × V)} {b : List (Dv × Dv)} (r : Rpp G w a b) : Rpp G w' a b := Paired.imp (fun _ _ z => ⟨z.1.mono l, z.2.mono l⟩) r
theorem Lay.stayO {G : GT} {w : Wd} {μ : Store} {H : Hp} {a : Addr} {o : HO} (l : Lay G w μ H) (h1 : w.I a = none) (h2 : a ∉ w.α) (h3 : w.F a = none) (e : H a = some o) : w.le (w.put a o) ∧ Lay G (w.put a o) μ H := by
  refine ⟨⟨same_upd h1, List.prefix_refl _, Same.refl _⟩, fun b u q => ?_, l.len, l.nd, l.lv, l.fr, l.fd, fun b u q => ?_, fun n c b q1 q2 => ?_⟩
  · by_cases z : b = a
    · subst z; have q : upd w.I b o b = some u := q; rw [upd_same] at q; rw [← q]; exact e
    · have q : upd w.I a o b = some u := q; rw [upd_ne z] at q; exact l.same b u q
  · have : b ≠ a := fun z => by rw [z, h3] at q; cases q
    show upd w.I a _ b = none
    rw [upd_ne this]; exact l.di b u q
  · have ap : b ≠ a := ne_get q2 h2
    exact CellAt.cong (w' := w.put a o) (fun z => by show upd w.I a _ b = none; rw [upd_ne ap]; exact z) ⟨same_upd h1, List.prefix_refl _⟩ rfl (l.at_ n c b q1 q2)
section
variable {G : GT} {W : WX}
theorem prs_imp : ∀ (l : ML) σ H Q, tD G W (Rpp G) (prsM l) σ H Q → tPairs (l.map fun p => (tE G W p.1, tE G W p.2)) σ H Q
  | [], σ, H, Q, ⟨w, μ, ρ, hl, he, p⟩ => p w [] H w.le_refl hl .nil
  | (a, b) :: r, σ, H, Q, ⟨w, μ, ρ, hl, he, p⟩ => by
    refine tD.seq (k := fun ρ x μ => (b ρ μ).bind fun y μ => (prsM r ρ μ).bind fun ps μ => .ok ((x, y) :: ps) μ) hl he p fun w1 μ1 H1 v x l1 lay1 en1 r1 p1 => ?_
    refine tD.seq (k := fun ρ y μ => (prsM r ρ μ).bind fun ps μ => .ok ((x, y) :: ps) μ) lay1 en1 p1 fun w2 μ2 H2 u y l2 lay2 en2 r2 p2 => ?_
    refine prs_imp r σ H2 _ (tD.seq (k := fun ρ ps μ => .ok ((x, y) :: ps) μ) lay2 en2 p2 fun w3 μ3 H3 vs ps l3 lay3 en3 r3 p3 => ?_)
    exact p3 w3 _ H3 w3.le_refl lay3 (.cons ⟨r1.mono (l2.trans l3), r2.mono l3⟩ r3)
theorem allP_ok {w : Wd} : ∀ {bs : List (Dv × Dv)} {kvs : List (Key × D)} {vs : List (V × V)}, allP bs = some kvs → Rpp G w vs bs → ∃ xs : List V, vs = (((kvs.map Prod.fst).zip xs).map fun kv => (kV kv.1, kv.2)) ∧ xs.length = kvs.length ∧ RpA G.K w.I xs (kvs.map Prod.snd)
  | [], _, _, h, r => by cases h; cases r; exact ⟨[], rfl, rfl, .nil⟩
  | (.d k, .d x) :: bs, kvs, _, h, r => by
    unfold allP at h
    cases hk : keyOf k with
    | none => rw [hk] at h; cases h
    | some k' =>
      cases hr : allP bs with
      | none => rw [hk, hr] at h; cases h
      | some ps =>
        rw [hk, hr] at h
        cases h
        cases r with
        | @cons v _ vs _ a t =>
          obtain ⟨xs, e, hl, ra⟩ := allP_ok hr t
          obtain ⟨v1, v2⟩ := v
          have a1 : Rp G.K w.I v1 k := a.1
          rw [keyOf_eq hk] at a1
          have := rp_key a1
          subst this
          refine ⟨v2 :: xs, by rw [e]; rfl, by simp [hl], .cons a.2 ra⟩
  | (.c _, _) :: _, _, _, h, _ => by cases h
  | (.f _, _) :: _, _, _, h, _ => by cases h
  | (.d _, .c _) :: _, _, _, h, _ => by cases h
  | (.d _, .f _) :: _, _, _, h, _ => by cases h
theorem mergeK_new : ∀ (more kvs : List (Key × V)), ((kvs ++ more).map Prod.fst).Nodup → mergeK kvs more = kvs ++ more
  | [], kvs, _ => by rw [List.append_nil]; rfl
  | p :: r, kvs, h => by
    have hn : (kvs.any fun kv => decide (kv.1 = p.1)) = false := by
      rw [List.any_eq_false]
      intro q hq
      simp only [decide_eq_true_eq]
      intro e
      rw [List.map_append, List.nodup_append] at h
      exact h.2.2 _ (List.mem_map_of_mem hq) _ (by rw [List.map_cons]; exact List.mem_cons_self) e
    have : putK kvs p.1 p.2 = kvs ++ [p] := by
      unfold putK
      rw [if_neg (by rw [hn]; simp)]
    show mergeK (putK kvs p.1 p.2) r = _
    rw [this, mergeK_new r (kvs ++ [p]) (by rw [List.append_assoc]; exact h), List.append_assoc]
    rfl
theorem RpK_of {K : PySem.W.Frag} {I : Hp} : ∀ {kvs : List (Key × D)} {xs : List V}, RpA K I xs (kvs.map Prod.snd) → RpK K I ((kvs.map Prod.fst).zip xs) (kvs.map fun p => (kD p.1, p.2))
  | [], _, h => by cases h; exact .nil
  | p :: kvs, _, h => by
    cases h with
    | cons a t => exact .cons a (RpK_of t)
theorem dic_imp {l : ML} : ∀ σ H Q, tE G W (eDic l) σ H Q → tDisp (l.map fun p => (tE G W p.1, tE G W p.2)) σ H Q := by
  rintro σ H Q ⟨w, μ, ρ, hl, he, p⟩
  intro a na
  obtain ⟨n1, n2, n3⟩ := hl.na na
  have lay0 := hl.other n1 n2 n3 (.dK [])
  obtain ⟨lp, layp⟩ := lay0.priv n1 n2 n3 upd_same
  refine prs_imp l σ _ _ ⟨w.priv a (.dK []), μ, ρ, layp, he.mono lp, ?_⟩
  unfold eDic at p
  cases e : prsM l ρ μ with
  | bad => rw [e] at p; exact p.elim
  | ex x μ1 => rw [e] at p; exact fun w' c d H' l' lay' r' => p w' c d H' (lp.trans l') lay' r'
  | ok ps μ1 =>
    rw [e] at p
    intro w1 vs H1 l1 lay1 r1
    have p : Pst G W σ (Rv G) w (dDicF ps μ1) Q := p
    unfold dDicF at p
    cases ea : allP ps with
    | none => rw [ea] at p; exact p.elim
    | some kvs =>
      rw [ea] at p
      have p : Pst G W σ (Rv G) w (if (kvs.map Prod.fst).Nodup ∧ kvs.length ≤ 15 then .ok (.d (dicOf kvs)) μ1 else .bad) Q := p
      by_cases hz : (kvs.map Prod.fst).Nodup ∧ kvs.length ≤ 15
      · rw [if_pos hz] at p
        obtain ⟨xs, ev, hlx, ra⟩ := allP_ok ea r1
        have hm : mergeK [] ((kvs.map Prod.fst).zip xs) = (kvs.map Prod.fst).zip xs := by
          refine mergeK_new _ [] ?_
          rw [List.nil_append, List.map_fst_zip (by rw [List.length_map]; omega)]
          exact hz.1
        obtain ⟨le2, lay2, e2, i2, a2⟩ := lay1.unp l1 n3 (.dK (mergeK [] ((kvs.map Prod.fst).zip xs)))
        obtain ⟨le3, lay3⟩ := lay2.stayO i2 a2 (if_pos rfl) upd_same
        refine ⟨e2, (kvs.map Prod.fst).zip xs, ev, by rw [List.length_zip, List.length_map]; omega, ?_⟩
        refine p _ (.ref a) _ (le2.trans le3) lay3 ?_
        refine .dic (kvs := (kvs.map Prod.fst).zip xs) ?_ (RpK.mono le3.1 _ _ (RpK_of ra))
        rw [hm]
        exact upd_same
      · rw [if_neg hz] at p; exact p.elim
end
/-- the written dict's parts -/
abbrev DPs (X : Cx) (G : GT) (W : WX) (pos : Pos) (ks : List (Option Expr)) (vs : List Expr) (l : ML) : Prop := PPs X pos ks vs (l.map fun p => (tE G W p.1, tE G W p.2))
section
variable {X : Cx} {G : GT} {W : WX} {pos : Pos}
theorem dp_nil : DPs X G W pos [] [] [] := pps_nil
theorem dp_cons {k v : Expr} {ks : List (Option Expr)} {vs : List Expr} {mk mv : ME} {l : ML} (hk : DE X G W k mk) (hv : DE X G W v mv) (hr : DPs X G W pos ks vs l) : DPs X G W pos (some k :: ks) (v :: vs) ((mk, mv) :: l) := pps_cons hk hv hr
theorem de_dic {ks : List (Option Expr)} {vs : List Expr} {l : ML} (h : DPs X G W pos ks vs l) (hall : ks.all (·.isSome) = true := by rfl) (hl : ks.length = vs.length := by rfl) (h0 : ks ≠ [] := by intro z; cases z) (h15 : ks.length ≤ 15 := by decide) : DE X G W (.Dict ks vs pos) (eDic l) := PE.imp (pe_disp h hall hl h0 h15) dic_imp
end
/-! ### d[k] -/
def findD : List (D × D) → Key → Option D
  | [], _ => none
  | (a, v) :: r, k => if keyOf a = some k then some v else findD r k
def dDGet : Op2 := fun x y μ => match x, y with
  | .d (.dict ps), .d k => match keyOf k with
    | some k => match findD ps k with
      | some v => .ok (.d v) μ
      | none => .bad
    | none => .bad
  | _, _ => .bad
theorem findD_ok {K : PySem.W.Frag} {I : Hp} {k : Key} {d : D} : ∀ {ps : List (D × D)} {kvs : List (Key × V)}, RpK K I kvs ps → findD ps k = some d → ∃ v, valV kvs k = some v ∧ Rp K I v d
  | [], _, r, h => by cases h
  | (a, e) :: ps, _, r, h => by
    cases r with
    | @cons k' v kvs _ _ a1 t =>
      unfold findD at h
      rw [keyOf_kD] at h
      by_cases hk : k' = k
      · rw [if_pos (by rw [hk])] at h
        cases h
        exact ⟨v, valV_pos hk, a1⟩
      · rw [if_neg (by intro q; cases q; exact hk rfl)] at h
        obtain ⟨u, h1, h2⟩ := findD_ok t h
        exact ⟨u, by rw [valV_neg hk]; exact h1, h2⟩
theorem de_dget {X : Cx} {G : GT} {W : WX} {o i : Expr} {mo mi : ME} {pos : Pos} (hu : X.A.units + 64 < cLine) (ho : DE X G W o mo) (hi : DE X G W i mi) (hs : NoSl i := by exact NoSl.mk) : DE X G W (.Subscript o i pos) (e2 dDGet mo mi) := by
  refine PE.imp (pe_dget (by omega) ho hi hs) ?_
  rintro σ H Q ⟨w, μ, ρ, hl, he, p⟩
  refine tD.seq (k := fun ρ x μ => (mi ρ μ).bind fun y μ => dDGet x y μ) hl he p fun w1 μ1 H1 v b l1 lay1 en1 r1 p1 => ?_
  refine tD.seq (k := fun ρ y μ => dDGet b y μ) lay1 en1 p1 fun w2 μ2 H2 u c l2 lay2 en2 r2 p2 => ?_
  unfold dDGet at p2
  split at p2
  · rename_i ps k
    split at p2
    · rename_i k' hk
      split at p2
      · rename_i d hd
        have r1 : Rp G.K w1.I v (.dict ps) := r1
        have r2 : Rp G.K w2.I u k := r2
        rw [keyOf_eq hk] at r2
        rw [rp_key r2]
        cases r1 with
        | @dic a kvs _ e1 rk =>
          obtain ⟨x, h1, h2⟩ := findD_ok (RpK.mono l2.1 _ _ rk) hd
          refine ⟨a, x, rfl, ?_, p2 w2 _ H2 w2.le_refl lay2 h2⟩
          rw [← h1]
          exact DGet.k (lay2.same _ _ (l2.1 _ _ e1))
      · exact p2.elim
    · exact p2.elim
  · exact p2.elim
end DL

/-! dict comprehensions -/
namespace DL
open PySem PySem.Spec PyProof.Rows L2
def dcM (g : MG) (tt : MT) (tk tv : ME) (ρ : DEnv) : List (Key × D) → List Dv → Store → Out (List (Key × D))
  | acc, [], μ => .ok acc μ
  | acc, b :: bs, μ => (g b ρ μ).gb fun ρ' μ => (tt ρ' μ).gb fun k μ => if k = true then (tk ρ' μ).gb fun x μ => (tv ρ' μ).gb fun y μ => match x, y with
      | .d xk, .d y => match keyOf xk with
        | some k => if (acc.any fun p => decide (p.1 = k)) = true then .bad else dcM g tt tk tv ρ (acc ++ [(k, y)]) bs μ
        | none => .bad
      | _, _ => .bad
    else dcM g tt tk tv ρ acc bs μ
def eDc (mi : MI) (g : MG) (tt : MT) (tk tv : ME) (vs : List Nat) : ME := fun ρ μ => (mi ρ μ).bind fun bs μ => if bs.length ≤ sizeLine then (dcM g tt tk tv (wipeD ρ vs) [] bs μ).gb fun kvs μ => .ok (.d (dicOf kvs)) μ else .bad
def zK (acc : List (Key × D)) (us : List V) : List (Key × V) := (acc.map Prod.fst).zip us
theorem putK_zK {acc : List (Key × D)} {us : List V} {k : Key} {d : D} {v : V} (hl : us.length = acc.length) (hn : k ∉ acc.map Prod.fst) : putK (zK acc us) k v = zK (acc ++ [(k, d)]) (us ++ [v]) := by
  have hn' : ((zK acc us).any fun kv => decide (kv.1 = k)) = false := by
    rw [List.any_eq_false]
    intro q hq
    simp only [decide_eq_true_eq]
    intro e
    have := (List.of_mem_zip (a := q.1) (b := q.2) hq).1
    rw [e] at this
    exact hn this
  unfold putK
  rw [if_neg (by rw [hn']; simp)]
  unfold zK
  rw [List.map_append, List.zip_append (by rw [List.length_map]; exact hl.symm)]
  rfl
theorem RpA_snoc {K : PySem.W.Frag} {I : Hp} {v : V} {d : D} : ∀ {us : List V} {ds : List D}, RpA K I us ds → Rp K I v d → RpA K I (us ++ [v]) (ds ++ [d])
  | _, _, .nil, r => .cons r .nil
  | _, _, .cons a t, r => .cons a (RpA_snoc t r)
section
variable {X : Cx} {G : GT} {W : WX} {mi : MI} {g : MG} {tt : MT} {tk tv : ME} {S vs : List Nat}
theorem dc_imp (hS : ∀ i ∈ S, i ∈ vs) : ∀ σ H Q, tE G W (eDc mi g tt tk tv vs) σ H Q → tDc (tI G W mi) (tG G S g) (tT G W0 tt) (tE G W0 tk) (tE G W0 tv) vs σ H Q := by
  rintro σ H Q ⟨w, μ, ρ, hl, he, p⟩
  refine tD.seq (k := fun ρ bs μ => if bs.length ≤ sizeLine then (dcM g tt tk tv (wipeD ρ vs) [] bs μ).gb fun kvs μ => Out.ok (Dv.d (dicOf kvs)) μ else .bad) hl he p fun w1 μ1 H1 J bs l1 lay1 en1 it p1 => ?_
  intro a na
  by_cases hz : bs.length ≤ sizeLine
  case neg => rw [if_neg hz] at p1; exact p1.elim
  rw [if_pos hz] at p1
  obtain ⟨n1, n2, n3⟩ := lay1.na na
  refine ⟨fun i m H => m = bs.length - i ∧ i ≤ bs.length ∧ ∃ w2 μ2 us acc, w1.le w2 ∧ Lay G w2 μ2 H ∧ H a = some (.dK (zK acc us)) ∧ w2.I a = none ∧ a ∉ w2.α ∧ w2.F a = none ∧ us.length = acc.length ∧ RpA G.K w2.I us (acc.map Prod.snd) ∧ acc.length ≤ i ∧
    Pst G W σ (Rv G) w2 ((dcM g tt tk tv (wipeD ρ vs) acc (bs.drop i) μ2).gb fun kvs μ => Out.ok (Dv.d (dicOf kvs)) μ) Q, ⟨bs.length, by simp, Nat.zero_le _, w1, μ1, [], [], w1.le_refl, lay1.other n1 n2 n3 _, upd_same, n1, n2, n3, rfl, .nil, Nat.le_refl _, p1⟩, ?_⟩
  rintro i m H2 ⟨rfl, hi, w2, μ2, us, acc, l2, lay2, e2, i2, a2, f2, hu, r2, hacc, p2⟩
  by_cases hlt : i < bs.length
  · refine .inr ⟨it.go i w2 μ2 H2 hlt l2 lay2, fun H => ∃ w2 μ2 us acc, w1.le w2 ∧ Lay G w2 μ2 H ∧ H a = some (.dK (zK acc us)) ∧ w2.I a = none ∧ a ∉ w2.α ∧ w2.F a = none ∧ us.length = acc.length ∧ RpA G.K w2.I us (acc.map Prod.snd) ∧ acc.length ≤ i + 1 ∧
      Pst G W σ (Rv G) w2 ((dcM g tt tk tv (wipeD ρ vs) acc (bs.drop (i + 1)) μ2).gb fun kvs μ => Out.ok (Dv.d (dicOf kvs)) μ) Q, fun H' q => ⟨bs.length - (i + 1), by omega, rfl, hlt, q⟩, fun x H' y => ?_⟩
    have eb : bs[i]? = some bs[i] := by simp [hlt]
    obtain ⟨lp, layp⟩ := lay2.priv i2 a2 f2 e2
    obtain ⟨w3, l3, lay3, r3⟩ := it.yld i _ _ μ2 H2 x H' eb (l2.trans lp) layp y
    have en3 : EnvR G w3 (wipe σ vs) (wipeD ρ vs) := (en1.wipe vs).mono ((l2.trans lp).trans l3)
    refine ⟨w3, μ2, wipeD ρ vs, bs[i], lay3, en3, r3, ?_⟩
    rw [List.drop_eq_getElem_cons hlt] at p2
    unfold dcM at p2
    cases q : g bs[i] (wipeD ρ vs) μ2 with
    | bad => rw [q] at p2; exact p2.elim
    | ex _ _ => rw [q] at p2; exact p2.elim
    | ok ρ4 μ4 =>
      rw [q] at p2
      intro w4 σ4 H4 l4 lay4 en4 ag
      refine ⟨wipe_agr ag hS, w4, μ4, ρ4, lay4, en4, ?_⟩
      cases q5 : tt ρ4 μ4 with
      | bad => simp only [gb_ok, q5] at p2; exact p2.elim
      | ex _ _ => simp only [gb_ok, q5] at p2; exact p2.elim
      | ok k μ5 =>
        simp only [gb_ok, q5] at p2
        intro w5 v5 H5 l5 lay5 r5
        have r5 : v5 = k := r5
        subst r5
        have lw5 : (w2.priv a (.dK (zK acc us))).le w5 := (l3.trans l4).trans l5
        cases v5 with
        | false =>
          simp only [Bool.false_eq_true, if_false] at p2
          obtain ⟨le6, lay6, e6, i6, a6⟩ := lay5.unp lw5 f2 (.dK (zK acc us))
          have hH : upd H5 a (.dK (zK acc us)) = H5 := by
            funext b
            by_cases z : b = a
            · subst z; rw [upd_same, e6]
            · rw [upd_ne z]
          rw [hH] at lay6
          exact ⟨w5.unp a, μ5, us, acc, l2.trans le6, lay6, e6, i6, a6, if_pos rfl, hu, RpA.mono le6.1 _ _ r2, by omega, Pst.mono le6 p2⟩
        | true =>
          simp only [if_true] at p2
          refine ⟨w5, μ5, ρ4, lay5, en4.mono l5, ?_⟩
          cases q6 : tk ρ4 μ5 with
          | bad => rw [q6] at p2; exact p2.elim
          | ex _ _ => rw [q6] at p2; exact p2.elim
          | ok y μ6 =>
            rw [q6] at p2
            intro w6 v6 H6 l6 lay6 r6
            refine ⟨w6, μ6, ρ4, lay6, (en4.mono l5).mono l6, ?_⟩
            cases q7 : tv ρ4 μ6 with
            | bad => simp only [gb_ok, q7] at p2; exact p2.elim
            | ex _ _ => simp only [gb_ok, q7] at p2; exact p2.elim
            | ok y2 μ7 =>
              simp only [gb_ok, q7] at p2
              intro w7 v7 H7 l7 lay7 r7
              split at p2
              · rename_i xk y3
                cases hk : keyOf xk with
                | none => simp only [hk] at p2; exact p2.elim
                | some kk =>
                  simp only [hk] at p2
                  by_cases hn' : (acc.any fun p => decide (p.1 = kk)) = true
                  · rw [if_pos hn'] at p2; exact p2.elim
                  · rw [if_neg hn'] at p2
                    have hn : kk ∉ acc.map Prod.fst := fun hm => hn' (by
                      obtain ⟨q, hq, e⟩ := List.mem_map.mp hm
                      exact List.any_eq_true.mpr ⟨q, hq, decide_eq_true e⟩)
                    have r6 : Rp G.K w6.I v6 xk := r6
                    rw [keyOf_eq hk] at r6
                    obtain ⟨le8, lay8, e8, i8, a8⟩ := lay7.unp ((lw5.trans l6).trans l7) f2 (.dK (zK (acc ++ [(kk, y3)]) (us ++ [v7])))
                    refine ⟨zK acc us, kk, rp_key r6, e8, ?_, w7.unp a, μ7, us ++ [v7], acc ++ [(kk, y3)], l2.trans le8, ?_, ?_, i8, a8, if_pos rfl, by simp [hu], ?_, by simp; omega, Pst.mono le8 p2⟩
                    · unfold zK
                      rw [List.length_zip, List.length_map]
                      omega
                    · rw [putK_zK hu hn (d := y3)]; exact lay8
                    · rw [putK_zK hu hn (d := y3)]; exact upd_same
                    · rw [List.map_append]
                      exact RpA_snoc (RpA.mono le8.1 _ _ r2) r7
              · exact p2.elim
  · refine .inl ⟨it.stop i w2 μ2 H2 (by omega) l2 lay2, ?_⟩
    rw [List.drop_of_length_le (by omega)] at p2
    simp only [dcM, gb_ok] at p2
    obtain ⟨le3, lay3⟩ := lay2.stayO i2 a2 f2 e2
    exact p2 _ (.ref a) _ le3 lay3 (.dic (kvs := zK acc us) upd_same (RpK.mono le3.1 _ _ (RpK_of r2)))
theorem de_dc {kx vx tg iter : Expr} {ifs : List Expr} {scope : Scope} (own : List (Str × Nat)) {pos : Pos} (hc : X.calm = true) (hN : X.N.Nodup) (hi : DI X G W tg iter mi) (ok : BlkOk X.N X.env.scope scope own)
    (hg : ∀ (s : Shared) (H : Hp) (C : Addr) (cl : List (Str × Addr)) (fp : List Addr), DG (X.blk s H scope (compEnvC scope cl C X.env) fp) G S tg g) (ht : ∀ (s : Shared) (H : Hp) (C : Addr) (cl : List (Str × Addr)) (fp : List Addr), PTs (X.blk s H scope (compEnvC scope cl C X.env) fp) ifs (tT G W0 tt))
    (hk : ∀ (s : Shared) (H : Hp) (C : Addr) (cl : List (Str × Addr)) (fp : List Addr), DE (X.blk s H scope (compEnvC scope cl C X.env) fp) G W0 kx tk)
    (he : ∀ (s : Shared) (H : Hp) (C : Addr) (cl : List (Str × Addr)) (fp : List Addr), DE (X.blk s H scope (compEnvC scope cl C X.env) fp) G W0 vx tv) (hS : ∀ i ∈ S, i ∈ own.map (·.2) := by decide) (hs : ∀ x, foldedSetIterable iter X.env x = pure x := by intro _; rfl) :
    DE X G W (.DictComp kx vx [⟨tg, iter, ifs, 0⟩] scope pos) (eDc mi g tt tk tv (own.map (·.2))) := PE.imp (pe_dc hc hN hi ok hg ht hk he hs) (dc_imp hS)
end
end DL

/-! name op= e -/
namespace DL
open PySem PySem.Spec PyProof.Rows L2
/-- numbers, texts -/
def dIpAdd : Op2 := fun x y μ => match x, y with
  | .d (.int i), .d (.int j) => .ok (.d (.int (i + j))) μ
  | .d (.str a), .d (.str b) => if a.length + b.length ≤ sizeLine then .ok (.d (.str (a ++ b))) μ else .bad
  | _, _ => .bad
def rIpAdd : TIp := fun x y H Q => ipI (fun i j => i + j) x y H Q ∨ rAddS x y H Q
theorem ip_addA {X : Cx} : PIp X .Add rIpAdd := fun pins s σ H x y v u Q I r1 r2 h => h.elim (fun h => ip_add pins s σ H x y v u Q I r1 r2 h) fun h => in_addS pins s σ H x y v u Q I r1 r2 h
section
variable {X : Cx} {G : GT}
theorem ok_ipadd : OkIp G rIpAdd dIpAdd := by
  intro W σ w μ H x y b c Q l rx ry p
  unfold dIpAdd at p
  split at p
  · exact .inl ⟨_, _, rv_int rx, rv_int ry, p w _ H w.le_refl l (.int _)⟩
  · split at p
    · rename_i h
      exact .inr ⟨_, _, rv_str rx, rv_str ry, h, p w _ H w.le_refl l (.str _)⟩
    · exact p.elim
  · exact p.elim
theorem ok_ipsub : OkIp G (ipI fun i j => i - j) (dInt2 fun i j => .int (i - j)) := by
  intro W σ w μ H x y b c Q l rx ry p
  unfold dInt2 at p
  split at p
  · exact ⟨_, _, rv_int rx, rv_int ry, p w _ H w.le_refl l (.int _)⟩
  · exact p.elim
end
@[simp] theorem sAug_r {i : Nat} {f : Op2} {m : ME} {ρ : DEnv} {μ : Store} : sAug i m f ρ μ = match ρ[i]? with
  | some (some b) => (m ρ μ).bind fun y μ => (f b y μ).bind fun z μ => .ok (.nx (ρ.set i (some z))) μ
  | _ => .bad := id rfl
@[simp] theorem dIpAdd_ii {x y : Int} {μ : Store} : dIpAdd (.d (.int x)) (.d (.int y)) μ = .ok (.d (.int (x + y))) μ := id rfl

/-! ### y = {k: v for ..} -/
theorem ps_setDc {X : Cx} {i : Nat} {y : Str} {py : Pos} {kx vx tg iter : Expr} {ifs : List Expr} {scope : Scope} {own : List (Str × Nat)} {lpos spos : Pos} {wi : TI} {g : TG} {tt : TT} {tk tv : TE} (hc : X.calm = true) (hN : X.N.Nodup) (hy : X.N[i]? = some y) (hyl : X.env.scope.names.lookup y = some .local)
    (hsw : swapsWith (.DictComp kx vx [⟨tg, iter, ifs, 0⟩] scope lpos) (some (.Name y py)) spos.line X.env = pure true) (hi : PI X tg iter wi) (ok : BlkOk X.N X.env.scope scope own)
    (hg : ∀ (s : Shared) (H : Hp) (C : Addr) (cl : List (Str × Addr)) (fp : List Addr), PG (X.blk s H scope (compEnvC scope cl C X.env) fp) tg g) (ht : ∀ (s : Shared) (H : Hp) (C : Addr) (cl : List (Str × Addr)) (fp : List Addr), PTs (X.blk s H scope (compEnvC scope cl C X.env) fp) ifs tt)
    (hk : ∀ (s : Shared) (H : Hp) (C : Addr) (cl : List (Str × Addr)) (fp : List Addr), PE (X.blk s H scope (compEnvC scope cl C X.env) fp) kx tk)
    (he : ∀ (s : Shared) (H : Hp) (C : Addr) (cl : List (Str × Addr)) (fp : List Addr), PE (X.blk s H scope (compEnvC scope cl C X.env) fp) vx tv) (hs : ∀ x, foldedSetIterable iter X.env x = pure x := by intro _; rfl) :
    PS X (.Assign [.Name y py] (.DictComp kx vx [⟨tg, iter, ifs, 0⟩] scope lpos) spos) (tAsg (tDc wi g tt tk tv (own.map (·.2))) (gName i)) := by
  refine ⟨fun pins s σ H D I h => ?_⟩
  rw [exec_Assign_Name_used _ _ _ _ hsw]
  refine wpAny_bind (wpAny_standAt (wpAny_bind ?_))
  show wpAny _ X.A (do let _ ← comprehension (.DictComp kx vx [⟨tg, iter, ifs, 0⟩] scope lpos) scope X.env (firstIterPos [⟨tg, iter, ifs, 0⟩] lpos) newDict false (eval iter X.env) (some (assign (.Name y py) X.env))) _ _ s
  have h : tDc wi g tt tk tv (own.map (·.2)) σ H (fun x H1 => gName i x σ H1 D.nx) := h
  refine wpAny_bind (thn (dc_core (Qf := fun _ s' => SP X pins D .next s') hc hN I hi ok hg ht hk he hs h fun L C s' m H' I' q hn f => ?_) fun _ s' hq => wpAny_pure (wpAny_pure hq))
  show wpAny _ _ (assign (.Name y py) X.env (.ref L)) _ _ _
  refine wpAny_assign_Name (store_ok2 (v := V.ref L) I' hN hy (.inl hyl) rfl (fun s2 I2 ⟨a, sb, ha⟩ => ?_) (.inr hyl))
  obtain ⟨f0, f1, f2, f3, f4, f5⟩ := f
  have haC : C ≠ a := by
    rcases ha with z | z
    · rw [z]; exact f1
    · exact fun e => f4 y a z e.symm
  refine ⟨m, hn.sameBut sb haC, fun h3 sb3 => ?_⟩
  exact ⟨_, H', I2.turned (t' := s2.toks) (fun b o hb e => (sb3.2 b hb).trans e) f0 f1 f3 f4 f5, q⟩
theorem sw_trueD {kx vx : Expr} {gs : List Comprehension} {scope : Scope} {pos py : Pos} {y : Str} {l : Nat} {env : Env} (hk : env.scope.kind = .function) (hy : env.scope.names.lookup y = some .local) (hl : (py.line == pos.line) = true)
    (ha : (scope.names.any fun (n, k) => n == y && (k == .local || k == .cell)) = false) : swapsWith (.DictComp kx vx gs scope pos) (some (.Name y py)) l env = pure true := by
  have ky : env.kindOf y = some .local := hy
  have hb : env.blockKind = .function := by unfold Env.blockKind; rw [hk]; rfl
  unfold swapsWith
  simp only [hb, ky, ha, Expr.pos, hl]
  rfl
theorem ds_setDc {X : Cx} {G : GT} {W : WX} {S : List Nat} {i : Nat} {y : Str} {py : Pos} {kx vx tg iter : Expr} {ifs : List Expr} {scope : Scope} (own : List (Str × Nat)) {lpos spos : Pos} {mi : MI} {g : MG} {tt : MT} {tk tv : ME} (hc : X.calm = true) (hN : X.N.Nodup)
    (hi : DI X G W tg iter mi) (ok : BlkOk X.N X.env.scope scope own)
    (hg : ∀ (s : Shared) (H : Hp) (C : Addr) (cl : List (Str × Addr)) (fp : List Addr), DG (X.blk s H scope (compEnvC scope cl C X.env) fp) G S tg g) (ht : ∀ (s : Shared) (H : Hp) (C : Addr) (cl : List (Str × Addr)) (fp : List Addr), PTs (X.blk s H scope (compEnvC scope cl C X.env) fp) ifs (tT G W0 tt))
    (hk : ∀ (s : Shared) (H : Hp) (C : Addr) (cl : List (Str × Addr)) (fp : List Addr), DE (X.blk s H scope (compEnvC scope cl C X.env) fp) G W0 kx tk)
    (he : ∀ (s : Shared) (H : Hp) (C : Addr) (cl : List (Str × Addr)) (fp : List Addr), DE (X.blk s H scope (compEnvC scope cl C X.env) fp) G W0 vx tv)
    (hy : X.N[i]? = some y := by rfl) (hyl : X.env.scope.names.lookup y = some .local := by rfl) (hsw : swapsWith (.DictComp kx vx [⟨tg, iter, ifs, 0⟩] scope lpos) (some (.Name y py)) spos.line X.env = pure true := by exact sw_trueD rfl rfl rfl (by decide +kernel))
    (hS : ∀ i ∈ S, i ∈ own.map (·.2) := by decide) (hs : ∀ x, foldedSetIterable iter X.env x = pure x := by intro _; rfl) :
    DS X G W (.Assign [.Name y py] (.DictComp kx vx [⟨tg, iter, ifs, 0⟩] scope lpos) spos) (sSet i (eDc mi g tt tk tv (own.map (·.2)))) := by
  refine PS.imp (ps_setDc hc hN hy hyl hsw hi ok hg ht hk he hs) ?_
  rintro D σ H ⟨w, μ, ρ, hl, he, p⟩
  apply dc_imp hS
  exact tD.seqS (k := fun ρ b μ => .ok (.nx (ρ.set i (some b))) μ) hl he p fun w1 μ1 H1 v b l1 lay1 en1 r1 p1 => p1 w1 _ H1 w1.le_refl lay1 (en1.set i r1)
end DL

/-! Lists that change: append, extend, pop. -/
namespace DL
open PySem PySem.Spec PyProof.Rows L2
def isLst : Dv → Store → Bool
  | .c n, μ => match μ[n]? with
    | some (.lst _) => true
    | _ => false
  | _, _ => false
section
variable {G : GT}
theorem cell_lst {w : Wd} {μ : Store} {H : Hp} {n : Nat} {xs : List Dv} {v : V} (l : Lay G w μ H) (r : Rv G w v (.c n)) (e : μ[n]? = some (.lst xs)) : ∃ a vs, v = .ref a ∧ w.α[n]? = some a ∧ w.I a = none ∧ H a = some (.lst vs) ∧ Rvs G w vs xs := by
  obtain ⟨a, ha, rfl⟩ := r
  obtain ⟨h1, vs, h2, h3⟩ := l.at_ n _ a e ha
  exact ⟨a, vs, rfl, ha, h1, h2, h3⟩
theorem ty_lst : OkT G "list" isLst := by
  intro w μ H x b l r h
  unfold isLst at h
  split at h
  · rename_i n
    split at h
    · rename_i xs e
      obtain ⟨a, vs, rfl, _, _, h2, _⟩ := cell_lst l r e
      exact .inl ⟨rfl, vs, SqL.of h2⟩
    · cases h
  · cases h
theorem Rvs_app {w : Wd} : ∀ {vs us : List V} {bs cs : List Dv}, Rvs G w vs bs → Rvs G w us cs → Rvs G w (vs ++ us) (bs ++ cs)
  | _, _, _, _, .nil, h => h
  | _, _, _, _, .cons r t, h => .cons r (Rvs_app t h)
theorem Rvs_take {w : Wd} : ∀ {vs : List V} {bs : List Dv} (k : Nat), Rvs G w vs bs → Rvs G w (vs.take k) (bs.take k)
  | _, _, 0, _ => by simp; exact .nil
  | _, _, k + 1, .nil => .nil
  | _, _, k + 1, .cons r t => .cons r (Rvs_take k t)
def dAppend : Dv → OpN := fun x bs μ => match x, bs with
  | .c n, [b] => match μ[n]? with
    | some (.lst xs) => if xs.length < sizeLine then .ok (.d .none) (μ.set n (.lst (xs ++ [b]))) else .bad
    | _ => .bad
  | _, _ => .bad
theorem ok_append : OkM G rAppend dAppend := by
  intro W σ w μ H x xs b bs Q l r rr p
  unfold dAppend at p
  split at p
  · rename_i n y
    split at p
    · rename_i ys e
      split at p
      · rename_i hz
        obtain ⟨a, vs, rfl, ha, hI, h2, h3⟩ := cell_lst l r e
        cases rr with
        | @cons u _ us _ ru t =>
          cases t
          refine ⟨a, vs, _, rfl, rfl, h2, by rw [Paired.length h3]; exact hz, ?_⟩
          refine p w _ _ w.le_refl (l.write ha hI fun H' e' => ⟨hI, _, e', Rvs_app h3 (.cons ru .nil)⟩) .non
      · exact p.elim
    · exact p.elim
  · exact p.elim
def dPop : Dv → OpN := fun x bs μ => match x, bs with
  | .c n, [] => match μ[n]? with
    | some (.lst xs) => match xs[xs.length - 1]? with
      | some b => .ok b (μ.set n (.lst xs.dropLast))
      | none => .bad
    | _ => .bad
  | _, _ => .bad
theorem ok_pop : OkM G rPop dPop := by
  intro W σ w μ H x xs b bs Q l r rr p
  unfold dPop at p
  split at p
  · rename_i n
    split at p
    · rename_i ys e
      split at p
      · rename_i y hy
        obtain ⟨a, vs, rfl, ha, hI, h2, h3⟩ := cell_lst l r e
        cases rr
        obtain ⟨u, hu, ru⟩ := h3.at hy
        refine ⟨a, vs, u, rfl, rfl, h2, by rw [Paired.length h3]; exact hu, ?_⟩
        refine p w _ _ w.le_refl (l.write ha hI fun H' e' => ⟨hI, _, e', ?_⟩) ru
        rw [List.dropLast_eq_take, List.dropLast_eq_take, Paired.length h3]
        exact Rvs_take _ h3
      · exact p.elim
    · exact p.elim
  · exact p.elim
def dExtend : Dv → OpN := fun x bs μ => match x, bs with
  | .c n, [.c m] => match μ[n]?, μ[m]? with
    | some (.lst xs), some (.lst ys) => if xs.length + ys.length ≤ sizeLine then .ok (.d .none) (μ.set n (.lst (xs ++ ys))) else .bad
    | _, _ => .bad
  | _, _ => .bad
theorem ok_extend : OkM G rExtend dExtend := by
  intro W σ w μ H x xs b bs Q l r rr p
  unfold dExtend at p
  split at p
  · rename_i n m
    split at p
    · rename_i ys zs e1 e2
      split at p
      · rename_i hz
        obtain ⟨a, vs, rfl, ha, hI, h2, h3⟩ := cell_lst l r e1
        cases rr with
        | cons ru t =>
          cases t
          obtain ⟨a2, vs2, rfl, ha2, hI2, h22, h32⟩ := cell_lst l ru e2
          refine ⟨a, a2, vs, vs2, rfl, rfl, h2, h22, by rw [Paired.length h3, Paired.length h32]; exact hz, ?_⟩
          exact p w _ _ w.le_refl (l.write ha hI fun H' e' => ⟨hI, _, e', Rvs_app h3 h32⟩) .non
      · exact p.elim
    · exact p.elim
  · exact p.elim
end
end DL

/-! Walks over list cells, read as they stand at each turn. -/
namespace DL
open PySem PySem.Spec PyProof.Rows L2
def forC (g : MG) (mb : MS) (n : Nat) : Nat → Nat → DEnv → Store → Out Fl
  | 0, _, _, _ => .bad
  | k + 1, i, ρ, μ => match μ[n]? with
    | some (.lst xs) => match xs[i]? with
      | none => .ok (.nx ρ) μ
      | some b => (g b ρ μ).gb fun ρ μ => (mb ρ μ).bind fun f μ => match f with
        | .nx ρ => forC g mb n k (i + 1) ρ μ
        | .ct ρ => forC g mb n k (i + 1) ρ μ
        | .bk ρ => .ok (.nx ρ) μ
        | .rt v => .ok (.rt v) μ
    | _ => .bad
def forCb (g : MG) (mb : MS) (k : Nat) (b : Dv) (ρ : DEnv) (μ : Store) : Out Fl := match b with
  | .c n => forC g mb n k 0 ρ μ
  | _ => .bad
def sForC (mo : ME) (g : MG) (mb : MS) (k : Nat) : MS := fun ρ μ => (mo ρ μ).bind fun b μ => forCb g mb k b ρ μ
section
variable {X : Cx} {G : GT} {W : WX} {tg e : Expr} {body : List Stmt} {mo : ME} {g : MG} {mb : MS} {S : List Nat} {pos : Pos}
theorem forC_imp (hK : X.K = G.K) {k : Nat} : ∀ D σ H, tS G W (sForC mo g mb k) D σ H → tFor (iAny X.K (tE G W mo)) (tG G S g) (tS G W mb) D σ H := by
  rintro D σ H ⟨w, μ, ρ, hl, he, p⟩
  refine tD.seqS (k := fun ρ b μ => forCb g mb k b ρ μ) hl he p fun w1 μ1 H1 v b l1 lay1 en1 r1 p1 => ?_
  unfold forCb at p1
  split at p1
  · rename_i n
    obtain ⟨a, ha, rfl⟩ := r1
    cases k with
    | zero => exact p1.elim
    | succ k =>
      have hc0 : ∃ xs, μ1[n]? = some (.lst xs) := by
        unfold forC at p1
        split at p1
        · rename_i xs e; exact ⟨xs, e⟩
        · exact p1.elim
      obtain ⟨xs0, e0⟩ := hc0
      obtain ⟨h1, vs0, h2, h3⟩ := lay1.at_ n _ a e0 ha
      refine .inl ⟨a, rfl, ⟨vs0, SqL.of h2⟩, ?_⟩
      rw [hK]
      refine ⟨fun i m σ H => ∃ w2 μ2 ρ2 m', m = m' ∧ w1.le w2 ∧ Lay G w2 μ2 H ∧ EnvR G w2 σ ρ2 ∧ PstS G W w2 (forC g mb n m' i ρ2 μ2) D, ⟨k + 1, w1, μ1, ρ, _, rfl, w1.le_refl, lay1, en1, p1⟩, ?_⟩
      rintro i m σ2 H2 ⟨w2, μ2, ρ2, m', rfl, l2, lay2, en2, p2⟩
      cases m with
      | zero => exact p2.elim
      | succ m =>
        unfold forC at p2
        have ha2 : w2.α[n]? = some a := pre_get l2.2.1 ha
        split at p2
        · rename_i xs e2
          obtain ⟨g1, vs, g2, g3⟩ := lay2.at_ n _ a e2 ha2
          split at p2
          · rename_i hx
            have hlen : xs.length ≤ i := List.getElem?_eq_none_iff.mp hx
            refine .inl ⟨⟨vs, SqL.of g2, by rw [Paired.length g3]; exact hlen⟩, ?_⟩
            exact p2 w2 σ2 H2 w2.le_refl lay2 en2
          · rename_i b hb
            obtain ⟨u, hu, ru⟩ := g3.at hb
            refine .inr ⟨⟨vs, u, SqL.of g2, hu⟩, fun σ H => ∃ w3 μ3 ρ3, w1.le w3 ∧ Lay G w3 μ3 H ∧ EnvR G w3 σ ρ3 ∧ PstS G W w3 (forC g mb n m (i + 1) ρ3 μ3) D, fun σ' H' ⟨w3, μ3, ρ3, q1, q2, q3, q4⟩ => ⟨m, Nat.lt_succ_self _, w3, μ3, ρ3, m, rfl, q1, q2, q3, q4⟩, fun x H' y => ?_⟩
            obtain ⟨rfl, y⟩ := y
            have hx := y vs (SqL.of g2)
            rw [hu] at hx
            cases hx
            refine ⟨w2, μ2, ρ2, b, lay2, en2, ru, ?_⟩
            cases q : g b ρ2 μ2 with
            | bad => rw [q] at p2; exact p2.elim
            | ex _ _ => rw [q] at p2; exact p2.elim
            | ok ρ4 μ4 =>
              rw [q] at p2
              intro w4 σ4 H4 l4 lay4 en4 _
              refine ⟨w4, μ4, ρ4, lay4, en4, ?_⟩
              have p4 : PstS G W w4 ((mb ρ4 μ4).bind fun f μ => match f with
                | .nx ρ => forC g mb n m (i + 1) ρ μ
                | .ct ρ => forC g mb n m (i + 1) ρ μ
                | .bk ρ => .ok (.nx ρ) μ
                | .rt v => .ok (.rt v) μ) D := PstS.mono l4 p2
              have l14 : w1.le w4 := l2.trans l4
              cases q5 : mb ρ4 μ4 with
              | bad => rw [q5] at p4; exact p4.elim
              | ex e μ5 => rw [q5] at p4; exact p4
              | ok f μ5 =>
                rw [q5] at p4
                cases f with
                | nx ρ5 => exact fun w5 σ5 H5 l5 lay5 en5 => ⟨w5, μ5, ρ5, l14.trans l5, lay5, en5, PstS.mono l5 p4⟩
                | ct ρ5 => exact fun w5 σ5 H5 l5 lay5 en5 => ⟨w5, μ5, ρ5, l14.trans l5, lay5, en5, PstS.mono l5 p4⟩
                | bk ρ5 => exact p4
                | rt v => exact p4
        · exact p2.elim
  · exact p1.elim
theorem ds_forC (k : Nat) (hp : PassesOwn (model X.prog X.w) X.A X.env X.xe) (hc : X.calm = true) (hK : X.K = G.K) (he : DE X G W e mo) (hg : DG X G S tg g) (hb : DSs X G W body mb)
    (hs : ∀ x, foldedSetIterable e X.env x = pure x := by intro _; rfl) : DS X G W (.For tg e body [] pos) (sForC mo g mb k) := PS.imp (ps_for hp hc (pi_any he) hg hb hs) (forC_imp hK)
end
end DL

/-! Comprehensions over list cells, read as they stand at each turn. -/
namespace DL
open PySem PySem.Spec PyProof.Rows L2
def lcC (g : MG) (tt : MT) (te : ME) (ρ : DEnv) (n : Nat) : Nat → Nat → Store → Out (List Dv)
  | 0, _, _ => .bad
  | k + 1, i, μ => match μ[n]? with
    | some (.lst xs) => match xs[i]? with
      | none => .ok [] μ
      | some b => (g b ρ μ).gb fun ρ' μ => (tt ρ' μ).gb fun t μ => if t = true then (te ρ' μ).gb fun y μ => (lcC g tt te ρ n k (i + 1) μ).gb fun ys μ => .ok (y :: ys) μ else lcC g tt te ρ n k (i + 1) μ
    | _ => .bad
def lcCb (fin : OpN) (g : MG) (tt : MT) (te : ME) (vs : List Nat) (k : Nat) (ρ : DEnv) (b : Dv) (μ : Store) : Out Dv := match b with
  | .c n => if k ≤ sizeLine then (lcC g tt te (wipeD ρ vs) n k 0 μ).gb fin else .bad
  | _ => .bad
def eLcC (fin : OpN) (mo : ME) (g : MG) (tt : MT) (te : ME) (vs : List Nat) (k : Nat) : ME := fun ρ μ => (mo ρ μ).bind fun b μ => lcCb fin g tt te vs k ρ b μ
section
variable {X : Cx} {G : GT} {W : WX} {mo : ME} {g : MG} {tt : MT} {te : ME} {S vs : List Nat} {fin : OpN}
theorem lcC_imp (hK : X.K = G.K) (hf : OkFin G fin) (hS : ∀ i ∈ S, i ∈ vs) {k : Nat} : ∀ σ H Q, tE G W (eLcC fin mo g tt te vs k) σ H Q → tLc (iAny X.K (tE G W mo)) (tG G S g) (tT G W0 tt) (tE G W0 te) vs σ H Q := by
  rintro σ H Q ⟨w, μ, ρ, hl, he, p⟩
  refine tD.seq (k := fun ρ b μ => lcCb fin g tt te vs k ρ b μ) hl he p fun w1 μ1 H1 v b l1 lay1 en1 r1 p1 => ?_
  unfold lcCb at p1
  split at p1
  case h_2 => exact p1.elim
  rename_i n
  by_cases hz : k ≤ sizeLine
  case neg => rw [if_neg hz] at p1; exact p1.elim
  rw [if_pos hz] at p1
  obtain ⟨c, hc, rfl⟩ := r1
  cases k with
  | zero => exact p1.elim
  | succ k =>
  have hc0 : ∃ xs, μ1[n]? = some (.lst xs) := by
    unfold lcC at p1
    split at p1
    · rename_i xs e; exact ⟨xs, e⟩
    · exact p1.elim
  obtain ⟨xs0, e0⟩ := hc0
  obtain ⟨h1, vs0, h2, h3⟩ := lay1.at_ n _ c e0 hc
  refine .inl ⟨c, rfl, ⟨vs0, SqL.of h2⟩, ?_⟩
  rw [hK]
  intro a na
  obtain ⟨n1, n2, n3⟩ := lay1.na na
  refine ⟨fun i m H => ∃ m' w2 μ2 us acc, m = m' ∧ i + m' = k + 1 ∧ w1.le w2 ∧ Lay G w2 μ2 H ∧ H a = some (.lst us) ∧ w2.I a = none ∧ a ∉ w2.α ∧ w2.F a = none ∧ Rvs G w2 us acc ∧ acc.length ≤ i ∧
    Pst G W σ (Rv G) w2 ((lcC g tt te (wipeD ρ vs) n m' i μ2).gb fun ys μ => fin (acc ++ ys) μ) Q, ⟨k + 1, _, w1, μ1, [], [], rfl, by omega, w1.le_refl, lay1.other n1 n2 n3 _, upd_same, n1, n2, n3, .nil, Nat.le_refl _, p1⟩, ?_⟩
  rintro i m H2 ⟨m', w2, μ2, us, acc, rfl, him, l2, lay2, e2, i2, a2, f2, r2, hacc, p2⟩
  cases m with
  | zero => exact p2.elim
  | succ m =>
  unfold lcC at p2
  have hc2 : w2.α[n]? = some c := pre_get l2.2.1 hc
  split at p2
  case h_2 => exact p2.elim
  rename_i xs ex
  obtain ⟨g1, vs1, g2, g3⟩ := lay2.at_ n _ c ex hc2
  split at p2
  · rename_i hx
    have hlen : xs.length ≤ i := List.getElem?_eq_none_iff.mp hx
    refine .inl ⟨⟨vs1, SqL.of g2, by rw [Paired.length g3]; exact hlen⟩, ?_⟩
    simp only [gb_ok, List.append_nil] at p2
    exact hf W σ w2 μ2 H2 a us acc Q lay2 i2 a2 f2 e2 r2 p2
  · rename_i b hb
    obtain ⟨u, hu, ru⟩ := g3.at hb
    refine .inr ⟨⟨vs1, u, SqL.of g2, hu⟩, fun H => ∃ w2 μ2 us acc, w1.le w2 ∧ Lay G w2 μ2 H ∧ H a = some (.lst us) ∧ w2.I a = none ∧ a ∉ w2.α ∧ w2.F a = none ∧ Rvs G w2 us acc ∧ acc.length ≤ i + 1 ∧
      Pst G W σ (Rv G) w2 ((lcC g tt te (wipeD ρ vs) n m (i + 1) μ2).gb fun ys μ => fin (acc ++ ys) μ) Q, fun H' q => ?_, fun x H' y => ?_⟩
    · obtain ⟨w3, μ3, us3, acc3, q1, q2, q3, q4, q5, q6, q7, q8, q9⟩ := q
      exact ⟨m, Nat.lt_succ_self _, m, w3, μ3, us3, acc3, rfl, by omega, q1, q2, q3, q4, q5, q6, q7, q8, q9⟩
    · obtain ⟨rfl, y⟩ := y
      have hx := y vs1 (SqL.of g2)
      rw [hu] at hx
      cases hx
      obtain ⟨lp, layp⟩ := lay2.priv i2 a2 f2 e2
      have en3 : EnvR G (w2.priv a (.lst us)) (wipe σ vs) (wipeD ρ vs) := (en1.wipe vs).mono (l2.trans lp)
      refine ⟨w2.priv a (.lst us), μ2, wipeD ρ vs, b, layp, en3, ru.mono lp, ?_⟩
      cases q : g b (wipeD ρ vs) μ2 with
      | bad => rw [q] at p2; exact p2.elim
      | ex _ _ => rw [q] at p2; exact p2.elim
      | ok ρ4 μ4 =>
        rw [q] at p2
        intro w4 σ4 H4 l4 lay4 en4 ag
        refine ⟨wipe_agr ag hS, w4, μ4, ρ4, lay4, en4, ?_⟩
        cases q5 : tt ρ4 μ4 with
        | bad => simp only [gb_ok, q5] at p2; exact p2.elim
        | ex _ _ => simp only [gb_ok, q5] at p2; exact p2.elim
        | ok t μ5 =>
          simp only [gb_ok, q5] at p2
          intro w5 v5 H5 l5 lay5 r5
          have r5 : v5 = t := r5
          subst r5
          have lw5 : (w2.priv a (.lst us)).le w5 := l4.trans l5
          cases v5 with
          | false =>
            simp only [Bool.false_eq_true, if_false] at p2
            obtain ⟨le6, lay6, e6, i6, a6⟩ := lay5.unp lw5 f2 (.lst us)
            have hH : upd H5 a (.lst us) = H5 := by
              funext b
              by_cases z : b = a
              · subst z; rw [upd_same, e6]
              · rw [upd_ne z]
            rw [hH] at lay6
            exact ⟨w5.unp a, μ5, us, acc, l2.trans le6, lay6, e6, i6, a6, if_pos rfl, r2.mono le6, by omega, Pst.mono le6 p2⟩
          | true =>
            simp only [if_true] at p2
            refine ⟨w5, μ5, ρ4, lay5, en4.mono l5, ?_⟩
            cases q6 : te ρ4 μ5 with
            | bad => rw [q6] at p2; exact p2.elim
            | ex _ _ => rw [q6] at p2; exact p2.elim
            | ok y μ6 =>
              rw [q6] at p2
              intro w6 v6 H6 l6 lay6 r6
              obtain ⟨le7, lay7, e7, i7, a7⟩ := lay6.unp (lw5.trans l6) f2 (.lst (us ++ [v6]))
              refine ⟨us, e7, by rw [Paired.length r2]; omega, w6.unp a, μ6, us ++ [v6], acc ++ [y], l2.trans le7, lay7, upd_same, i7, a7, if_pos rfl, ?_, by simp; omega, ?_⟩
              · exact Rvs_app (r2.mono le7) (.cons (Rv.cong rfl rfl r6) .nil)
              · have p3 := Pst.mono le7 p2
                cases q7 : lcC g tt te (wipeD ρ vs) n m (i + 1) μ6 with
                | bad => simp only [gb_ok, q7] at p3; exact p3.elim
                | ex _ _ => simp only [gb_ok, q7] at p3; exact p3.elim
                | ok ys μ7 =>
                  simp only [gb_ok, q7] at p3
                  simp only [gb_ok, List.append_assoc, List.singleton_append]
                  exact p3
theorem de_lcC {elt tg e : Expr} {ifs : List Expr} {scope : Scope} (own : List (Str × Nat)) {pos : Pos} (k : Nat) (hf : OkFin G fin) (hc : X.calm = true) (hN : X.N.Nodup) (hK : X.K = G.K) (hi : DE X G W e mo) (ok : BlkOk X.N X.env.scope scope own)
    (hg : ∀ (s : Shared) (H : Hp) (C : Addr) (cl : List (Str × Addr)) (fp : List Addr), DG (X.blk s H scope (compEnvC scope cl C X.env) fp) G S tg g) (ht : ∀ (s : Shared) (H : Hp) (C : Addr) (cl : List (Str × Addr)) (fp : List Addr), PTs (X.blk s H scope (compEnvC scope cl C X.env) fp) ifs (tT G W0 tt))
    (he : ∀ (s : Shared) (H : Hp) (C : Addr) (cl : List (Str × Addr)) (fp : List Addr), DE (X.blk s H scope (compEnvC scope cl C X.env) fp) G W0 elt te) (hS : ∀ i ∈ S, i ∈ own.map (·.2) := by decide) (hs : ∀ x, foldedSetIterable e X.env x = pure x := by intro _; rfl) :
    DE X G W (.ListComp elt [⟨tg, e, ifs, 0⟩] scope pos) (eLcC fin mo g tt te (own.map (·.2)) k) := PE.imp (pe_lc hc hN (pi_any hi) ok hg ht he hs) (lcC_imp hK hf hS)
theorem ds_setLcC {i : Nat} {y : Str} {py : Pos} {elt tg e : Expr} {ifs : List Expr} {scope : Scope} (own : List (Str × Nat)) {lpos spos : Pos} (k : Nat) (hf : OkFin G fin) (hc : X.calm = true) (hN : X.N.Nodup) (hK : X.K = G.K) (hi : DE X G W e mo) (ok : BlkOk X.N X.env.scope scope own)
    (hg : ∀ (s : Shared) (H : Hp) (C : Addr) (cl : List (Str × Addr)) (fp : List Addr), DG (X.blk s H scope (compEnvC scope cl C X.env) fp) G S tg g) (ht : ∀ (s : Shared) (H : Hp) (C : Addr) (cl : List (Str × Addr)) (fp : List Addr), PTs (X.blk s H scope (compEnvC scope cl C X.env) fp) ifs (tT G W0 tt))
    (he : ∀ (s : Shared) (H : Hp) (C : Addr) (cl : List (Str × Addr)) (fp : List Addr), DE (X.blk s H scope (compEnvC scope cl C X.env) fp) G W0 elt te)
    (hy : X.N[i]? = some y := by rfl) (hyl : X.env.scope.names.lookup y = some .local := by rfl) (hsw : swapsWith (.ListComp elt [⟨tg, e, ifs, 0⟩] scope lpos) (some (.Name y py)) spos.line X.env = pure true := by exact sw_true rfl rfl rfl (by decide +kernel))
    (hS : ∀ i ∈ S, i ∈ own.map (·.2) := by decide) (hs : ∀ x, foldedSetIterable e X.env x = pure x := by intro _; rfl) :
    DS X G W (.Assign [.Name y py] (.ListComp elt [⟨tg, e, ifs, 0⟩] scope lpos) spos) (sSet i (eLcC fin mo g tt te (own.map (·.2)) k)) := by
  refine PS.imp (ps_setLc hc hN hy hyl hsw (pi_any hi) ok hg ht he hs) ?_
  rintro D σ H ⟨w, μ, ρ, hl, he, p⟩
  apply lcC_imp hK hf hS
  exact tD.seqS (k := fun ρ b μ => .ok (.nx (ρ.set i (some b))) μ) hl he p fun w1 μ1 H1 v b l1 lay1 en1 r1 p1 => p1 w1 _ H1 w1.le_refl lay1 (en1.set i r1)
end
end DL

/-! tuple(x), list(x) of lists, tuples, cells. -/
namespace DL
open PySem PySem.Spec PyProof.Rows L2
def dToTup : Op1 := fun x μ => match itemsT x with
  | some _ => .ok x μ
  | none => match items x μ with
    | some bs => dTup bs μ
    | none => .bad
def dToList (fin : OpN) : OpN := n1 fun b μ => match itemsA b μ with
  | some bs => fin bs μ
  | none => .bad
section
variable {X : Cx} {G : GT} {W : WX} {a : Expr} {m : ME} {p pos : Pos}
def kTupS (K : PySem.W.Frag) (x : V) (H : Hp) (Q : VK) : Prop :=
  (∃ p xs, x = .ref p ∧ SqL K H p xs ∧ ∀ q its, H q = none → Q (.ref q) (upd H q (frT its xs))) ∨ (∃ p xs, x = .ref p ∧ SqT K H p xs ∧ Q (.ref p) H)
theorem rl_tupleS (pins : List (Addr × Obj)) (s : Shared) (σ : L2.St) (H : Hp) (x : V) (v : Value) (Q : VK) (I : Inv X pins σ H s) (r : RelV x v) (h : kTupS X.K x H Q) :
    wpAny (model X.prog X.w) X.A (call (.type "tuple") [v]) (EP X pins σ Q) X.xe s := by
  rcases h with ⟨p, xs, rfl, hs, q⟩ | h
  · obtain rfl : v = .ref p := r
    obtain ⟨its, rv, pl, hz⟩ := I.list hs
    refine call_tuple_list pl.isList (fun h' hk => ?_) (by rw [List.size_toArray, ← rv.length]; exact hz)
    have I1 : Inv X pins σ H { s with heap := h' } := I.kept (t' := s.toks) hk
    have I2 : Inv X pins σ (upd H h'.objs.size (frT its.toArray xs)) { s with heap := h'.push { cls := .type "tuple", data := .seq its.toArray } } :=
      I1.laid (t' := s.toks) (fun b o e => Heap.get?_push_of_some _ e) (Nat.le_refl _) (frT_ok hz rv (Heap.get?_push_size _ rfl))
    exact ⟨.ref h'.objs.size, _, I2, rfl, q _ _ (I1.hok.fresh (Nat.le_refl _))⟩
  · exact rl_tuple pins s σ H x v Q I r (.inr h)
theorem pe_tupleOfS {a : Expr} {ta : TE} {p pos : Pos} (hg : Gl X "tuple") (hm : X.mg "tuple" = none) (ha : PE X a ta) (na : starEach [a] X.env = (false, eval a X.env) :: starEach [] X.env := by rfl) :
    PE X (.Call (.Name "tuple" p) [a] [] pos) (tThen ta (kTupS X.K)) := by
  refine ⟨fun pins s σ H Q I h => ?_⟩
  exact Call_ (ld_blt I hg hm boot_tuple (PyProof.Rows.callWith_type1 (one_arg ha I h (fun v s2 x H2 I2 r q => rl_tupleS pins s2 σ H2 x v Q I2 r q) na) na))
theorem de_tupleOf (hK : X.K = G.K) (hg : Gl X "tuple") (hm : X.mg "tuple" = none) (ha : DE X G W a m) (na : starEach [a] X.env = (false, eval a X.env) :: starEach [] X.env := by rfl) : DE X G W (.Call (.Name "tuple" p) [a] [] pos) (e1 dToTup m) := by
  refine PE.imp (pe_tupleOfS hg hm ha na) ?_
  rintro σ H Q ⟨w, μ, ρ, hl, he, pp⟩
  refine tD.seq (k := fun ρ x μ => dToTup x μ) hl he pp fun w1 μ1 H1 v b l1 lay1 en1 r1 p1 => ?_
  unfold dToTup at p1
  split at p1
  · rename_i bs e
    unfold itemsT at e
    split at e
    · rename_i ds
      cases e
      obtain ⟨c, vs, rfl, h1, h2⟩ := rv_tup r1
      exact .inr ⟨c, vs, rfl, by rw [hK]; exact seqT lay1.same h1, p1 w1 _ H1 w1.le_refl lay1 r1⟩
    · cases e
  · split at p1
    · rename_i bs e
      obtain ⟨c, vs, rfl, h1, h2⟩ := items_ok lay1 r1 e
      obtain ⟨_, q⟩ := tup_new lay1 h2 p1
      exact .inl ⟨c, vs, rfl, by rw [hK]; exact h1, q⟩
    · exact p1.elim
def rListOf (K : PySem.W.Frag) : List V → Hp → VK → Prop := fun xs H Q => ∃ p ys, xs = [.ref p] ∧ (SqL K H p ys ∨ SqT K H p ys) ∧ ∀ l, H l = none → Q (.ref l) (upd H l (.lst ys))
theorem ok_listOf : OkN G (rListOf G.K) (dToList dList) := by
  apply ok_n1
  intro W σ w μ H x b Q l r p
  split at p
  · rename_i bs e
    obtain ⟨c, vs, rfl, h1, h2⟩ := itemsA_ok l r e
    exact ⟨c, vs, rfl, h1, (list_new l h2 p).2⟩
  · exact p.elim
theorem ok_listOfC : OkN G (rListOf G.K) (dToList cList) := by
  apply ok_n1
  intro W σ w μ H x b Q l r p
  split at p
  · rename_i bs e
    obtain ⟨c, vs, rfl, h1, h2⟩ := itemsA_ok l r e
    exact ⟨c, vs, rfl, h1, (list_cell l h2 p).2⟩
  · exact p.elim
theorem call_listOf : CallR X (.type "list") (rListOf X.K) := call_list_of
end
end DL

/-! for over enumerate of a list cell. -/
namespace DL
open PySem PySem.Spec PyProof.Rows L2
def forE (g : MG) (mb : MS) (n : Nat) : Nat → Nat → DEnv → Store → Out Fl
  | 0, _, _, _ => .bad
  | k + 1, i, ρ, μ => match μ[n]? with
    | some (.lst xs) => match xs[i]? with
      | none => .ok (.nx ρ) μ
      | some (.d x) => (g (.d (.tuple [.int i, x])) ρ μ).gb fun ρ μ => (mb ρ μ).bind fun f μ => match f with
        | .nx ρ => forE g mb n k (i + 1) ρ μ
        | .ct ρ => forE g mb n k (i + 1) ρ μ
        | .bk ρ => .ok (.nx ρ) μ
        | .rt v => .ok (.rt v) μ
      | some _ => .bad
    | _ => .bad
def forEb (g : MG) (mb : MS) (k : Nat) (b : Dv) (ρ : DEnv) (μ : Store) : Out Fl := match b with
  | .c n => forE g mb n k 0 ρ μ
  | _ => .bad
def sForE (mo : ME) (g : MG) (mb : MS) (k : Nat) : MS := fun ρ μ => (mo ρ μ).bind fun b μ => forEb g mb k b ρ μ
end DL

/-! a comprehension's list as a cell; calls of defs without arguments -/
namespace DL
open PySem PySem.Spec PyProof.Rows L2
theorem Lay.adopt {G : GT} {w : Wd} {μ : Store} {H : Hp} (l : Lay G w μ H) {p : Addr} (h1 : w.I p = none) (h2 : p ∉ w.α) (h3 : w.F p = none) {o : HO} {c : Cell} (e0 : H p = some o) (hc : ∀ H', H' p = some o → CellAt G (w.ext p) H' p c) : w.le (w.ext p) ∧ Lay G (w.ext p) (μ ++ [c]) H := by
  have l2 := l
  refine ⟨⟨Same.refl _, List.prefix_append _ _, Same.refl _⟩, l2.same, by simp [l2.len], ?_, fun a ha => ?_, l2.fr, fun a ha => ?_, l2.di, fun n c' a e q => ?_⟩
  · refine List.nodup_append.mpr ⟨l.nd, by simp, fun a ha b hb => ?_⟩
    simp at hb
    subst hb
    exact ne_mem ha h2
  · rcases List.mem_append.mp ha with ha | ha
    · exact l2.lv a ha
    · simp at ha; subst ha; exact ⟨o, e0⟩
  · rcases List.mem_append.mp ha with ha | ha
    · exact l2.fd a ha
    · simp at ha; subst ha; exact h3
  · by_cases hn : n < μ.length
    · rw [List.getElem?_append_left hn] at e
      have q : (w.α ++ [p])[n]? = some a := q
      rw [List.getElem?_append_left (by rw [l.len]; exact hn)] at q
      exact CellAt.cong (w := w) (w' := w.ext p) (fun z => z) ⟨Same.refl _, List.prefix_append _ _⟩ rfl (l2.at_ n c' a e q)
    · have hn' : n = μ.length := by
        have := (List.getElem?_eq_some_iff.mp e).1
        simp at this
        omega
      subst hn'
      have q : (w.α ++ [p])[μ.length]? = some a := q
      rw [← l.len, List.getElem?_append_right (Nat.le_refl _)] at q
      rw [List.getElem?_append_right (Nat.le_refl _)] at e
      simp at q e
      subst q e
      exact hc _ e0
theorem fin_cell {G : GT} : OkFin G cList := by
  intro W σ w μ H a vs bs Q l h1 h2 h3 e r p
  unfold cList at p
  by_cases z : bs.length ≤ sizeLine
  · rw [if_pos z] at p
    have le0 : w.le (w.ext a) := ⟨Same.refl _, List.prefix_append _ _, Same.refl _⟩
    obtain ⟨le, l2⟩ := l.adopt (c := .lst bs) h1 h2 h3 e (fun H' e' => ⟨h1, vs, e', Rvs.mono le0 r⟩)
    refine p _ (.ref a) _ le l2 ⟨a, ?_, rfl⟩
    show (w.α ++ [a])[μ.length]? = some a
    rw [← l.len]
    simp
  · rw [if_neg z] at p
    exact p.elim
theorem de_calC0 {X : Cx} {G : GT} {W : WX} {k : Nat} {x : Str} {kb : List (List Str × List Nat)} {F : OpN} {p pos : Pos} (hK : X.K = G.K) (C : Cal X.prog X.w G X.mg X.base x k [] kb F) (g : X.A.guards = some []) (hr : Room k X.A) (tk : Takes X W) (hg : Gl X x) (hdb : (x == ("__debug__" : Str)) = false := by decide) : DE X G W (.Call (.Name x p) [] [] pos) (eN (fCall 0 F) aNil) := by
  obtain ⟨f, fd, h1, h2, h3, h4, _⟩ := C.ex
  rw [← hK] at h1 h3 h4
  apply PE.imp (t := tCallSD (spD G 0 F) [] (WE W) (tA G W aNil)) _ call_imp
  constructor
  intro pins s σ H Q I h
  apply wpAny_Call_Name_kw
  apply ld_glob I hg h2 _ hdb
  apply PySem.W.callWith_K0 I.kIn h3
  obtain ⟨w, μ, ρ, hl, he, pp⟩ := h
  have q : spD G 0 F [] H Q (WE W σ) := pp w [] H w.le_refl hl .nil
  have hb1 := h4 s [] I.kIn rfl
  apply wpAny_call
  apply codeAny_mono (runG h1 g hr (fun _ _ _ _ _ I c => passAt tk σ _ _ _ _ _ I c) I hb1 .nil q)
  rintro (e | fl) s' q
  · exact q
  · cases fl with
    | ret u => exact q
    | next => exact q.elim
    | brk => exact q.elim
    | cont => exact q.elim
end DL

/-! sorted(xs) of data that are alike, of any kind. -/
namespace DL
open PySem PySem.Spec PyProof.Rows L2
open PySem.W (EachIs AllAlike Sortable dataLe alike)
abbrev srt (ds : List D) : List D := ds.mergeSort (dataLe false id)
abbrev srtZ (zs : List (V × D)) : List (V × D) := zs.mergeSort (dataLe false Prod.snd)
theorem srtZ_snd (zs : List (V × D)) : (srtZ zs).map Prod.snd = srt (zs.map Prod.snd) := PySem.W.sort_maps Prod.snd fun _ _ _ _ => rfl
theorem srt_perm (ds : List D) : (srt ds).Perm ds := List.mergeSort_perm ds _
theorem srt_mem {ds : List D} {d : D} : d ∈ srt ds ↔ d ∈ ds := (srt_perm ds).mem_iff
theorem srt_len (ds : List D) : (srt ds).length = ds.length := (srt_perm ds).length_eq
def tupD : D → Bool
  | .tuple (_ :: _) => true
  | _ => false
def soloD : D → Bool
  | .tuple _ => false
  | .none => false
  | _ => true
/-- such a list can be sorted -/
def canSort (ds : List D) : Bool := (ds.all fun d => ds.all fun e => alike d e) && (ds.all tupD || ds.all soloD) && (ds.all fun d => decide (d.depth ≤ 40)) && nodicts ds
theorem canSort_ok {ds : List D} (h : canSort ds = true) : AllAlike ds ∧ Sortable ds ∧ (∀ d ∈ ds, d.depth ≤ 40) ∧ nodicts ds = true := by
  unfold canSort at h
  simp only [Bool.and_eq_true, Bool.or_eq_true, List.all_eq_true, decide_eq_true_eq] at h
  obtain ⟨⟨⟨h1, h2⟩, h3⟩, h4⟩ := h
  refine ⟨h1, ?_, h3, h4⟩
  rcases h2 with h2 | h2
  · left
    intro d hd
    have q := h2 d hd
    unfold tupD at q
    split at q
    · exact ⟨_, _, rfl⟩
    · cases q
  · right
    intro d hd
    have q := h2 d hd
    refine ⟨?_, fun xs z => ?_⟩
    · rintro rfl; cases q
    · subst z; cases q
def rSortD (K : PySem.W.Frag) : List V → Hp → VK → Prop := fun vs H Q => ∃ (a : Addr) (zs : List (V × D)), vs = [V.ref a] ∧ SqL K H a (zs.map Prod.fst) ∧ DpAll K H (zs.map Prod.fst) (zs.map Prod.snd) ∧ canSort (zs.map Prod.snd) = true ∧
  ∀ p : Addr, H p = none → Q (.ref p) (upd H p (.lst ((srtZ zs).map Prod.fst)))
theorem each_rel : ∀ {zs : List (V × D)} {us : List Value}, Vals (zs.map Prod.fst) us → EachIs (fun u (z : V × D) => RelV z.1 u) us zs
  | [], _, h => by cases h; exact .nil
  | z :: zs, _, h => by
    cases h with
    | cons r t => exact .cons r (each_rel t)
theorem rel_each : ∀ {us : List Value} {zs : List (V × D)}, EachIs (fun u (z : V × D) => RelV z.1 u) us zs → Vals (zs.map Prod.fst) us
  | _, _, .nil => .nil
  | _, _, .cons r t => .cons r (rel_each t)
section
variable {X : Cx}
theorem each_reads {pins : List (Addr × Obj)} {σ : L2.St} {H : Hp} {s : Shared} (I : Inv X pins σ H s) : ∀ {zs : List (V × D)} {us : List Value}, Vals (zs.map Prod.fst) us → DpAll X.K H (zs.map Prod.fst) (zs.map Prod.snd) → EachIs (fun u (z : V × D) => ∃ as, Reads s.heap u z.2 as) us zs
  | [], _, h, _ => by cases h; exact .nil
  | z :: zs, _, h, g => by
    cases h with
    | cons r t =>
      cases g with
      | cons d e => exact .cons (Dp.reads I _ _ _ d r) (each_reads I t e)
theorem cr_sortD (hu : X.A.units + 64 < cLine) : CallR X (.builtin "sorted") (rSortD X.K) := by
  intro pins s σ H vs us Q I r h
  obtain ⟨a, zs, rfl, hs, hd, hc, q⟩ := h
  obtain ⟨hal, hk, hdep, _⟩ := canSort_ok hc
  obtain ⟨its, rv, hl, hz⟩ := I.list hs
  rw [Vals.ref1 r]
  have hn : zs.length ≤ sizeLine := by
    rw [List.length_map] at hz
    exact hz
  refine PySem.W.sorted_data (enc := Prod.snd) hl.isList (each_rel rv) (each_reads I rv hd) hal hk hn (fun z m => ?_) fun out ho eo => ?_
  · have := hdep z.2 (List.mem_map.mpr ⟨z, m, rfl⟩)
    show X.A.units + 2 + z.2.depth < cLine
    omega
  · obtain ⟨ep, top⟩ := PyProof.Rows.sortedAll_at s.heap its out.toArray
    have sz : ((srtZ zs).map Prod.fst).length ≤ sizeLine := by
      rw [List.length_map, (List.mergeSort_perm zs _).length_eq]
      exact hn
    refine ⟨.ref (s.heap.objs.size + 1), upd H (s.heap.objs.size + 1) (.lst ((srtZ zs).map Prod.fst)), ?_, rfl, q _ (I.hok.fresh (Nat.le_succ _))⟩
    exact I.laid (t' := s.toks) (fun _ _ => PyProof.Rows.sortedAll_old) (Nat.le_succ _) ⟨sz, out, ep, rel_each eo, top⟩
end
/-- sorted(xs) -/
def dSort : OpN := n1 fun b μ => match items b μ with
  | some bs => match allD bs with
    | some ds => if canSort ds = true then dList ((srt ds).map .d) μ else .bad
    | none => .bad
  | none => .bad
theorem RpA_zip {K : PySem.W.Frag} {I : Hp} : ∀ {vs : List V} {ds : List D}, RpA K I vs ds → (vs.zip ds).map Prod.fst = vs ∧ (vs.zip ds).map Prod.snd = ds ∧ ∀ z ∈ vs.zip ds, Rp K I z.1 z.2
  | _, _, .nil => ⟨rfl, rfl, fun z h => by simp at h⟩
  | _, _, .cons (v := v) (d := d) r t => by
    obtain ⟨h1, h2, h3⟩ := RpA_zip t
    refine ⟨?_, ?_, fun z h => ?_⟩
    · rw [List.zip_cons_cons, List.map_cons, h1]
    · rw [List.zip_cons_cons, List.map_cons, h2]
    · rw [List.zip_cons_cons] at h
      rcases List.mem_cons.mp h with e | h
      · rw [e]; exact r
      · exact h3 z h
theorem RpA_of_zip {K : PySem.W.Frag} {I : Hp} : ∀ {zs : List (V × D)}, (∀ z ∈ zs, Rp K I z.1 z.2) → RpA K I (zs.map Prod.fst) (zs.map Prod.snd)
  | [], _ => .nil
  | z :: zs, h => .cons (h z List.mem_cons_self) (RpA_of_zip fun y m => h y (List.mem_cons_of_mem _ m))
section
variable {G : GT}
theorem ok_sortD : OkN G (rSortD G.K) dSort := by
  apply ok_n1
  intro W σ w μ H x b Q l r p
  split at p
  · rename_i bs e
    split at p
    · rename_i ds e2
      split at p
      · rename_i c
        obtain ⟨a, vs, rfl, h1, h2⟩ := items_ok l r e
        rw [allD_eq e2] at h2
        have ra := RpA_of_Rvs h2
        obtain ⟨z1, z2, z3⟩ := RpA_zip ra
        have nd := (canSort_ok c).2.2.2
        refine ⟨a, vs.zip ds, rfl, by rw [z1]; exact h1, by rw [z1, z2]; exact RpA.dp _ _ nd (RpA.mono l.same _ _ ra), by rw [z2]; exact c, ?_⟩
        have hr : RpA G.K w.I ((srtZ (vs.zip ds)).map Prod.fst) ((srtZ (vs.zip ds)).map Prod.snd) := RpA_of_zip fun z m => z3 z ((List.mergeSort_perm _ _).mem_iff.mp m)
        rw [srtZ_snd, z2] at hr
        exact (list_new l (Rvs_of_RpA hr) p).2
      · exact p.elim
    · exact p.elim
  · exact p.elim
end
end DL

/-! set(xs) of numbers and texts, as a list of unlike keys. -/
noncomputable section
namespace DL
open PySem PySem.Spec PyProof.Rows L2 PySem.Froz
def kOf : Value → Key
  | .int i _ => .inl i
  | .str x _ => .inr x
  | _ => .inl 0
theorem kOf_is {k : Key} {v : Value} (h : keyIs k v = true) : kOf v = k := by
  rcases keyIs_shape h with ⟨i, t, rfl, rfl⟩ | ⟨x, t, rfl, rfl⟩ <;> rfl
theorem scan_key {k : Key} {v : Value} (h : keyIs k v = true) : v.scannable = true := by
  rcases keyIs_shape h with ⟨i, t, rfl, rfl⟩ | ⟨x, t, rfl, rfl⟩ <;> rfl
/-- the payload holds these keys, in some order, and can be walked -/
structure KsOk (P : Program) (w : World) (D : SD) (ks : List Key) : Prop where
  el : ElemsOf (mixKind P w) D.1.toList
  pm : (D.1.toList.map fun e => kOf e.2).Perm ks
  fit : D.2.2.fits D.1.size = true
  ris : Ris D.2.2.place.toList
  led : w.params.followText "set-order" = true ∨ D.2.2.led = true
section
variable {P : Program} {w : World} {A : Around} {E : Value → Shared → Prop} {s : Shared} {D : SD} {ks : List Key} {k : Key} {v : Value}
theorem KsOk.size (F : KsOk P w D ks) : D.1.size = ks.length := by
  have q := F.pm.length_eq
  rw [List.length_map, Array.length_toList] at q
  exact q
theorem KsOk.has (F : KsOk P w D ks) (k : Key) : (∃ e ∈ D.1.toList, keyIs k e.2 = true) ↔ k ∈ ks := by
  rw [← F.pm.mem_iff, List.mem_map]
  constructor
  · rintro ⟨e, he, q⟩
    exact ⟨e, he, kOf_is q⟩
  · rintro ⟨e, he, q⟩
    obtain ⟨⟨k', q', _⟩, _⟩ := F.el e he
    have q2 : keyIs k' e.2 = true := q'
    rw [kOf_is q2] at q
    exact ⟨e, he, by rw [← q]; exact q2⟩
theorem KsOk.start (w : World) : KsOk P w (#[], 0, .fresh 0 0 (!w.params.followText "set-order")) [] := by
  refine ⟨fun e he => by simp at he, .nil, rfl, List.Pairwise.nil, ?_⟩
  show _ ∨ (!w.params.followText "set-order") = true
  cases w.params.followText "set-order" <;> simp
/-- the payload behind an add of a new key -/
def addKx (h : Int) (v : Value) (D : SD) : SD :=
  tailTx D.2.1 (layNew D.2.2 D.1 h v).1 (if (layNew D.2.2 D.1 h v).2.1.plain = true then (if plainKind v = true then (layNew D.2.2 D.1 h v).2.1 else { (layNew D.2.2 D.1 h v).2.1 with plain := false }) else (layNew D.2.2 D.1 h v).2.1) (layNew D.2.2 D.1 h v).2.2.1
theorem KsOk.cons (F : KsOk P w D ks) (hv : keyIs k v = true) : KsOk P w (addKx (keyH w k) v D) (k :: ks) := by
  obtain ⟨es, ep, t⟩ := D
  obtain ⟨f1, f2, f3, f4, f5⟩ := F
  have a1 := layNew_perm t es (keyH w k) v
  have a2 := layNew_fits t es (keyH w k) v
  have a3 := layNew_ris t es (keyH w k) v f4
  have a4 := layNew_led t es (keyH w k) v
  unfold addKx
  generalize layNew t es (keyH w k) v = L at a1 a2 a3 a4 ⊢
  obtain ⟨es1, t1, wd, gv⟩ := L
  dsimp only at a1 a2 a3 a4 ⊢
  rw [Array.toList_push] at a1
  have el1 : ElemsOf (mixKind P w) es1.toList := fun e he => by
    rcases List.mem_append.mp (a1.mem_iff.mp he) with he | he
    · exact f1 e he
    · rw [List.mem_singleton.mp he]
      exact ⟨⟨k, hv, rfl⟩, scan_key hv⟩
  have pm1 : (es1.toList.map fun e => kOf e.2).Perm (k :: ks) := by
    refine (a1.map _).trans ?_
    rw [List.map_append, List.map_cons, List.map_nil, kOf_is hv]
    exact (List.perm_append_singleton _ _).trans (List.Perm.cons _ f2)
  have z : ∀ t2 : SetTable, t2.fits es1.size = true → Ris t2.place.toList → t2.led = t.led → KsOk P w (tailTx ep es1 t2 wd) (k :: ks) := fun t2 b1 b2 b3 => by
    unfold tailTx
    split
    · have c1 := relayAll_perm t2 es1 (SetTable.grown es1.size)
      have c2 := relayAll_fits t2 es1 (SetTable.grown es1.size)
      have c3 := relayAll_ris t2 es1 (SetTable.grown es1.size)
      have c4 := relayAll_led t2 es1 (SetTable.grown es1.size)
      exact ⟨fun e he => el1 e (c1.mem_iff.mp he), (c1.map _).trans pm1, c2, c3, f5.imp id fun y => c4.trans (b3.trans y)⟩
    · exact ⟨el1, pm1, b1, b2, f5.imp id fun y => b3.trans y⟩
  split
  · split
    · exact z _ a2 a3 a4
    · exact z _ (SetTable.fits_plain_off a2) a3 a4
  · exact z _ a2 a3 a4
variable {a : Addr} {Q : Bool → Shared → Prop}
/-- a key put to a set -/
theorem add_key (hv : keyIs k v = true) (ho : s.heap.get? a = some (sObj "set" D)) (F : KsOk P w D ks) (room : ks.length + 1 < scanBound) (old : k ∈ ks → Q false s)
    (new : k ∉ ks → Q true { s with heap := s.heap.update a (fun _ => sObj "set" (addKx (keyH w k) v D)) }) : wpAny (model P w) A (setAddHashed a v (keyH w k)) Q E s := by
  have sz := F.size
  have hm := F.has k
  obtain ⟨es, ep, t⟩ := D
  have d0 : (sObj "set" (es, ep, t)).data = .set es ep t := rfl
  have el : ElemsOf (mixKind P w) es.toList := F.el
  have ft : t.fits es.size = true := F.fit
  have sz' : es.size = ks.length := sz
  have b0 : es.size < scanBound := by omega
  have told : ∀ (b : Bool) {s1 : Shared} {Z : Unit → Shared → Prop}, Z () s1 → wpAny (model P w) A (match b with | true => rule "set.scan.the-table-gave-way" | false => pure ()) Z E s1 := by
    intro b s1 Z z
    cases b
    · exact wpAny_pure z
    · exact wpAny_rule z
  unfold setAddHashed setAddHashedIn
  apply wpAny_holding
  apply wpAny_bind
  apply wpAny_setState_of ho d0 ft
  dsimp only
  rw [byScan_of (scan_key hv) b0 el]
  simp only [↓reduceIte]
  unfold setAddByScan
  apply wpAny_bind
  apply wpAny_bind
  apply wpAny_rule
  apply wpAny_bind
  apply wpAny_setScan_of (knd := mixKind P w) (k := k) hv ho d0 ft el
  cases q : List.findIdx? (fun e => (mixKind P w).is k e.2) es.toList with
  | some j =>
    obtain ⟨hj, pj, _⟩ := List.findIdx?_eq_some_iff_getElem.mp q
    dsimp only
    apply wpAny_pure
    apply wpAny_pure
    exact old (hm.mp ⟨es.toList[j], List.getElem_mem hj, pj⟩)
  | none =>
    have nk : k ∉ ks := fun z => by
      obtain ⟨e, he, pe⟩ := hm.mpr z
      have c := List.findIdx?_eq_none_iff.mp q e he
      have pe : (mixKind P w).is k e.2 = true := pe
      rw [pe] at c
      cases c
    have fin := new nk
    have pm := layNew_perm t es (keyH w k) v
    unfold addKx at fin
    dsimp only at fin ⊢
    generalize layNew t es (keyH w k) v = L at pm fin ⊢
    obtain ⟨es1, t1, wd, gv⟩ := L
    dsimp only at pm fin ⊢
    have b1 : es1.size < scanBound := by
      have e := pm.length_eq
      rw [Array.toList_push, List.length_append, Array.length_toList, Array.length_toList, List.length_singleton] at e
      omega
    apply wpAny_bind
    apply told
    by_cases pl : t1.plain = true
    · rw [if_pos pl] at fin ⊢
      apply wpAny_bind
      rw [hashByValue_scannable 8 (scan_key hv)]
      apply wpAny_pure
      refine addTail_x (fun b s1 Z z => ?_) ho b1 ?_
      · cases b
        · exact wpAny_pure z
        · exact wpAny_rule z
      · exact wpAny_pure fin
    · rw [if_neg pl] at fin ⊢
      apply wpAny_bind
      apply wpAny_pure
      simp only [↓reduceIte]
      refine addTail_x (fun b s1 Z z => ?_) ho b1 ?_
      · cases b
        · exact wpAny_pure z
        · exact wpAny_rule z
      · exact wpAny_pure fin
end
/-- the keys of a list, each once -/
def memK (k : Key) (l : List Key) : Bool := l.any fun j => decide (j = k)
theorem memK_iff {k : Key} {l : List Key} : memK k l = true ↔ k ∈ l := by
  unfold memK
  rw [List.any_eq_true]
  constructor
  · rintro ⟨j, hj, e⟩
    rw [← of_decide_eq_true e]
    exact hj
  · exact fun h => ⟨k, h, decide_eq_true rfl⟩
def ddS (acc : List Key) (k : Key) : List Key := if memK k acc = true then acc else k :: acc
def ddK (ks : List Key) : List Key := ks.foldl ddS []
theorem ddK_snoc (ks : List Key) (k : Key) : ddK (ks ++ [k]) = ddS (ddK ks) k := by
  unfold ddK
  rw [List.foldl_append]
  rfl
theorem ddS_facts (acc : List Key) (k : Key) (h : acc.Nodup) : (ddS acc k).Nodup ∧ (∀ j, j ∈ ddS acc k ↔ j ∈ acc ∨ j = k) ∧ (ddS acc k).length ≤ acc.length + 1 := by
  unfold ddS
  split
  · rename_i c
    refine ⟨h, fun j => ⟨Or.inl, fun z => z.elim id fun e => by rw [e]; exact memK_iff.mp c⟩, by omega⟩
  · rename_i c
    refine ⟨List.nodup_cons.mpr ⟨fun z => c (memK_iff.mpr z), h⟩, fun j => ?_, by rw [List.length_cons]; omega⟩
    rw [List.mem_cons]
    exact Or.comm
theorem ddF_facts : ∀ (ks acc : List Key), acc.Nodup → (ks.foldl ddS acc).Nodup ∧ (∀ j, j ∈ ks.foldl ddS acc ↔ j ∈ acc ∨ j ∈ ks) ∧ (ks.foldl ddS acc).length ≤ acc.length + ks.length
  | [], acc, h => ⟨h, fun j => by simp, Nat.le_refl _⟩
  | k :: ks, acc, h => by
    obtain ⟨a1, a2, a3⟩ := ddS_facts acc k h
    obtain ⟨b1, b2, b3⟩ := ddF_facts ks _ a1
    refine ⟨b1, fun j => ?_, ?_⟩
    · rw [List.foldl_cons, b2, a2, List.mem_cons, or_assoc]
    · rw [List.foldl_cons, List.length_cons]
      omega
theorem ddK_facts (ks : List Key) : (ddK ks).Nodup ∧ (∀ k, k ∈ ddK ks ↔ k ∈ ks) ∧ (ddK ks).length ≤ ks.length := by
  obtain ⟨h1, h2, h3⟩ := ddF_facts ks [] List.nodup_nil
  exact ⟨h1, fun k => (h2 k).trans ⟨fun z => z.elim (fun y => by cases y) id, Or.inr⟩, by rw [List.length_nil, Nat.zero_add] at h3; exact h3⟩
/-! ### the walk that puts all items to the set -/
section
variable {P : Program} {w : World} {A : Around} {E : Value → Shared → Prop} {s : Shared}
theorem upd_keys {I : Addr} {fp wr : List Addr} {G : Array GenState → Array GenState → Prop} {n : Nat} {Pv : Nat → Value → Prop} {St : Nat → Shared → Prop} {R : Result → Shared → Prop}
    (W : WalksS P w A.in1 I fp wr G n Pv St) {a : Addr} (ha : a ∉ fp) {ks : List Key} (len : ks.length = n) (room : n + 1 < scanBound) (hv : ∀ i v, Pv i v → ∃ k, ks[i]? = some k ∧ keyIs k v = true) :
    ∀ (m i : Nat) (s : Shared) (D : SD), i + m = n → St i s → s.heap.get? a = some (sObj "set" D) → KsOk P w D (ddK (ks.take i)) →
      (∀ s' D', Moved (a :: wr) G s s' → s'.heap.get? a = some (sObj "set" D') → KsOk P w D' (ddK ks) → R (.ok (.ret .none)) s') →
      codeAny (model P w) A (.builtin "set.update.loop" ⟨[.ref a, .ref I], []⟩) R s := by
  have aw : a ∉ wr := fun z => ha (W.sub _ z)
  have more : ∀ {s1 s2 : Shared}, Moved wr G s1 s2 → Moved (a :: wr) G s1 s2 := fun m => m.mono fun b hb => List.mem_cons_of_mem _ hb
  intro m
  induction m with
  | zero =>
    intro i s D e st ho F fin
    have ei : i = n := by omega
    subst ei
    apply codeAny_builtin PyProof.Rows.F.entry_set_update_loop
    rw [Around.under_plainId PyProof.Rows.F.plain_set_update_loop _]
    show wpAny _ A.in1 (pyNext (.ref I) >>= _) _ _ s
    apply wpAny_bind
    apply W.done s _ _ st
    intro s' mv
    rw [List.take_of_length_le (by omega)] at F
    exact wpAny_pure (fin s' D (more mv) (mv.heap a _ aw ho) F)
  | succ m ih =>
    intro i s D e st ho F fin
    apply codeAny_builtin PyProof.Rows.F.entry_set_update_loop
    rw [Around.under_plainId PyProof.Rows.F.plain_set_update_loop _]
    show wpAny _ A.in1 (pyNext (.ref I) >>= _) _ _ s
    apply wpAny_bind
    apply W.item i s _ _ (by omega) st
    intro v s' pv st' mv
    obtain ⟨k, hk, kv⟩ := hv i v pv
    have ho' := mv.heap a _ aw ho
    show wpAny _ A.in1 (holding [v] (setAdd a v) >>= _) _ _ s'
    apply wpAny_bind
    apply wpAny_holding
    unfold setAdd
    apply wpAny_holding
    apply wpAny_bind
    apply (mixKind P w).pyHash (k := k) kv
    have dd : ddK (ks.take (i + 1)) = ddS (ddK (ks.take i)) k := by
      rw [List.take_add_one, hk]
      exact ddK_snoc _ _
    have dl := (ddK_facts (ks.take i)).2.2
    rw [List.length_take] at dl
    have go : ∀ (D' : SD) (h' : Heap), h'.get? a = some (sObj "set" D') → KsOk P w D' (ddK (ks.take (i + 1))) → (∀ b o, b ≠ a → s'.heap.get? b = some o → h'.get? b = some o) →
        codeAny (model P w) A (.builtin "set.update.loop" ⟨[.ref a, .ref I], []⟩) R { s' with heap := h', toks := s'.toks + 1 } := fun D' h' o' F' kp => by
      refine ih (i + 1) _ D' (by omega) (W.frame _ s' _ _ st' (Nat.le_succ _) fun b hb o z => kp b o (fun y => ha (y ▸ hb)) z) o' F' fun s2 D2 m2 o2 F2 => ?_
      refine fin s2 D2 (Moved.trans W.gtrans ((more mv).then_heap (Nat.le_succ _) fun b o hb z => ?_) m2) o2 F2
      exact kp b o (fun y => hb (by rw [y]; exact List.mem_cons_self)) z
    refine add_key (P := P) (w := w) (s := { s' with toks := s'.toks + 1 }) kv ho' F (by omega) (fun old => ?_) fun new => ?_
    · refine wpAny_pure ⟨plainId_quiet PyProof.Rows.F.plain_set_update_loop _, go D _ ho' ?_ fun _ _ _ z => z⟩
      rw [dd]
      unfold ddS
      rw [if_pos (memK_iff.mpr old)]
      exact F
    · refine wpAny_pure ⟨plainId_quiet PyProof.Rows.F.plain_set_update_loop _, go _ _ (get_upd _ ho' rfl) ?_ fun b o hb z => ?_⟩
      · rw [dd]
        unfold ddS
        rw [if_neg fun z => new (memK_iff.mp z)]
        exact F.cons kv
      · exact (Heap.get?_update_ne _ _ _ _ hb).trans z
end
end DL

end 
/-! set(xs), the call: xs a list, a tuple. -/
noncomputable section
namespace DL
open PySem PySem.Spec PyProof.Rows L2 PySem.Froz
/-- the set as it is made -/
abbrev newS (w : World) : Obj := sObj "set" (#[], 0, .fresh 0 0 (!w.params.followText "set-order"))
section
variable {P : Program} {w : World} {A : Around} {E : Value → Shared → Prop} {s : Shared}
set_option maxHeartbeats 3200000 in
theorem set_of_list {l : Addr} {its : Array Value} {ks : List Key} {Q : Value → Shared → Prop} (calm : A.handled = none) (hl : s.heap.IsList l its) (hv : ∀ (i : Nat) (v : Value), its[i]? = some v → ∃ k, ks[i]? = some k ∧ keyIs k v = true) (len : ks.length = its.size) (room : its.size + 1 < scanBound)
    (fin : ∀ (h' : Heap) (tk : Nat) (D : SD), h'.get? s.heap.objs.size = some (sObj "set" D) → KsOk P w D (ddK ks) → (∀ b o, s.heap.get? b = some o → h'.get? b = some o) → Q (.ref s.heap.objs.size) { s with heap := h', toks := tk }) :
    wpAny (model P w) A (call (.type "set") [.ref l]) Q E s := by
  obtain ⟨_, _, mro⟩ := PySem.F.called_set.mro
  have c1 := PySem.F.called_set.made
  have c2 := PySem.F.called_set.sub
  apply wpAny_call
  apply codeAny_of_tree
  show wpAny _ _ (callAny (.type "set") _) _ _ _
  apply wpAny_pure
  refine ⟨Code.quiet_builtin _ (by decide +kernel), ?_⟩
  apply codeAny_builtin PySem.F.entry_type_call
  rw [Around.under_plain (weight_type_call_type "set" [.ref l] []) rfl]
  have c3 := PySem.F.called_set.notType
  have c4 := PySem.F.called_set.canCreate
  have c5 := PySem.F.typeCall_set_1 (.ref l)
  repeat any_goals first | assumption | wp_step
  have h0 : (s.heap.push (newS w)).get? s.heap.objs.size = some (newS w) := Heap.get?_push_size _ rfl
  refine codeAny_mono (code_set_led1 (.ref l) (E := E) (Q₁ := fun u s1 => u = .ref s.heap.objs.size ∧ s1 = { s with heap := s.heap.push (newS w) }) ⟨rfl, rfl⟩) fun r s1 got => ?_
  match r, got with
  | .error e, got => exact got
  | .ok .next, got => exact got.elim
  | .ok .brk, got => exact got.elim
  | .ok .cont, got => exact got.elim
  | .ok (.ret u), ⟨eu, es⟩ =>
    subst eu
    subst es
    have ty : Shared.TypeIs { s with heap := s.heap.push (newS w) } (.ref s.heap.objs.size) "set" := ⟨_, h0, rfl⟩
    have c6 := PySem.F.called_set.init.lookup
    have c7 := PySem.F.called_set.init.bind (.ref s.heap.objs.size)
    repeat any_goals first | assumption | wp_step
    refine codeAny_mono (codeAny_call_builtin (R := wants (fun r s2 => r = .none ∧ ∃ h' tk D, s2 = { s with heap := h', toks := tk } ∧ h'.get? s.heap.objs.size = some (sObj "set" D) ∧ KsOk P w D (ddK ks) ∧ ∀ b o, s.heap.get? b = some o → h'.get? b = some o) E)
      PySem.F.called_set.init.plain PySem.F.entry_set_init (check_set_init_1 ty ?_)) fun r2 s2 got2 => ?_
    · obtain ⟨⟨cls, dct, dat, slt⟩, ol, ec, nl, ed⟩ := hl
      simp only at ec ed
      subst ec
      subst ed
      have ol' : (s.heap.push (newS w)).get? l = some { cls := .type "list", dict := dct, data := .seq its nl, slots := slt } := Heap.get?_push_of_some _ ol
      have c8 := PySem.F.sub_list_set
      have c9 := PySem.F.sub_list_frozenset
      have c10 : (Value.type "list" == Value.type "dict") = false := by decide
      have hl' : (s.heap.push (newS w)).IsList l its := ⟨_, ol', rfl, nl, rfl⟩
      unfold Builtin.«set.__init__» noKeywords Builtin.Frozenset.updateFrom
      generalize ei : pyIter = IT
      wp_walk
      subst ei
      refine wpAny_pyIter_list hl' (wpAny_bind (wpAny_runValue ?_))
      have ls : l < s.heap.objs.size := Heap.lt_size ol
      have sz : (s.heap.push (newS w)).objs.size = s.heap.objs.size + 1 := Heap.size_push ..
      have calm3 : A.in1.in1.in1.handled = none := by simp [calm]
      have apart : l ≠ (s.heap.push (newS w)).objs.size := by
        rw [sz]
        exact Nat.ne_of_lt (Nat.lt_succ_of_lt ls)
      have off : s.heap.objs.size ∉ [(s.heap.push (newS w)).objs.size, l] := by
        rw [sz]
        simp only [List.mem_cons, List.not_mem_nil, or_false, not_or]
        exact ⟨Nat.ne_of_lt (Nat.lt_succ_self _), Nat.ne_of_gt ls⟩
      refine upd_keys ((Walks.list calm3 _ l apart its).toS) off (ks := ks) len room hv its.size 0 _ _ (by omega) ⟨⟨_, Heap.get?_push_size _ rfl, rfl, rfl⟩, hl'.push _⟩ (Heap.get?_push_of_some _ h0) (KsOk.start w) ?_
      intro s3 D3 mv o3 F3
      obtain ⟨h3, g3, d3, t3, os3⟩ := s3
      have e1 : g3 = s.gens := mv.gens
      have e2 : d3 = s.drawn := mv.drawn
      have e3 : os3 = s.os := mv.os
      subst e1 e2 e3
      show wpAny _ _ _ _ _ _
      apply wpAny_pure
      show wpAny _ _ (ret Value.none) _ _ _
      refine wpAny_pure ⟨rfl, h3, t3, D3, rfl, o3, F3, fun b o z => ?_⟩
      have lt : b < s.heap.objs.size := Heap.lt_size z
      refine mv.heap b o ?_ (Heap.get?_push_of_some _ (Heap.get?_push_of_some _ z))
      rw [sz]
      simp only [List.mem_cons, List.not_mem_nil, or_false, not_or]
      exact ⟨Nat.ne_of_lt lt, Nat.ne_of_lt (Nat.lt_succ_of_lt lt)⟩
    · match r2, got2 with
      | .error e, got2 => exact got2
      | .ok .next, got2 => exact got2.elim
      | .ok .brk, got2 => exact got2.elim
      | .ok .cont, got2 => exact got2.elim
      | .ok (.ret u), ⟨eu, h', tk, D, es, o', F', kp⟩ =>
        subst eu
        subst es
        repeat any_goals first | assumption | wp_step
        exact fin _ _ _ o' F' kp
end
end DL

end 
/-! set(xs), the call: xs a list, a tuple. -/
noncomputable section
namespace DL
open PySem PySem.Spec PyProof.Rows L2 PySem.Froz
section
namespace DL
open PySem PySem.Spec PyProof.Rows L2 PySem.Froz
/-- the set as it is made -/
abbrev newS (w : World) : Obj := sObj "set" (#[], 0, .fresh 0 0 (!w.params.followText "set-order"))
section
variable {P : Program} {w : World} {A : Around} {E : Value → Shared → Prop} {s : Shared}
set_option maxHeartbeats 3200000 in
theorem set_of_tuple {l : Addr} {its : Array Value} {ks : List Key} {Q : Value → Shared → Prop} (calm : A.handled = none) (hl : s.heap.IsTuple l its) (hv : ∀ (i : Nat) (v : Value), its[i]? = some v → ∃ k, ks[i]? = some k ∧ keyIs k v = true) (len : ks.length = its.size) (room : its.size + 1 < scanBound)
    (fin : ∀ (h' : Heap) (tk : Nat) (D : SD), h'.get? s.heap.objs.size = some (sObj "set" D) → KsOk P w D (ddK ks) → (∀ b o, s.heap.get? b = some o → h'.get? b = some o) → Q (.ref s.heap.objs.size) { s with heap := h', toks := tk }) :
    wpAny (model P w) A (call (.type "set") [.ref l]) Q E s := by
  obtain ⟨_, _, mro⟩ := PySem.F.called_set.mro
  have c1 := PySem.F.called_set.made
  have c2 := PySem.F.called_set.sub
  apply wpAny_call
  apply codeAny_of_tree
  show wpAny _ _ (callAny (.type "set") _) _ _ _
  apply wpAny_pure
  refine ⟨Code.quiet_builtin _ (by decide +kernel), ?_⟩
  apply codeAny_builtin PySem.F.entry_type_call
  rw [Around.under_plain (weight_type_call_type "set" [.ref l] []) rfl]
  have c3 := PySem.F.called_set.notType
  have c4 := PySem.F.called_set.canCreate
  have c5 := PySem.F.typeCall_set_1 (.ref l)
  repeat any_goals first | assumption | wp_step
  have h0 : (s.heap.push (newS w)).get? s.heap.objs.size = some (newS w) := Heap.get?_push_size _ rfl
  refine codeAny_mono (code_set_led1 (.ref l) (E := E) (Q₁ := fun u s1 => u = .ref s.heap.objs.size ∧ s1 = { s with heap := s.heap.push (newS w) }) ⟨rfl, rfl⟩) fun r s1 got => ?_
  match r, got with
  | .error e, got => exact got
  | .ok .next, got => exact got.elim
  | .ok .brk, got => exact got.elim
  | .ok .cont, got => exact got.elim
  | .ok (.ret u), ⟨eu, es⟩ =>
    subst eu
    subst es
    have ty : Shared.TypeIs { s with heap := s.heap.push (newS w) } (.ref s.heap.objs.size) "set" := ⟨_, h0, rfl⟩
    have c6 := PySem.F.called_set.init.lookup
    have c7 := PySem.F.called_set.init.bind (.ref s.heap.objs.size)
    repeat any_goals first | assumption | wp_step
    refine codeAny_mono (codeAny_call_builtin (R := wants (fun r s2 => r = .none ∧ ∃ h' tk D, s2 = { s with heap := h', toks := tk } ∧ h'.get? s.heap.objs.size = some (sObj "set" D) ∧ KsOk P w D (ddK ks) ∧ ∀ b o, s.heap.get? b = some o → h'.get? b = some o) E)
      PySem.F.called_set.init.plain PySem.F.entry_set_init (check_set_init_1 ty ?_)) fun r2 s2 got2 => ?_
    · obtain ⟨⟨cls, dct, dat, slt⟩, ol, ec, nl, ed⟩ := hl
      simp only at ec ed
      subst ec
      subst ed
      have ol' : (s.heap.push (newS w)).get? l = some { cls := .type "tuple", dict := dct, data := .seq its nl, slots := slt } := Heap.get?_push_of_some _ ol
      have c8 := PySem.F.sub_tuple_set
      have c9 := PySem.F.sub_tuple_frozenset
      have c10 : (Value.type "tuple" == Value.type "dict") = false := by decide
      have hl' : (s.heap.push (newS w)).IsTuple l its := ⟨_, ol', rfl, nl, rfl⟩
      unfold Builtin.«set.__init__» noKeywords Builtin.Frozenset.updateFrom
      generalize ei : pyIter = IT
      wp_walk
      subst ei
      refine wpAny_pyIter_tuple hl' (wpAny_bind (wpAny_runValue ?_))
      have ls : l < s.heap.objs.size := Heap.lt_size ol
      have sz : (s.heap.push (newS w)).objs.size = s.heap.objs.size + 1 := Heap.size_push ..
      have calm3 : A.in1.in1.in1.handled = none := by simp [calm]
      have apart : l ≠ (s.heap.push (newS w)).objs.size := by
        rw [sz]
        exact Nat.ne_of_lt (Nat.lt_succ_of_lt ls)
      have off : s.heap.objs.size ∉ [(s.heap.push (newS w)).objs.size, l] := by
        rw [sz]
        simp only [List.mem_cons, List.not_mem_nil, or_false, not_or]
        exact ⟨Nat.ne_of_lt (Nat.lt_succ_self _), Nat.ne_of_gt ls⟩
      refine upd_keys ((Walks.tuple calm3 _ l apart its).toS) off (ks := ks) len room hv its.size 0 _ _ (by omega) ⟨⟨_, Heap.get?_push_size _ rfl, rfl, rfl⟩, hl'.push _⟩ (Heap.get?_push_of_some _ h0) (KsOk.start w) ?_
      intro s3 D3 mv o3 F3
      obtain ⟨h3, g3, d3, t3, os3⟩ := s3
      have e1 : g3 = s.gens := mv.gens
      have e2 : d3 = s.drawn := mv.drawn
      have e3 : os3 = s.os := mv.os
      subst e1 e2 e3
      show wpAny _ _ _ _ _ _
      apply wpAny_pure
      show wpAny _ _ (ret Value.none) _ _ _
      refine wpAny_pure ⟨rfl, h3, t3, D3, rfl, o3, F3, fun b o z => ?_⟩
      have lt : b < s.heap.objs.size := Heap.lt_size z
      refine mv.heap b o ?_ (Heap.get?_push_of_some _ (Heap.get?_push_of_some _ z))
      rw [sz]
      simp only [List.mem_cons, List.not_mem_nil, or_false, not_or]
      exact ⟨Nat.ne_of_lt lt, Nat.ne_of_lt (Nat.lt_succ_of_lt lt)⟩
    · match r2, got2 with
      | .error e, got2 => exact got2
      | .ok .next, got2 => exact got2.elim
      | .ok .brk, got2 => exact got2.elim
      | .ok .cont, got2 => exact got2.elim
      | .ok (.ret u), ⟨eu, h', tk, D, es, o', F', kp⟩ =>
        subst eu
        subst es
        repeat any_goals first | assumption | wp_step
        exact fin _ _ _ o' F' kp
end
end DL

end 
end DL
end 
/-! sorted(set(xs)), len(set(xs)), xs a list of numbers or of texts. -/
noncomputable section
namespace DL
open PySem PySem.Spec PyProof.Rows L2 PySem.Froz
open PySem.W (EachIs AllAlike Sortable dataLe alike)
def keyD : D → Option Key
  | .int i => some (.inl i)
  | .str x => some (.inr x)
  | _ => none
def keysD : List D → Option (List Key)
  | [] => some []
  | d :: ds => match keyD d, keysD ds with
    | some k, some ks => some (k :: ks)
    | _, _ => none
/-- the members of a list, each once -/
def setD (ds : List D) : Option (List D) := match keysD ds with
  | some ks => some ((ddK ks).map kD)
  | none => none
theorem keyD_kD {d : D} {k : Key} (h : keyD d = some k) : d = kD k := by
  cases d <;> cases h <;> rfl
theorem keysD_map : ∀ {ds : List D} {ks : List Key}, keysD ds = some ks → ds = ks.map kD
  | [], _, h => by cases h; rfl
  | d :: ds, ks, h => by
    unfold keysD at h
    split at h
    · rename_i k ks' e1 e2
      cases h
      rw [keyD_kD e1, keysD_map e2]
      rfl
    · cases h
theorem kD_keysD : ∀ ks : List Key, keysD (ks.map kD) = some ks
  | [] => rfl
  | k :: ks => by
    have e : keyD (kD k) = some k := by cases k <;> rfl
    rw [List.map_cons, keysD, e, kD_keysD ks]
section
variable {X : Cx} {pins : List (Addr × Obj)} {σ : L2.St} {H : Hp} {s : Shared}
theorem keys_vals : ∀ {ks : List Key} {us : List Value}, Vals (ks.map kV) us → us.length = ks.length ∧ ∀ (i : Nat) (v : Value), us[i]? = some v → ∃ k, ks[i]? = some k ∧ keyIs k v = true
  | [], _, h => by cases h; exact ⟨rfl, fun i v e => by simp at e⟩
  | k :: ks, _, h => by
    cases h with
    | cons r t =>
      obtain ⟨h1, h2⟩ := keys_vals t
      refine ⟨by rw [List.length_cons, List.length_cons, h1], fun i v e => ?_⟩
      cases i with
      | zero =>
        simp at e
        subst e
        refine ⟨k, rfl, ?_⟩
        cases k with
        | inl i => obtain ⟨t, rfl⟩ := r; exact keyIs_int i t
        | inr x => obtain ⟨t, rfl⟩ := r; exact keyIs_str x t
      | succ i =>
        obtain ⟨k', e1, e2⟩ := h2 i v (by simpa using e)
        exact ⟨k', by simpa using e1, e2⟩
end
/-! ### the one sorted list of keys -/
abbrev srtK (ks : List Key) : List Key := ks.mergeSort (dataLe false kD)
theorem uniq_sorted {α : Type} {le : α → α → Bool} : ∀ {l m : List α}, (∀ a ∈ l, ∀ b ∈ l, le a b = true → le b a = true → a = b) → l.Pairwise (fun a b => le a b = true) → m.Pairwise (fun a b => le a b = true) → l.Perm m → l = m
  | [], m, _, _, _, p => (List.Perm.eq_nil p.symm).symm
  | a :: l, [], _, _, _, p => absurd p.length_eq (by simp)
  | a :: l, b :: m, an, s1, s2, p => by
    obtain ⟨x1, y1⟩ := List.pairwise_cons.mp s1
    obtain ⟨x2, y2⟩ := List.pairwise_cons.mp s2
    have e : a = b := by
      have ma : a ∈ b :: m := p.mem_iff.mp List.mem_cons_self
      have mb : b ∈ a :: l := p.mem_iff.mpr List.mem_cons_self
      rcases List.mem_cons.mp ma with e | ma
      · exact e
      · rcases List.mem_cons.mp mb with e | mb
        · exact e.symm
        · exact an a List.mem_cons_self b (List.mem_cons_of_mem _ mb) (x1 b mb) (x2 a ma)
    subst e
    rw [uniq_sorted (fun c hc d hd => an c (List.mem_cons_of_mem _ hc) d (List.mem_cons_of_mem _ hd)) y1 y2 p.cons_inv]
theorem le_anti : ∀ {a b : Key}, alike (kD a) (kD b) = true → dataLe false kD a b = true → dataLe false kD b a = true → a = b
  | .inl i, .inl j, _, h1, h2 => by
    rw [PySem.W.dataLe_eq] at h1 h2
    simp only [cond_false, kD, PySem.W.dataLt_int, Bool.not_eq_true', decide_eq_false_iff_not] at h1 h2
    rw [show i = j by omega]
  | .inr x, .inr y, _, h1, h2 => by
    rw [PySem.W.dataLe_eq] at h1 h2
    simp only [cond_false, kD, PySem.W.dataLt_str, Bool.not_eq_true', decide_eq_false_iff_not] at h1 h2
    have e : x.cps.toList = y.cps.toList := List.le_antisymm h1 h2
    rw [PySem.W.str_of_cps e]
  | .inl i, .inr y, h, _, _ => by cases h
  | .inr x, .inl j, h, _, _ => by cases h
theorem srtK_perm {ks js : List Key} (p : ks.Perm js) (al : AllAlike (ks.map kD)) : srtK ks = srtK js := by
  refine uniq_sorted (le := dataLe false kD) (fun a ha b hb => le_anti (al _ ?_ _ ?_)) (PySem.W.sort_pairwise (PySem.W.sortLe_total _ _ _) _) (PySem.W.sort_pairwise (PySem.W.sortLe_total _ _ _) _) ((List.mergeSort_perm _ _).trans (p.trans (List.mergeSort_perm _ _).symm))
  · exact List.mem_map.mpr ⟨a, (List.mergeSort_perm _ _).mem_iff.mp ha, rfl⟩
  · exact List.mem_map.mpr ⟨b, (List.mergeSort_perm _ _).mem_iff.mp hb, rfl⟩
theorem perm_fit {ks js : List Key} (p : ks.Perm js) (hc : canSort (ks.map kD) = true) : canSort (js.map kD) = true := by
  have m : ∀ d, d ∈ js.map kD ↔ d ∈ ks.map kD := fun d => (p.symm.map kD).mem_iff
  unfold canSort at hc ⊢
  simp only [Bool.and_eq_true, Bool.or_eq_true, List.all_eq_true, decide_eq_true_eq] at hc ⊢
  obtain ⟨⟨⟨h1, h2⟩, h3⟩, _⟩ := hc
  refine ⟨⟨⟨fun d hd e he => h1 d ((m d).mp hd) e ((m e).mp he), h2.imp (fun z d hd => z d ((m d).mp hd)) fun z d hd => z d ((m d).mp hd)⟩, fun d hd => h3 d ((m d).mp hd)⟩, ?_⟩
  clear m h1 h2 h3 p
  induction js with
  | nil => rfl
  | cons j js ih => cases j <;> exact ih
theorem keys_rel : ∀ {us : List Value} {ks : List Key}, EachIs (fun u k => keyIs k u = true) us ks → Vals (ks.map kV) us
  | _, _, .nil => .nil
  | _, _, .cons (b := k) r t => by
    refine .cons ?_ (keys_rel t)
    rcases keyIs_shape r with ⟨i, t, rfl, rfl⟩ | ⟨x, t, rfl, rfl⟩ <;> exact ⟨_, rfl⟩
theorem keys_each : ∀ {us : List Value}, (∀ u ∈ us, keyIs (kOf u) u = true) → EachIs (fun u k => keyIs k u = true) us (us.map kOf)
  | [], _ => .nil
  | u :: us, h => .cons (h u List.mem_cons_self) (keys_each fun v m => h v (List.mem_cons_of_mem _ m))
theorem keys_reads {h : Heap} {a : Addr} : ∀ {us : List Value}, (∀ u ∈ us, keyIs (kOf u) u = true) → EachIs (fun u k => ∃ as, Reads h u (kD k) as ∧ a ∉ as) us (us.map kOf)
  | [], _ => .nil
  | u :: us, q => by
    refine .cons ?_ (keys_reads fun v m => q v (List.mem_cons_of_mem _ m))
    have z := q u List.mem_cons_self
    rcases keyIs_shape z with ⟨i, t, e1, e2⟩ | ⟨x, t, e1, e2⟩
    · rw [e1, e2]; exact ⟨[], Reads.int i t, by simp⟩
    · rw [e1, e2]; exact ⟨[], Reads.str x t, by simp⟩
section
variable {P : Program} {w : World} {A : Around} {E : Value → Shared → Prop} {s : Shared}
theorem sorted_keys {a : Addr} {D : SD} {ks : List Key} {Q : Value → Shared → Prop} (calm : A.handled = none) (ho : s.heap.get? a = some (sObj "set" D)) (F : KsOk P w D ks) (few : ks.length ≤ 1000) (hc : canSort (ks.map kD) = true) (hu : A.units + 64 < cLine)
    (fin : ∀ s' p n (out : List Value), (∀ b o, s.heap.get? b = some o → s'.heap.get? b = some o) → s'.gens = s.gens → s'.os = s.os → s.heap.objs.size ≤ p → s'.heap.get? p = some (seqObj "list" out.toArray n) → Vals ((srtK ks).map kV) out → Q (.ref p) s') :
    wpAny (model P w) A (call (.builtin "sorted") [.ref a]) Q E s := by
  have sz := F.size
  obtain ⟨es, ep, t⟩ := D
  have sz : es.size = ks.length := sz
  obtain ⟨f1, f2, f3, f4, f5⟩ := F
  apply Calls.call_function_entry kind_sorted plain_sorted entry_sorted (args_sorted1 _)
  unfold Builtin.«sorted»
  apply wpAny_bind (m := checkCount "sorted" 1 1 _)
  apply wpAny_pure
  apply wpAny_bind
  refine collect_set (A := A.in1) calm ⟨_, ho, rfl, rfl⟩ f3 (by unfold scanBound; omega) f4 f5 fun s1 vs kp hz g1 o1 pm => ?_
  have good : ∀ u ∈ vs, keyIs (kOf u) u = true := fun u hu => by
    obtain ⟨e, he, q⟩ := List.mem_map.mp (pm.mem_iff.mp hu)
    obtain ⟨⟨k, q2, _⟩, _⟩ := f1 e he
    rw [← q]
    have q2 : keyIs k e.2 = true := q2
    rw [kOf_is q2]
    exact q2
  have pk : (vs.map kOf).Perm ks := by
    have q := pm.map kOf
    rw [List.map_map] at q
    exact q.trans f2
  have lv : vs.length ≤ sizeLine := by
    have := pk.length_eq
    rw [List.length_map] at this
    rw [sizeLine_eq]
    omega
  apply wpAny_bind
  refine wpAny_newList ?_ lv
  have ol : (s1.heap.push (seqObj "list" vs.toArray 0)).get? s1.heap.objs.size = some (seqObj "list" vs.toArray 0) := Heap.get?_push_size _ rfl
  have c2 := perm_fit pk.symm hc
  obtain ⟨k1, k2, k3, _⟩ := canSort_ok c2
  apply wpAny_bind
  apply wpAny_holding
  refine PySem.W.list_sort_data (enc := kD) (R := fun u k => keyIs k u = true) (s := { s1 with heap := s1.heap.push (seqObj "list" vs.toArray 0) }) ol (keys_each good) (keys_reads good) k1 k2 (by rw [List.length_map]; exact lv) (fun k hk => ?_) fun out lo eo => ?_
  · have := k3 (kD k) (List.mem_map.mpr ⟨k, hk, rfl⟩)
    show A.in1.units + 1 + (kD k).depth < cLine
    have e : A.in1.units ≤ A.units + 1 := by
      first | exact Nat.le_refl _ | simp [Around.in1] | omega
    omega
  · obtain ⟨n, top⟩ := sortedHeap_at (vs := vs) (out := out.toArray) ol
    apply wpAny_pure
    refine ⟨_, rfl, fin _ s1.heap.objs.size n out (fun b u e => ?_) g1 o1 hz top ?_⟩
    · have lt := Heap.lt_size (kp b u e)
      show (sortedHeap (s1.heap.push (seqObj "list" vs.toArray 0)) s1.heap.objs.size vs out.toArray).get? b = some u
      rw [sortedHeap_old (Nat.ne_of_lt lt) (by rw [Heap.size_push]; exact Nat.lt_succ_of_lt lt)]
      exact Heap.get?_push_of_some _ (kp b u e)
    · rw [← srtK_perm pk k1]
      exact keys_rel eo
end
end DL

end 
/-! sorted(set(xs)), len(set(xs)) as expressions. -/
namespace DL
open PySem PySem.Spec PyProof.Rows L2 PySem.Froz
def tSortSet (K : PySem.W.Frag) (ta : TE) : TE := fun σ H Q => ta σ H fun x H1 => ∃ (l : Addr) (ks : List Key), x = .ref l ∧ SqL K H1 l (ks.map kV) ∧ ks.length ≤ 1000 ∧ canSort ((ddK ks).map kD) = true ∧
  ∀ p : Addr, H1 p = none → Q (.ref p) (upd H1 p (.lst ((srtK (ddK ks)).map kV)))
def tLenSet (K : PySem.W.Frag) (ta : TE) : TE := fun σ H Q => ta σ H fun x H1 => ∃ (l : Addr) (ks : List Key), x = .ref l ∧ SqL K H1 l (ks.map kV) ∧ ks.length ≤ 1000 ∧ Q (.int (ddK ks).length) H1
section
variable {X : Cx} {a : Expr} {ta : TE} {p p2 q pos : Pos}
theorem kids {ks : List Key} {its : List Value} (r : Vals (ks.map kV) its) : ks.length = its.toArray.size ∧ ∀ (i : Nat) (v : Value), its.toArray[i]? = some v → ∃ k, ks[i]? = some k ∧ keyIs k v = true := by
  obtain ⟨h1, h2⟩ := keys_vals r
  refine ⟨by rw [List.size_toArray, h1], fun i v e => h2 i v ?_⟩
  rw [List.getElem?_toArray] at e
  exact e
theorem pe_sortSet (hg : Gl X "sorted") (hm : X.mg "sorted" = none) (hg2 : Gl X "set") (hm2 : X.mg "set" = none) (hu : X.A.units + 64 < cLine) (ha : PE X a ta) (hc : X.calm = true := by rfl) (na : starEach [a] X.env = (false, eval a X.env) :: starEach [] X.env := by rfl) :
    PE X (.Call (.Name "sorted" p) [.Call (.Name "set" p2) [a] [] q] [] pos) (tSortSet X.K ta) := by
  constructor
  intro pins s σ H Q I h
  have b1 : bootBuiltins "sorted" = some (.builtin "sorted") := by decide +kernel
  apply Call_ (ld_blt I hg hm b1 _)
  apply PyProof.Rows.callWith_builtin1 (PyProof.Rows.args_cons _ rfl) rfl rfl
  apply Call_ (ld_blt I hg2 hm2 boot_set _)
  refine PyProof.Rows.callWith_type1 (PyProof.Rows.args_cons (thn (ha.run pins s σ H _ I h) fun v s1 ⟨x, H1, I1, r1, q1⟩ => PyProof.Rows.args_nil ?_) na) na rfl
  obtain ⟨l, ks, rfl, hq, few, cs, fin⟩ := q1
  cases r1
  obtain ⟨its, r, pl, _⟩ := I1.list hq
  obtain ⟨z1, z2⟩ := kids r
  have hd := I1.ok.hd hc
  refine set_of_list hd pl.isList z2 z1 (by unfold scanBound; omega) fun h' tk D o F kp => ?_
  apply PyProof.Rows.args_nil
  have d3 := (ddK_facts ks).2.2
  refine sorted_keys (s := { s1 with heap := h', toks := tk }) hd o F (by omega) cs hu fun s2 p0 n out kp2 g2 o2 hp top rel => ?_
  have ka : ∀ b u, s1.heap.get? b = some u → s2.heap.get? b = some u := fun b u e => kp2 b u (kp b u e)
  have hp2 : s1.heap.objs.size ≤ p0 := Nat.le_trans (Nat.le_of_lt (Heap.lt_size o)) hp
  have fr : H1 p0 = none := I1.hok.fresh hp2
  have sz : ((srtK (ddK ks)).map kV).length ≤ sizeLine := by
    rw [List.length_map, (List.mergeSort_perm _ _).length_eq, sizeLine_eq]
    omega
  exact ⟨.ref p0, upd H1 p0 (.lst ((srtK (ddK ks)).map kV)), I1.call' (ch := []) o2 (Un.laid ka hp2 fr) (I1.hok.laid ka hp2 ⟨sz, out, n, rel, top⟩) (by rw [g2]; exact I1.bare) (fun _ z => nomatch z), rfl, fin p0 fr⟩
theorem pe_lenSet (hg : Gl X "len") (hm : X.mg "len" = none) (hg2 : Gl X "set") (hm2 : X.mg "set" = none) (ha : PE X a ta) (hc : X.calm = true := by rfl) (na : starEach [a] X.env = (false, eval a X.env) :: starEach [] X.env := by rfl) :
    PE X (.Call (.Name "len" p) [.Call (.Name "set" p2) [a] [] q] [] pos) (tLenSet X.K ta) := by
  constructor
  intro pins s σ H Q I h
  apply Call_ (ld_blt I hg hm boot_len _)
  apply PyProof.Rows.callWith_builtin1 (PyProof.Rows.args_cons _ rfl) rfl rfl
  apply Call_ (ld_blt I hg2 hm2 boot_set _)
  refine PyProof.Rows.callWith_type1 (PyProof.Rows.args_cons (thn (ha.run pins s σ H _ I h) fun v s1 ⟨x, H1, I1, r1, q1⟩ => PyProof.Rows.args_nil ?_) na) na rfl
  obtain ⟨l, ks, rfl, hq, few, fin⟩ := q1
  cases r1
  obtain ⟨its, r, pl, _⟩ := I1.list hq
  obtain ⟨z1, z2⟩ := kids r
  refine set_of_list (I1.ok.hd hc) pl.isList z2 z1 (by unfold scanBound; omega) fun h' tk D o F kp => ?_
  apply PyProof.Rows.args_nil
  have d3 := (ddK_facts ks).2.2
  have sz := F.size
  have I2 : Inv X pins σ H1 { s1 with heap := h', toks := tk } := I1.kept kp
  refine call_len_set o ⟨rfl, rfl, rfl⟩ rfl F.fit (by rw [sz]; omega) ?_
  exact ⟨.int (ddK ks).length, H1, I2.tok _, ⟨_, by rw [sz]⟩, fin⟩
end
/-- sorted(set(x)), len(set(x)) -/
def dSortSet : Op1 := fun x μ => match items x μ with
  | some bs => match allD bs with
    | some ds => match keysD ds with
      | some ks => if decide (ks.length ≤ 1000) && canSort ((ddK ks).map kD) then .ok (.d (.list ((srtK (ddK ks)).map kD))) μ else .bad
      | none => .bad
    | none => .bad
  | none => .bad
def dLenSet : Op1 := fun x μ => match items x μ with
  | some bs => match allD bs with
    | some ds => match keysD ds with
      | some ks => if ks.length ≤ 1000 then .ok (.d (.int (ddK ks).length)) μ else .bad
      | none => .bad
    | none => .bad
  | none => .bad
theorem RpA_keys {K : PySem.W.Frag} {I : Hp} : ∀ {ks : List Key} {vs : List V}, RpA K I vs (ks.map kD) → vs = ks.map kV
  | [], _, h => by cases h; rfl
  | k :: ks, _, h => by
    cases h with
    | cons r t =>
      rw [RpA_keys t]
      cases k <;> (cases r; rfl)
theorem keys_RpA {K : PySem.W.Frag} {I : Hp} : ∀ ks : List Key, RpA K I (ks.map kV) (ks.map kD)
  | [] => .nil
  | .inl i :: ks => .cons (.int i) (keys_RpA ks)
  | .inr x :: ks => .cons (.str x) (keys_RpA ks)
section
variable {X : Cx} {G : GT} {W : WX} {a : Expr} {m : ME} {p p2 q pos : Pos}
theorem items_keys {w : Wd} {v : V} {μ : Store} {H : Hp} {b : Dv} {bs : List Dv} {ds : List D} {ks : List Key} (l : Lay G w μ H) (r : Rv G w v b) (e1 : items b μ = some bs) (e2 : allD bs = some ds) (e3 : keysD ds = some ks) : ∃ c, v = .ref c ∧ SqL G.K H c (ks.map kV) := by
  obtain ⟨c, vs, rfl, h1, h2⟩ := items_ok l r e1
  rw [allD_eq e2, keysD_map e3] at h2
  rw [RpA_keys (RpA_of_Rvs h2)] at h1
  exact ⟨c, rfl, h1⟩
theorem de_sortSet (hK : X.K = G.K) (hg : Gl X "sorted") (hm : X.mg "sorted" = none) (hg2 : Gl X "set") (hm2 : X.mg "set" = none) (hu : X.A.units + 64 < cLine) (ha : DE X G W a m) (hc : X.calm = true := by rfl) (na : starEach [a] X.env = (false, eval a X.env) :: starEach [] X.env := by rfl) :
    DE X G W (.Call (.Name "sorted" p) [.Call (.Name "set" p2) [a] [] q] [] pos) (e1 dSortSet m) := by
  refine PE.imp (pe_sortSet hg hm hg2 hm2 hu ha hc na) ?_
  rintro σ H Q ⟨w, μ, ρ, hl, he, pp⟩
  refine tD.seq (k := fun ρ x μ => dSortSet x μ) hl he pp fun w1 μ1 H1 v b l1 lay1 en1 r1 p1 => ?_
  unfold dSortSet at p1
  split at p1
  · rename_i bs e1
    split at p1
    · rename_i ds e2
      split at p1
      · rename_i ks e3
        split at p1
        · rename_i c
          rw [Bool.and_eq_true, decide_eq_true_eq] at c
          obtain ⟨n, rfl, h1⟩ := items_keys lay1 r1 e1 e2 e3
          have sz : ((srtK (ddK ks)).map kD).length ≤ sizeLine := by
            have := (ddK_facts ks).2.2
            rw [List.length_map, (List.mergeSort_perm _ _).length_eq, sizeLine_eq]
            omega
          refine ⟨n, ks, rfl, by rw [hK]; exact h1, c.1, c.2, ?_⟩
          refine (list_new (bs := ((srtK (ddK ks)).map kD).map .d) (W := W) (σ := σ) lay1 (Rvs_of_RpA (keys_RpA _)) ?_).2
          unfold dList
          rw [allD_map]
          show Pst G W σ (Rv G) w1 (if ((srtK (ddK ks)).map kD).length ≤ sizeLine then _ else _) Q
          rw [if_pos sz]
          exact p1
        · exact p1.elim
      · exact p1.elim
    · exact p1.elim
  · exact p1.elim
theorem de_lenSet (hK : X.K = G.K) (hg : Gl X "len") (hm : X.mg "len" = none) (hg2 : Gl X "set") (hm2 : X.mg "set" = none) (ha : DE X G W a m) (hc : X.calm = true := by rfl) (na : starEach [a] X.env = (false, eval a X.env) :: starEach [] X.env := by rfl) :
    DE X G W (.Call (.Name "len" p) [.Call (.Name "set" p2) [a] [] q] [] pos) (e1 dLenSet m) := by
  refine PE.imp (pe_lenSet hg hm hg2 hm2 ha hc na) ?_
  rintro σ H Q ⟨w, μ, ρ, hl, he, pp⟩
  refine tD.seq (k := fun ρ x μ => dLenSet x μ) hl he pp fun w1 μ1 H1 v b l1 lay1 en1 r1 p1 => ?_
  unfold dLenSet at p1
  split at p1
  · rename_i bs e1
    split at p1
    · rename_i ds e2
      split at p1
      · rename_i ks e3
        split at p1
        · rename_i c
          obtain ⟨n, rfl, h1⟩ := items_keys lay1 r1 e1 e2 e3
          exact ⟨n, ks, rfl, by rw [hK]; exact h1, c, p1 w1 _ H1 w1.le_refl lay1 (.int _)⟩
        · exact p1.elim
      · exact p1.elim
    · exact p1.elim
  · exact p1.elim
end
end DL

/-! a, b = x, y with cells among the values, or names that a comprehension reads. -/
namespace DL
open PySem PySem.Spec PyProof.Rows L2
def sAsgT (n : Nat) (ma : MA) (gs : MGs) : MS := fun ρ μ => (ma ρ μ).bind fun bs μ => if bs.length = n ∧ bs.length ≤ 1000 then (gs bs ρ μ).gb fun ρ μ => .ok (.nx ρ) μ else .bad
section
variable {X : Cx} {G : GT} {W : WX} {es tgs : List Expr} {mas : MA} {gs : MGs} {S : List Nat} {k k2 n : Nat} {pos tpos epos : Pos}
theorem asgT_imp (hK : X.K = G.K) : ∀ D σ H, tS G W (sAsgT n mas gs) D σ H → tAsg (tTup (tA G W mas)) (gTup X.K n (tGs G S gs)) D σ H := by
  rintro D σ H ⟨w, μ, ρ, hl, he, p⟩
  refine tD.seqS (k := fun ρ (bs : List Dv) μ => if bs.length = n ∧ bs.length ≤ 1000 then (gs bs ρ μ).gb fun ρ μ => .ok (.nx ρ) μ else .bad) hl he p fun w1 μ1 H1 vs bs l1 lay1 en1 r1 p1 => ?_
  split at p1
  · rename_i c
    have lv := Paired.length r1
    refine ⟨by rw [lv, sizeLine_eq]; omega, fun a na => ?_⟩
    obtain ⟨h1, h2, h3⟩ := lay1.na na
    have l2 := lay1.other h1 h2 h3 (.tup vs)
    refine ⟨a, vs, rfl, SqT.of upd_same, by rw [lv]; exact c.1, w1, μ1, ρ, bs, l2, en1, r1, ?_⟩
    cases q : gs bs ρ μ1 with
    | bad => rw [q] at p1; exact p1.elim
    | ex _ _ => rw [q] at p1; exact p1.elim
    | ok ρ2 μ2 =>
      rw [q] at p1
      exact fun w2 σ2 H2 l2 lay2 en2 _ => p1 w2 σ2 H2 l2 lay2 en2
  · exact p1.elim
theorem ds_asgT (hc : X.calm = true) (hK : X.K = G.K) (ha : DA X G W es mas) (hg : DGs X G S tgs gs) (hn : (assignEach tgs X.env).length = n := by rfl) (hst : (assignEach tgs X.env).findIdx? (·.1) = none := by rfl)
    (hs : swapsWithSole [.Tuple tgs k tpos] (.Tuple es k2 epos) pos.line X.env = pure false := by rfl) (hw : swappedStores [.Tuple tgs k tpos] (.Tuple es k2 epos) X.env = pure none := by rfl)
    (h1 : (assignEach [.Tuple tgs k tpos] X.env).map (·.2) = [assign (.Tuple tgs k tpos) X.env] := by rfl) : DS X G W (.Assign [.Tuple tgs k tpos] (.Tuple es k2 epos) pos) (sAsgT n mas gs) :=
  PS.imp (ps_asg (pe_tup ha) (pg_tup hc hg hn hst) hs hw h1) (asgT_imp hK)
end
end DL

/-! isinstance(x, T), T a built-in type. -/
namespace DL
open PySem PySem.Spec PyProof.Rows L2
/-- what type a value is of -/
def tyD : Dv → Store → Option String
  | .d .none, _ => some "NoneType"
  | .d (.bool _), _ => some "bool"
  | .d (.int _), _ => some "int"
  | .d (.str _), _ => some "str"
  | .d (.list _), _ => some "list"
  | .d (.tuple _), _ => some "tuple"
  | .d (.dict _), _ => some "dict"
  | .c n, μ => match μ[n]? with
    | some (.lst _) => some "list"
    | _ => none
  | _, _ => none
/-- kitB's answers for the types that stand here, as a table -/
def isiT (a T : String) : Bool := decide (a = T) || (decide (a = "bool") && decide (T = "int"))
def dIsi (T : String) : Op1 := fun x μ => match tyD x μ with
  | some a => .ok (.d (.bool (isiT a T))) μ
  | none => .bad
theorem kitB_all : (["NoneType", "bool", "int", "str", "list", "tuple", "dict"].all fun a => ["bool", "int", "str", "list", "tuple", "dict"].all fun b => kitB a b == some (isiT a b)) = true := by decide +kernel
theorem kitB_of {a b : String} (ha : a ∈ ["NoneType", "bool", "int", "str", "list", "tuple", "dict"]) (hb : b ∈ ["bool", "int", "str", "list", "tuple", "dict"]) : kitB a b = some (isiT a b) := by
  have := List.all_eq_true.mp (List.all_eq_true.mp kitB_all a ha) b hb
  exact eq_of_beq this
section
variable {X : Cx} {G : GT} {W : WX} {e : Expr} {m : ME} {p p2 pos : Pos} {T : String}
theorem tyx_list {K : PySem.W.Frag} {H : Hp} {a : Addr} {xs : List V} (h : SqL K H a xs) : TyX K H (.ref a) (.type "list") := by
  rcases h with (h | ⟨o, h⟩) | ⟨o, its, n, h1, h2, _⟩
  · exact .base (.lst h)
  · exact .base (.frz h)
  · exact .kList h1 h2
theorem tyx_tup {K : PySem.W.Frag} {H : Hp} {a : Addr} {xs : List V} (h : SqT K H a xs) : TyX K H (.ref a) (.type "tuple") := by
  rcases h with (h | ⟨o, h⟩) | ⟨o, its, n, h1, h2, _⟩
  · exact .base (.tup h)
  · exact .fTuple h
  · exact .kTuple h1 h2
theorem tyD_ok {w : Wd} {v : V} {μ : Store} {H : Hp} {b : Dv} {a : String} (l : Lay G w μ H) (r : Rv G w v b) (h : tyD b μ = some a) : TyX G.K H v (.type a) ∧ a ∈ ["NoneType", "bool", "int", "str", "list", "tuple", "dict"] := by
  cases b with
  | d x =>
    have r : Rp G.K H v x := Rp.inH l r
    cases r with
    | non => cases h; exact ⟨.base .non, by simp⟩
    | bl b => cases h; exact ⟨.base (.bl b), by simp⟩
    | int i => cases h; exact ⟨.base (.int i), by simp⟩
    | str x => cases h; exact ⟨.base (.str x), by simp⟩
    | lst hs ha => cases h; exact ⟨tyx_list hs, by simp⟩
    | tup hs ha => cases h; exact ⟨tyx_tup hs.t, by simp⟩
    | dic hs ha => cases h; exact ⟨.base (.dK hs), by simp⟩
  | c n =>
    unfold tyD at h
    simp only at h
    split at h
    · rename_i xs e
      cases h
      obtain ⟨a, ha, rfl⟩ := r
      obtain ⟨_, vs, e2, _⟩ := l.at_ n _ a e ha
      exact ⟨.base (.lst e2), by simp⟩
    · cases h
  | f n => cases h
theorem de_isi (hK : X.K = G.K) (hT : T ∈ ["bool", "int", "str", "list", "tuple", "dict"]) (hg : Gl X "isinstance") (hm : X.mg "isinstance" = none) (hg2 : Gl X (Str.ofString T)) (hm2 : X.mg (Str.ofString T) = none) (hv : bootBuiltins (Str.ofString T) = some (.type T)) (ha : DE X G W e m)
    (hn : Str.ofString T ≠ "__name__" := by decide) (hd : (Str.ofString T == ("__debug__" : Str)) = false := by decide) (h1 : starEach [e, .Name (Str.ofString T) p2] X.env = (false, eval e X.env) :: starEach [.Name (Str.ofString T) p2] X.env := by rfl)
    (h2 : starEach [.Name (Str.ofString T) p2] X.env = (false, eval (.Name (Str.ofString T) p2) X.env) :: starEach [] X.env := by rfl) (hpl : (backTo pos (starEach [.Name (Str.ofString T) p2] X.env)).any (·.1) = false := by rfl) :
    DE X G W (.Call (.Name "isinstance" p) [e, .Name (Str.ofString T) p2] [] pos) (e1 (dIsi T) m) := by
  have b1 : bootBuiltins "isinstance" = some (.builtin "isinstance") := by decide +kernel
  refine PE.imp (pe_callB call_isi hg hm b1 (pa_cons ha (pa_cons (pe_bltn hg2 hm2 hv (v := .ty T) rfl hn hd) pa_nil h2) h1) (by decide) (by decide) h1 hpl) ?_
  rintro σ H Q ⟨w, μ, ρ, hl, he, pp⟩
  refine tD.seq (k := fun ρ x μ => dIsi T x μ) hl he pp fun w1 μ1 H1 v b l1 lay1 en1 r1 p1 => ?_
  unfold dIsi at p1
  split at p1
  · rename_i a ea
    obtain ⟨t1, t2⟩ := tyD_ok lay1 r1 ea
    refine ⟨v, .ty T, .type a, .type T, isiT a T, rfl, .ty T, by rw [hK]; exact t1, kit_ty (kitB_of t2 hT), p1 w1 _ H1 w1.le_refl lay1 (.bl _)⟩
  · exact p1.elim
end
end DL

/-! {} as data, repr of data in which dicts are empty. -/
namespace DL
open PySem PySem.Spec PyProof.Rows L2
/-! ### {} -/
def eDic0 : ME := fun _ μ => .ok (.d (.dict [])) μ
theorem de_dic0 {X : Cx} {G : GT} {W : WX} {pos : Pos} : DE X G W (.Dict [] [] pos) eDic0 := by
  refine PE.imp pe_dnewK ?_
  rintro σ H Q ⟨w, μ, ρ, hl, he, p⟩
  intro a na
  obtain ⟨le, lay⟩ := hl.new na (.dK [])
  exact p _ (.ref a) _ le lay (.dic (kvs := []) upd_same .nil)
/-! ### repr -/
mutual
def dic0 : D → Bool
  | .list ds => dic0s ds
  | .tuple ds => dic0s ds
  | .dict ps => ps.isEmpty
  | _ => true
def dic0s : List D → Bool
  | [] => true
  | d :: ds => dic0 d && dic0s ds
end
section
variable {X : Cx} {pins : List (Addr × Obj)} {σ : L2.St} {H : Hp} {s : Shared}
mutual
theorem reprE (I : Inv X pins σ H s) : ∀ (d : D) (v : V) (u : Value), Rp X.K H v d → dic0 d = true → RelV v u → d.showable = true → d.shown.length ≤ sizeLine →
    ∃ as bs, Reads s.heap u d as ∧ ReadAtMost s.heap d.depth bs ∧ ReprK X.prog X.w bs s.heap d.depth u d.shown
  | .none, _, _, h, _, r, _, _ => by
    cases h
    cases r
    exact ⟨_, [], .none, (fun _ h => nomatch h), by simp only [PyData.shown]; exact .of_is ReprIs.none _ _ _⟩
  | .bool b, _, _, h, _, r, _, _ => by
    cases h
    cases r
    exact ⟨_, [], .bool b, (fun _ h => nomatch h), by simp only [PyData.shown]; exact .of_is (ReprIs.bool b) _ _ _⟩
  | .int i, _, _, h, _, r, hs, _ => by
    cases h
    obtain ⟨t, rfl⟩ := r
    exact ⟨_, [], .int i t, (fun _ h => nomatch h), by simp only [PyData.shown]; exact .of_is (ReprIs.int t (by simpa [PyData.showable] using hs)) _ _ _⟩
  | .str x, _, _, h, _, r, _, hz => by
    cases h
    obtain ⟨t, rfl⟩ := r
    exact ⟨_, [], .str x t, (fun _ h => nomatch h), by simp only [PyData.shown]; exact .of_is (ReprIs.str x t (by simpa only [PyData.shown] using hz)) _ _ _⟩
  | .list ds, _, _, h, e, r, hs, hz => by
    cases h with
    | @lst a _ _ hs' ha =>
      cases r
      obtain ⟨its, rv, ⟨o, n, ho, hc, _, hd⟩, _⟩ := I.list hs'
      have hz' : (listText (PyData.shownAll ds)).length ≤ sizeLine := by simpa only [PyData.shown] using hz
      obtain ⟨as, bs, hr, hb, hk⟩ := reprEs I ds _ its ha (by simpa only [dic0] using e) rv (by simpa [PyData.showable] using hs) (fun t ht => Nat.le_trans (listText_mem_le ht) hz')
      have r : Reads s.heap (.ref a) (.list ds) _ := .list ho hc hd hr
      have hna : a ∉ bs := not_mem_of_deeper r (by simp only [PyData.depth]; omega) hb
      refine ⟨_, a :: bs, r, ReadAtMost.cons r (by simp only [PyData.depth]; omega) hb, ?_⟩
      simp only [PyData.depth, PyData.shown]
      cases its with
      | nil =>
        cases hr
        simp only [PyData.shownAll, listText_nil]
        exact ReprK.listEmpty ho hc hd
      | cons x l => exact ReprK.list ho hc hd hna (by simpa using hk.length_eq) (fun i y e => hk.item i y (by simpa using e))
  | .tuple ds, _, _, h, e, r, hs, hz => by
    cases h with
    | @tup a _ _ hs' ha =>
      cases r
      obtain ⟨its, rv, ⟨o, ho, hc, n, hd⟩, _⟩ := I.tuple hs'.t
      have hz' : (tupleText (PyData.shownAll ds)).length ≤ sizeLine := by simpa only [PyData.shown] using hz
      obtain ⟨as, bs, hr, hb, hk⟩ := reprEs I ds _ its ha (by simpa only [dic0] using e) rv (by simpa [PyData.showable] using hs) (fun t ht => Nat.le_trans (tupleText_mem_le ht) hz')
      have r : Reads s.heap (.ref a) (.tuple ds) _ := .tuple ho hc hd hr
      have hna : a ∉ bs := not_mem_of_deeper r (by simp only [PyData.depth]; omega) hb
      refine ⟨_, a :: bs, r, ReadAtMost.cons r (by simp only [PyData.depth]; omega) hb, ?_⟩
      simp only [PyData.depth, PyData.shown]
      exact ReprK.tuple ho hc hd hna hk
  | .dict ps, _, _, h, e, r, hs, hz => by
    cases ps with
    | cons _ _ => simp [dic0] at e
    | nil =>
      cases h with
      | @dic a kvs _ hd ha =>
        cases ha
        cases r
        obtain ⟨_, hsys, vs, kv, o, es, ep, ho, hx, hdt, _, pr, _⟩ := dk_of I.hok hd
        cases kv
        obtain ⟨es⟩ := es
        cases pr
        have r : Reads s.heap (.ref a) (.dict []) _ := .dict ho hx.1 hdt .nil .nil
        refine ⟨_, [a], r, ReadAtMost.cons (n := 0) r (by simp) (fun _ h => nomatch h), ?_⟩
        have := ReprK.dict (prog := X.prog) (w := X.w) (as := []) (d := 0) ho hx.1 hdt hsys (by simp) .nil
        exact this
theorem reprEs (I : Inv X pins σ H s) : ∀ (ds : List D) (vs : List V) (us : List Value), RpA X.K H vs ds → dic0s ds = true → Vals vs us → PyData.showableAll ds = true → (∀ t ∈ PyData.shownAll ds, t.length ≤ sizeLine) →
    ∃ as bs, ReadsAll s.heap us ds as ∧ ReadAtMost s.heap (PyData.depthAll ds) bs ∧ ReprAllK X.prog X.w bs s.heap (PyData.depthAll ds) us (PyData.shownAll ds)
  | [], _, _, h, _, r, _, _ => by
    cases h
    cases r
    exact ⟨_, [], .nil, (fun _ h => nomatch h), by simp only [PyData.shownAll]; exact .nil⟩
  | d :: ds, _, _, h, e, r, hs, hz => by
    cases h with
    | cons h1 h2 =>
      cases r with
      | cons r1 r2 =>
        simp only [dic0s, Bool.and_eq_true] at e
        have hs' : d.showable = true ∧ PyData.showableAll ds = true := by simpa [PyData.showableAll] using hs
        obtain ⟨a1, b1, q1, hb1, k1⟩ := reprE I d _ _ h1 e.1 r1 hs'.1 (hz _ (by simp only [PyData.shownAll]; exact List.mem_cons_self ..))
        obtain ⟨a2, b2, q2, hb2, k2⟩ := reprEs I ds _ _ h2 e.2 r2 hs'.2 (fun t ht => hz t (by simp only [PyData.shownAll]; exact List.mem_cons_of_mem _ ht))
        refine ⟨_, b1 ++ b2, .cons q1 q2, ?_, ?_⟩
        · simp only [PyData.depthAll]
          exact (hb1.mono (Nat.le_max_left _ _)).append (hb2.mono (Nat.le_max_right _ _))
        · simp only [PyData.depthAll, PyData.shownAll]
          exact .cons ((k1.more fun b hb => List.mem_append_left _ hb).level_le (Nat.le_max_left _ _)) (k2.more_le (fun b hb => List.mem_append_right _ hb) (Nat.le_max_right _ _))
end
theorem showsE (I : Inv X pins σ H s) {a : Addr} {d : D} (h : Rp X.K H (.ref a) d) (e : dic0 d = true) (hs : d.showable = true) (hz : d.shown.length ≤ sizeLine) : ∃ T idr, ShowsBy X.prog X.w s.heap a d T idr := by
  cases h with
  | @lst _ xs ds hs' ha =>
    obtain ⟨its, rv, ⟨o, n, ho, hc, _, hd⟩, _⟩ := I.list hs'
    have hz' : (listText (PyData.shownAll ds)).length ≤ sizeLine := by simpa only [PyData.shown] using hz
    obtain ⟨as, bs, hr, hb, hk⟩ := reprEs I ds _ its ha (by simpa only [dic0] using e) rv (by simpa [PyData.showable] using hs) (fun t ht => Nat.le_trans (listText_mem_le ht) hz')
    have hna : a ∉ bs := not_mem_of_deeper (.list ho hc hd hr) (by simp only [PyData.depth]; omega) hb
    refine ⟨"list", "list.__repr__", F.slot_list_repr.toG, F.slot_list_str, F.slot_list_format, fun s hk0 => ⟨o, hk0 _ _ ho, hc⟩, fun A E s Q hg hu hk0 hQ => ?_⟩
    simp only [PyData.depth] at hu
    simp only [PyData.shown] at hQ
    cases its with
    | nil =>
      cases hr
      simp only [PyData.shownAll, listText_nil] at hQ
      exact call_list_repr_empty ⟨o, hk0 _ _ ho, hc⟩ (hk0 _ _ ho) hd (hQ s.heap _ _ fun _ _ e => e)
    | cons x l => exact call_list_reprK ho hc hd hna (by simpa using hk.length_eq) (fun i y e => hk.item i y (by simpa using e)) hg (fun b _ => Clear.nil b) hu hk0 hQ hz'
  | @tup _ xs ds hs' ha =>
    obtain ⟨its, rv, ⟨o, ho, hc, n, hd⟩, _⟩ := I.tuple hs'.t
    have hz' : (tupleText (PyData.shownAll ds)).length ≤ sizeLine := by simpa only [PyData.shown] using hz
    obtain ⟨as, bs, hr, hb, hk⟩ := reprEs I ds _ its ha (by simpa only [dic0] using e) rv (by simpa [PyData.showable] using hs) (fun t ht => Nat.le_trans (tupleText_mem_le ht) hz')
    have hna : a ∉ bs := not_mem_of_deeper (.tuple ho hc hd hr) (by simp only [PyData.depth]; omega) hb
    refine ⟨"tuple", "tuple.__repr__", F.slot_tuple_repr, F.slot_tuple_str, F.slot_tuple_format, fun s hk0 => ⟨o, hk0 _ _ ho, hc⟩, fun A E s Q hg hu hk0 hQ => ?_⟩
    simp only [PyData.depth] at hu
    simp only [PyData.shown] at hQ
    exact call_tuple_reprK ho hc hd hna hk hg (fun b _ => Clear.nil b) hu hk0 hQ hz'
  | @dic _ kvs ps hd ha =>
    cases ps with
    | cons _ _ => simp [dic0] at e
    | nil =>
      cases ha
      obtain ⟨_, hsys, vs, kv, o, es, ep, ho, hx, hdt, _, pr, _⟩ := dk_of I.hok hd
      cases kv
      obtain ⟨es⟩ := es
      cases pr
      refine ⟨"dict", "dict.__repr__", F.slot_dict_repr, F.slot_dict_str, F.slot_dict_format, fun s hk0 => ⟨o, hk0 _ _ ho, hx.1⟩, fun A E s Q hg hu hk0 hQ => ?_⟩
      simp only [PyData.depth] at hu
      exact call_dict_reprK (as := []) (d := 0) ho hx.1 hdt hsys (by simp) .nil hg (fun b _ => Clear.nil b) (by simpa [PyData.depthKv] using hu) hk0 hQ (by simpa only [PyData.shown, PyData.shownKv] using hz)
end
def rReprE (K : PySem.W.Frag) : List V → Hp → VK → Prop := fun xs H Q => ∃ x d, xs = [x] ∧ Rp K H x d ∧ d.showable = true ∧ dic0 d = true ∧ d.depth ≤ 40 ∧ d.shown.length ≤ sizeLine ∧ Q (.str d.shown) H
theorem call_reprE {X : Cx} (g : X.A.guards = some []) (hu : X.A.units + 64 < cLine) : CallR X (.builtin "repr") (rReprE X.K) := by
  intro pins s σ H xs us Q I r h
  obtain ⟨x, d, rfl, dp, sh, nd, dep, sz, q⟩ := h
  obtain ⟨u, rfl, r1⟩ := vals1 r
  have fin : ∀ h' u tk, (∀ b o, s.heap.get? b = some o → h'.get? b = some o) → EP X pins σ Q (.str d.shown u) { s with heap := h', toks := tk } := fun h' u tk hk => ⟨.str d.shown, H, I.kept hk, ⟨u, rfl⟩, q⟩
  have go : ∀ a, x = .ref a → wpAny (model X.prog X.w) X.A (call (.builtin "repr") [u]) (EP X pins σ Q) X.xe s := fun a ea => by
    subst ea
    cases r1
    obtain ⟨T, idr, S⟩ := showsE I dp nd sh sz
    exact call_repr_slot (by omega) (S.typeIs s fun _ _ e => e) S.slotRepr (S.call X.A.in1 _ s _ g (by show X.A.units + 1 + d.depth < cLine; omega) (fun _ _ e => e) fun h' u tk hk => ⟨_, _, rfl, fin h' u tk hk⟩)
  cases d with
  | none => cases dp; cases r1; exact PySem.P.repr_of_none (fin s.heap _ _ fun _ _ e => e)
  | bool b => cases dp; cases r1; exact PySem.P.repr_of_bool (fin s.heap _ _ fun _ _ e => e)
  | int i => cases dp; obtain ⟨t, rfl⟩ := r1; exact PySem.P.repr_of_int (by simpa [PyData.showable] using sh) (fin s.heap _ _ fun _ _ e => e)
  | str z => cases dp; obtain ⟨t, rfl⟩ := r1; exact PySem.P.repr_of_str (fin s.heap _ _ fun _ _ e => e) (hsz := by simpa [PyData.shown] using sz)
  | list ds => cases dp; exact go _ rfl
  | tuple ds => cases dp; exact go _ rfl
  | dict ds => cases dp; exact go _ rfl
/-- repr of data in which dicts are empty -/
def dReprE : OpN := n1 fun b μ => match view b μ with
  | some d => if (d.showable && dic0 d && decide (d.depth ≤ 40) && decide (d.shown.length ≤ sizeLine)) = true then .ok (.d (.str d.shown)) μ else .bad
  | none => .bad
theorem ok_reprE {G : GT} : OkN G (rReprE G.K) dReprE := by
  apply ok_n1
  intro W σ w μ H x b Q l r p
  split at p
  · rename_i d h
    split at p
    · rename_i h2
      simp only [Bool.and_eq_true, decide_eq_true_eq] at h2
      exact ⟨x, d, rfl, view_ok l r h, h2.1.1.1, h2.1.1.2, h2.1.2, h2.2, p w _ H w.le_refl l (.str _)⟩
    · exact p.elim
  · exact p.elim
end DL

/-! == of sequences of unlike lengths; x in (texts) for any x. -/
namespace DL
open PySem PySem.Spec PyProof.Rows L2
open PySem.SeqAt (EqAt RcAt RcNeAt)
theorem any_ff : ∀ l : List Value, (l.any fun _ => false) = false
  | [] => rfl
  | _ :: l => by rw [List.any_cons, any_ff l]; rfl
/-! ### a text and a dict -/
section
variable {A : Around} {s : Shared}
theorem dict_eq_declines {prog : Program} {w : World} {E : Value → Shared → Prop} {l : Addr} {o : Obj} (b : Str) (u : Tok) (ho : s.heap.get? l = some o) (hc : o.cls = .type "dict") {Q : Value → Shared → Prop} (h : Q .notImplemented s) :
    wpAny (model prog w) A (call (.builtin "dict.__eq__") [.ref l, .str b u]) Q E s := by
  have hT : s.TypeIs (.ref l) "dict" := ⟨o, ho, hc⟩
  refine wpAny_call_entry PySem.F.slot_dict_eq hT PySem.F.entry_dict_eq ?_ (PySem.F.args_dict_eq_2 _ _)
  show wpAny _ _ (Builtin.Dict.dictSlotArgs "__eq__" ⟨[.ref l, .str b u], []⟩ >>= _) _ _ s
  refine wpAny_bind ?_
  unfold Builtin.Dict.dictSlotArgs
  refine wpAny_bind (wpAny_notOrdered_dict hT ?_)
  show wpAny _ _ (pure (Value.ref l, Value.str b u)) _ _ s
  refine wpAny_pure ?_
  refine wpAny_bind (wpAny_isInstance (T := "str") (typeIs_str s b u) PySem.F.sub_str_dict ?_)
  simp only [Bool.not_false, if_true]
  exact wpAny_bind (wpAny_rule (wpAny_pure ⟨_, rfl, h⟩))
theorem str_eq_declines_dict (b : Str) (u : Tok) (l : Addr) (c : Value) (es : Array DictEntry) (n : Nat) (dd : Option Addr) (sl : Array (Option Value)) :
    Meets (Builtin.«str.__eq__» ⟨[.str b u, .ref l], []⟩) (fun _ R s => s.heap.get? l = some { cls := c, dict := dd, data := .dict es n, slots := sl } ∧ R (.ok (.ret .notImplemented)) s) :=
  .of_wp fun prog w A R s h => by obtain ⟨hp, g, d, tk, os⟩ := s; obtain ⟨hl, h⟩ := h; wp_walk using AutoSeq1.wpAny_loadPart' hl, wpAny_load hl; exact ⟨_, rfl, h⟩
theorem eqAt_str_dict {l : Addr} {o : Obj} {es : Array DictEntry} {n : Nat} (b : Str) (u : Tok) (ho : s.heap.get? l = some o) (hc : o.cls = .type "dict") (hd : o.data = .dict es n) (hu : A.units < cLine) : EqAt A s (.str b u) (.ref l) false := fun prog w E Q h => by
  unfold eqBool
  refine wpAny_holding ?_
  refine wpAny_ite_split (fun hab => absurd (eq_of_beq hab) nofun) (fun _ => ?_)
  refine wpAny_bind ?_
  obtain ⟨cls, dd, data, sl⟩ := o
  simp only at hc hd
  subst hc hd
  exact PySem.SeqAt.rc_eq_decline_or (k := false) (typeIs_str s b u) ⟨_, ho, rfl⟩ (by decide) PySem.F.sub_dict_str PySem.F.slot_str_eq PySem.F.slot_dict_eq_refl
    (fun _ hq => PySem.call_meets PySem.F.slot_str_eq (typeIs_str s b u) PySem.F.entry_str_eq (PySem.F.args_str_eq_2 _ _) (str_eq_declines_dict b u l (.type "dict") es n dd sl) ⟨ho, hq⟩)
    (fun _ hq => dict_eq_declines b u ho rfl hq)
    (fun _ hq => wpAny_of_eq (rfl : isSame (.str b u) (.ref l) = pure false) hq) (.inr hu) (wpAny_truthy_bool h)
end
/-! ### unlike lengths -/
def lenEq : D → D → Option Bool
  | .tuple [], .tuple (_ :: _) => some false
  | .tuple (_ :: _), .tuple [] => some false
  | .list a, .list b => if a.length = b.length then none else some false
  | _, _ => none
def rEqL (K : PySem.W.Frag) (neg : Bool) : R2 := fun x y H Q => ∃ a b k, Rp K H x a ∧ Rp K H y b ∧ lenEq a b = some k ∧ Q (.bl (if neg then !k else k)) H
section
variable {X : Cx}
theorem op_eqL (hu : X.A.units + 64 < cLine) : OpR X (compareOp .Eq) (rEqL X.K false) := by
  intro pins s σ H x y v u Q I rx ry h
  obtain ⟨a, b, k, ra, rb, hl, q⟩ := h
  unfold lenEq at hl
  split at hl
  · cases hl
    cases ra with
    | tup h1 _ => cases rb with
      | tup h2 t =>
        cases rx; cases ry
        cases ‹RpA _ _ _ []›
        cases t
        obtain ⟨i1, r1, p1, _⟩ := I.tuple h1.t
        obtain ⟨i2, r2, p2, _⟩ := I.tuple h2.t
        cases r1
        cases r2
        exact SeqAt.eq_tupleAt (e := fun _ => true) p1 p2 (by omega) (fun j j1 _ => by simp at j1) ⟨.bl _, H, I, rfl, by simpa using q⟩
  · cases hl
    cases ra with
    | tup h1 t => cases rb with
      | tup h2 t2 =>
        cases rx; cases ry
        cases t2
        cases t
        obtain ⟨i1, r1, p1, _⟩ := I.tuple h1.t
        obtain ⟨i2, r2, p2, _⟩ := I.tuple h2.t
        cases r1
        cases r2
        exact SeqAt.eq_tupleAt (e := fun _ => true) p1 p2 (by omega) (fun j _ j2 => by simp at j2) ⟨.bl _, H, I, rfl, by simpa using q⟩
  · rename_i ds es
    split at hl
    · cases hl
    · rename_i hn
      cases hl
      cases ra with
      | lst h1 t => cases rb with
        | lst h2 t2 =>
          cases rx; cases ry
          obtain ⟨i1, r1, p1, _⟩ := I.list h1
          obtain ⟨i2, r2, p2, _⟩ := I.list h2
          have e1 := r1.length
          have e2 := r2.length
          have e3 := t.length
          have e4 := t2.length
          exact SeqAt.eq_list_lengthsAt p1.isList p2.isList (by simp; omega) (by omega) ⟨.bl _, H, I, rfl, q⟩
  · cases hl
theorem op_neL (hu : X.A.units + 64 < cLine) : OpR X (compareOp .NotEq) (rEqL X.K true) := by
  intro pins s σ H x y v u Q I rx ry h
  obtain ⟨a, b, k, ra, rb, hl, q⟩ := h
  unfold lenEq at hl
  split at hl
  · cases hl
    cases ra with
    | tup h1 _ => cases rb with
      | tup h2 t =>
        cases rx; cases ry
        cases ‹RpA _ _ _ []›
        cases t
        obtain ⟨i1, r1, p1, _⟩ := I.tuple h1.t
        obtain ⟨i2, r2, p2, _⟩ := I.tuple h2.t
        cases r1
        cases r2
        exact RcNeAt.tuples (e := fun _ => true) p1 p2 (by omega) (fun j j1 _ => by simp at j1) _ _ _ _ ⟨.bl _, H, I, rfl, by simpa using q⟩
  · cases hl
    cases ra with
    | tup h1 t => cases rb with
      | tup h2 t2 =>
        cases rx; cases ry
        cases t2
        cases t
        obtain ⟨i1, r1, p1, _⟩ := I.tuple h1.t
        obtain ⟨i2, r2, p2, _⟩ := I.tuple h2.t
        cases r1
        cases r2
        exact RcNeAt.tuples (e := fun _ => true) p1 p2 (by omega) (fun j _ j2 => by simp at j2) _ _ _ _ ⟨.bl _, H, I, rfl, by simpa using q⟩
  · rename_i ds es
    split at hl
    · cases hl
    · rename_i hn
      cases hl
      cases ra with
      | lst h1 t => cases rb with
        | lst h2 t2 =>
          cases rx; cases ry
          obtain ⟨i1, r1, p1, _⟩ := I.list h1
          obtain ⟨i2, r2, p2, _⟩ := I.list h2
          have e1 := r1.length
          have e2 := r2.length
          have e3 := t.length
          have e4 := t2.length
          exact RcNeAt.lists_lengths p1.isList p2.isList (by simp; omega) (by omega) _ _ _ _ ⟨.bl _, H, I, rfl, q⟩
  · cases hl
end
def rEqX (K : PySem.W.Frag) : R2 := fun x y H Q => rEqA K x y H Q ∨ rEqL K false x y H Q
def rNeX (K : PySem.W.Frag) : R2 := fun x y H Q => rNeA K x y H Q ∨ rEqL K true x y H Q
theorem op_eqX {X : Cx} (hu : X.A.units + 64 < cLine) : OpR X (compareOp .Eq) (rEqX X.K) := (op_eqA hu).or (op_eqL hu)
theorem op_neX {X : Cx} (hu : X.A.units + 64 < cLine) : OpR X (compareOp .NotEq) (rNeX X.K) := (op_neA hu).or (op_neL hu)
/-- == of data, of sequences of unlike lengths whatever stands in them -/
def dEqX (neg : Bool) : Op2 := fun x y μ => match view x μ, view y μ with
  | some a, some b => match lenEq a b with
    | some k => .ok (.d (.bool (if neg then !k else k))) μ
    | none => dEq neg x y μ
  | _, _ => dEq neg x y μ
section
variable {G : GT}
theorem ok_eqX : Ok2 G (rEqX G.K) (dEqX false) := by
  intro W σ w μ H x y b c Q l rx ry p
  unfold dEqX at p
  split at p
  · rename_i a1 b1 h1 h2
    split at p
    · rename_i k hk
      exact .inr ⟨a1, b1, k, view_ok l rx h1, view_ok l ry h2, hk, p w _ H w.le_refl l (.bl _)⟩
    · exact .inl (ok_eq W σ w μ H x y b c Q l rx ry p)
  · exact .inl (ok_eq W σ w μ H x y b c Q l rx ry p)
theorem ok_neX : Ok2 G (rNeX G.K) (dEqX true) := by
  intro W σ w μ H x y b c Q l rx ry p
  unfold dEqX at p
  split at p
  · rename_i a1 b1 h1 h2
    split at p
    · rename_i k hk
      exact .inr ⟨a1, b1, k, view_ok l rx h1, view_ok l ry h2, hk, p w _ H w.le_refl l (.bl _)⟩
    · exact .inl (ok_ne W σ w μ H x y b c Q l rx ry p)
  · exact .inl (ok_ne W σ w μ H x y b c Q l rx ry p)
end
/-! ### x in (texts) -/
def bigD : D → Bool
  | .list _ => true | .tuple _ => true | .dict [] => true
  | _ => false
def allStr : List D → Bool
  | [] => true
  | .str _ :: r => allStr r
  | _ :: _ => false
def rInX (K : PySem.W.Frag) (neg : Bool) : R2 := fun x y H Q => ∃ p xs ds d, y = .ref p ∧ (SqL K H p xs ∨ SqT K H p xs) ∧ RpA K H xs ds ∧ allStr ds = true ∧ Rp K H x d ∧ bigD d = true ∧ Q (.bl neg) H
section
variable {X : Cx}
theorem big_eqAt {pins : List (Addr × Obj)} {σ : L2.St} {H : Hp} {s : Shared} (I : Inv X pins σ H s) {A : Around} (hu : A.units < cLine) {v : V} {u : Value} {d : D} (r : Rp X.K H v d) (ru : RelV v u) (hb : bigD d = true) (y : Str) (t : Tok) : EqAt A s (.str y t) u false := by
  cases r with
  | lst h _ =>
    cases ru
    obtain ⟨_, _, p, _⟩ := I.list h
    exact EqAt.str_list y t p.isList hu
  | tup h _ =>
    cases ru
    obtain ⟨_, _, p, _⟩ := I.tuple h.t
    exact EqAt.str_tuple y t p hu
  | dic h _ =>
    cases ru
    obtain ⟨_, hsys, vs, kv, o, es, ep, ho, hx, hdt, _, pr, _⟩ := dk_of I.hok h
    exact eqAt_str_dict y t ho hx.1 hdt hu
  | _ => cases hb
theorem strs_of {pins : List (Addr × Obj)} {σ : L2.St} {H : Hp} {s : Shared} (I : Inv X pins σ H s) : ∀ {ds : List D} {xs : List V} {us : List Value}, RpA X.K H xs ds → Vals xs us → allStr ds = true → ∀ u ∈ us, ∃ y t, u = .str y t
  | [], _, _, h, r, _ => by cases h; cases r; simp
  | .str y :: ds, _, _, h, r, e => by
    cases h with
    | cons h1 h2 =>
      cases r with
      | cons r1 r2 =>
        cases h1
        obtain ⟨t, rfl⟩ := r1
        intro u hu
        rcases List.mem_cons.mp hu with rfl | hu
        · exact ⟨_, _, rfl⟩
        · exact strs_of I h2 r2 e u hu
  | .none :: _, _, _, _, _, e => by cases e
  | .bool _ :: _, _, _, _, _, e => by cases e
  | .int _ :: _, _, _, _, _, e => by cases e
  | .list _ :: _, _, _, _, _, e => by cases e
  | .tuple _ :: _, _, _, _, _, e => by cases e
  | .dict _ :: _, _, _, _, _, e => by cases e
theorem op_inX0 (hu : X.A.units + 64 < cLine) : OpR X (compareOp .In) (rInX X.K false) := by
  intro pins s σ H x y v u Q I rx ry h
  obtain ⟨p, xs, ds, d, rfl, hq, ra, hs, rd, hb, q⟩ := h
  cases ry
  rcases hq with hq | hq
  · obtain ⟨its, r, pl, hz⟩ := I.list hq
    have st := strs_of I ra r hs
    refine SeqAt.in_listAt (fun _ => false) pl.isList (fun w hw => ?_) ⟨.bl _, H, I, rfl, ?_⟩
    · obtain ⟨y, t, rfl⟩ := st w (by simpa using hw)
      exact big_eqAt I (by show X.A.units + 1 < cLine; omega) rd rx hb y t
    · rw [List.any_toArray, any_ff]; exact q
  · obtain ⟨its, r, pl, hz⟩ := I.tuple hq
    have st := strs_of I ra r hs
    refine SeqAt.in_tupleAt (fun _ => false) pl (fun w hw => ?_) ⟨.bl _, H, I, rfl, ?_⟩
    · obtain ⟨y, t, rfl⟩ := st w (by simpa using hw)
      exact big_eqAt I (by show X.A.units + 1 < cLine; omega) rd rx hb y t
    · rw [List.any_toArray, any_ff]; exact q
def rInZ (K : PySem.W.Frag) : R2 := fun x y H Q => rInA K false x y H Q ∨ rInX K false x y H Q
theorem op_inX (hu : X.A.units + 64 < cLine) : OpR X (compareOp .In) (rInZ X.K) := op_inA.or (op_inX0 hu)
end
def allDD : List Dv → Option (List D)
  | [] => some []
  | .d x :: r => match allDD r with
    | some xs => some (x :: xs)
    | none => none
  | _ :: _ => none
theorem allDD_eq : ∀ {bs : List Dv} {ds : List D}, allDD bs = some ds → bs = ds.map .d
  | [], _, h => by cases h; rfl
  | .d x :: r, _, h => by
    unfold allDD at h
    cases q : allDD r with
    | none => rw [q] at h; cases h
    | some xs => rw [q] at h; cases h; rw [allDD_eq q]; rfl
  | .c _ :: _, _, h => by cases h
  | .f _ :: _, _, h => by cases h
/-- x in y, y's items texts where x is a list, a tuple, a dict -/
def dInX : Op2 := fun x y μ => match x with
  | .d a => if bigD a = true then match itemsA y μ with
      | some bs => match allDD bs with
        | some ds => if allStr ds = true then .ok (.d (.bool false)) μ else .bad
        | none => .bad
      | none => .bad
    else dIn false x y μ
  | _ => dIn false x y μ
theorem ok_inX {G : GT} : Ok2 G (rInZ G.K) dInX := by
  intro W σ w μ H x y b c Q l rx ry p
  unfold dInX at p
  split at p
  · rename_i a
    split at p
    · rename_i hb
      split at p
      · rename_i bs h1
        split at p
        · rename_i ds h2
          split at p
          · rename_i h3
            obtain ⟨a', vs, rfl, g1, g2⟩ := itemsA_ok l ry h1
            rw [allDD_eq h2] at g2
            exact .inr ⟨a', vs, ds, a, rfl, g1, RpA.mono l.same _ _ (RpA_of_Rvs g2), h3, Rp.inH l rx, hb, p w _ H w.le_refl l (.bl _)⟩
          · exact p.elim
        · exact p.elim
      · exact p.elim
    · exact .inl (ok_in W σ w μ H x y _ c Q l rx ry p)
  · exact .inl (ok_in W σ w μ H x y _ c Q l rx ry p)
end DL

/-! sorting by keys that are tuples, compared item by item as far as they are alike: (0, 0) and (1, "a") too. -/
namespace DL
open PySem PySem.Spec PyProof.Rows L2 PySem.SeqAt PySem.W PySem.Calls
/-- Python can say which tuple is less -/
def lexAl : List D → List D → Bool
  | x :: xs, y :: ys => alike x y && (!PyData.eqv x y || lexAl xs ys)
  | _, _ => true
def keyAl : D → D → Bool
  | .tuple xs, .tuple ys => lexAl xs ys
  | _, _ => false
def intKey : D → Bool
  | .tuple (.int _ :: _) => true
  | _ => false
theorem intKey_ok {d : D} (h : intKey d = true) : ∃ i r, d = .tuple (.int i :: r) := by
  unfold intKey at h
  split at h
  · exact ⟨_, _, rfl⟩
  · cases h
section
variable {prog : Program} {w : World} {A : Around} {s : Shared}
theorem katLex_lex {b fin : Bool} {Q : Bool → Shared → Prop} : ∀ (xs ys : List D) (i : Nat) (vs ws : List Value) (as bs : List Addr), ReadsAll s.heap vs xs as → ReadsAll s.heap ws ys bs → lexAl xs ys = true →
    A.units + min (PyData.depthAll xs) (PyData.depthAll ys) < cLine → (b = true → i = 0 → ∀ x r t, xs = x :: r → x ≠ .tuple t) → fin = decide (xs.length < ys.length) → Q (PyProof.Rows.lexLt itemOrd (keyToksAll xs) (keyToksAll ys)) s → KatLex prog w A b fin Q (vs.zip ws) i s
  | [], ys, i, vs, ws, as, bs, ra, rb, _, hu, hb, hf, hq => katLex_alike [] ys i vs ws as bs ra rb (by simp [alikeAll]) hu hb hf hq
  | x :: xs, [], i, vs, ws, as, bs, ra, rb, _, hu, hb, hf, hq => katLex_alike (x :: xs) [] i vs ws as bs ra rb (by simp [alikeAll]) hu hb hf hq
  | x :: xs, y :: ys, i, _, _, _, _, ra, rb, h, hu, hb, hf, hq => by
    simp only [lexAl, Bool.and_eq_true, Bool.or_eq_true, Bool.not_eq_true'] at h
    obtain ⟨h1, h2⟩ := h
    have hf' : fin = decide (xs.length < ys.length) := by
      rw [hf]
      simp only [List.length_cons, Nat.add_lt_add_iff_right]
    cases ra with
    | cons r rs =>
      cases rb with
      | cons r' rs' =>
        rw [List.zip_cons_cons]
        refine kat_cons (eqAt_alike x y A s _ _ _ _ r r' h1 (room_head hu) prog w _ _ ?_)
        cases hx : PyData.eqv x y with
        | true =>
          rw [dataLt_all_yes h1 hx] at hq
          exact kat_yes (katLex_lex xs ys (i + 1) _ _ _ _ rs rs' (h2.resolve_left (by rw [hx]; simp)) (room_tail hu) (fun _ hi => absurd hi (Nat.succ_ne_zero i)) hf' hq)
        | false =>
          rw [dataLt_all_no h1 hx] at hq
          refine kat_no (oneLt_alike (fun hbi t => ?_) r r' h1 (ne_none_of h1 hx) (room_head hu) hq)
          rw [Bool.and_eq_true] at hbi
          exact hb hbi.1 (by simpa using hbi.2) x xs t rfl
theorem dk_key {h : Heap} {ds : List D} {v : Value} {d : D} {as : List Addr} (hd : d ∈ ds) (r : Reads h v d as) : (dataKind h ds).keyOf v = some (keyToks d) := by
  have q : ∃ d, d ∈ ds ∧ ∃ as, Reads h v d as := ⟨d, hd, as, r⟩
  have e : (dataKind h ds).keyOf v = some (keyToks q.choose) := by
    show (open Classical in if q : ∃ d, d ∈ ds ∧ ∃ as, Reads h v d as then some (keyToks q.choose) else none) = _
    rw [dif_pos q]
  obtain ⟨h1, as', h2⟩ := q.choose_spec
  rw [e, (PyProof.Rows.reads_det (fun _ _ e _ => e) h2 r).1]
theorem sortsLex {vs : List Value} {ds : List D} (e : EachIs (fun v d => ∃ as, Reads s.heap v d as) vs ds) (hal : ∀ d ∈ ds, ∀ d' ∈ ds, keyAl d d' = true) (hi : ∀ d ∈ ds, intKey d = true) (hu : ∀ d, d ∈ ds → A.units + d.depth < cLine) : SortsAt prog w A s (dataKind s.heap ds) vs := by
  refine ⟨fun v hv => ?_, ?_⟩
  · obtain ⟨d, hd, as, r⟩ := e.left v hv
    exact ⟨_, dk_key hd r⟩
  · have ht : ∀ d, d ∈ ds → ∃ x r, d = PyData.tuple (x :: r) := fun d hd => by
      obtain ⟨i, r, e⟩ := intKey_ok (hi d hd)
      exact ⟨_, _, e⟩
    refine ⟨tuples' (dataType (.int 0) != Value.type "tuple"), ?_, fun h2 E Q hq => ?_⟩
    · intro E x y a b Q ha hb hq
      obtain ⟨d, as, hd, ra, rfl⟩ := dataKind_inv ha
      obtain ⟨d', as', hd', rb, rfl⟩ := dataKind_inv hb
      have hdd := hal d hd d' hd'
      have hroom : A.units + min d.depth d'.depth < cLine := Nat.lt_of_le_of_lt (Nat.add_le_add_left (Nat.min_le_left _ _) _) (hu d hd)
      obtain ⟨x1, r1, rfl⟩ := intKey_ok (hi d hd)
      obtain ⟨x2, r2, rfl⟩ := intKey_ok (hi d' hd')
      have hq' : Q (dataLt (.tuple (.int x1 :: r1)) (.tuple (.int x2 :: r2))) s := hq
      rw [dataLt_tuple] at hq'
      cases ra with
      | @tuple l o xs n _ _ h1 h2 h3 h4 =>
        cases rb with
        | @tuple l' o' xs' n' _ _ k1 k2 k3 k4 =>
          have n1 : xs.size = (PyData.int x1 :: r1).length := by simpa using SeqAt.ReadsAll.length _ _ _ h4
          have n2 : xs'.size = (PyData.int x2 :: r2).length := by simpa using SeqAt.ReadsAll.length _ _ _ k4
          refine kat_lt h1 h3 k1 k3 (katLex_lex (.int x1 :: r1) (.int x2 :: r2) 0 _ _ _ _ h4 k4 hdd (by have q := SeqAt.room_in hroom; omega) (fun hb _ x r t ex => ?_) (by rw [n1, n2]) hq')
          obtain ⟨rfl, rfl⟩ := List.cons.inj ex
          exact fun z => by cases z
    · obtain ⟨fs, t1, t2, t3⟩ := each_katTups e ht
      refine kat_kind (T := dataType (.int 0)) t1 (by omega) (fun f hf => ?_) (beq_self_eq_true _) hq
      obtain ⟨x, r, as, m1, m2⟩ := t3 f hf
      obtain ⟨i, r', ei⟩ := intKey_ok (hi _ m1)
      cases ei
      have z := looks_reads (M := model prog w) m2
      exact z
end
/-! ### sorted(xs, key=f) -/
section
variable {prog : Program} {w : World} {A : Around} {s : Shared} {β : Type}
/-- what the keys' walk and the sort behind it come to -/
theorem lex_rest {a kS : Addr} {e1 : Nat} {vs : List Value} {bs : List β} {R : Value → β → Prop} {k : β → D} {f : Value} {h₁ : Heap} {P : PySem.Fin → Shared → Prop} {E : Value → Shared → Prop} (kp : KeepsBut a h₁ s.heap) (hkS : h₁.get? kS = none)
    (nk : s.heap.get? kS = some (seqObj "list" #[] 0)) (na : s.heap.get? a = some (seqObj "list" #[] e1)) (hka : kS ≠ a) (eR : EachIs R vs bs) (hZ : bs.length ≤ sizeLine)
    (hal : ∀ d ∈ bs.map k, ∀ d' ∈ bs.map k, keyAl d d' = true) (hi : ∀ d ∈ bs.map k, intKey d = true) (hself : ∀ d ∈ bs.map k, alike d d = true) (hu : ∀ d, d ∈ bs.map k → A.units + d.depth < cLine)
    (turn : ∀ (i : Nat) (v : Value) (d : D), vs[i]? = some v → (bs.map k)[i]? = some d → ∀ (h : Heap) (tk : Nat), KeepsBut a h₁ h →
      wpAny (model prog w) A (call f [v]) (KeyPure d { s with heap := h, toks := tk }) (fun _ _ => False) { s with heap := h, toks := tk })
    (h : ∀ h' tk out c, KeepsBut a h₁ h' → h'.get? a = some (seqObj "list" (List.toArray out) c) → out.length = bs.length → EachIs R out (bs.mergeSort (dataLe false k)) → P (.done (.ret .none)) { s with heap := h', toks := tk }) :
    wpAny (model prog w) A (ksk_rest a f false vs.toArray e1 (.ref kS)) P E s := by
  have hlv : vs.length = bs.length := eR.length
  have hlk : (bs.map k).length = vs.length := by rw [List.length_map]; exact hlv.symm
  unfold ksk_rest
  refine wpAny_bind (wpAny_rule ?_)
  first
    | rw [List.forIn_toArray]
    | (rw [← Array.forIn_toList]; simp only [List.toList_toArray])
    | rw [← Array.forIn_toList]
  refine wpAny_bind (ksk_fold (fun i s' => ∃ g tk kA c, s' = { s with heap := g, toks := tk } ∧ KeepsBut a h₁ g ∧ g.get? kS = some (seqObj "list" kA c) ∧ g.get? a = some (seqObj "list" #[] e1) ∧ EachIs (fun v d => Reads g v d [] ∧ alike d d = true) kA.toList ((bs.map k).take i)) vs 0 s
    ⟨s.heap, s.toks, #[], 0, rfl, kp, nk, na, by rw [List.take_zero]; exact EachIs.nil⟩ ?step ?done)
  case step =>
    rintro j x s' hx ⟨g0, tk, kA, c, rfl, kp', nk', na', hk⟩
    simp only [Nat.zero_add] at hk ⊢
    have hj : j < vs.length := (List.getElem?_eq_some_iff.mp hx).1
    obtain ⟨d, hd⟩ : ∃ d, (bs.map k)[j]? = some d := ⟨_, List.getElem?_eq_getElem (by omega)⟩
    have hdd : alike d d = true := hself d (List.mem_of_getElem? hd)
    have hz : kA.size ≤ vs.length := by
      have h1 := hk.length
      rw [Array.length_toList, List.length_take] at h1
      omega
    refine wpAny_bind (wpAny_attempt (wpAny_mono (turn j x d hx hd g0 tk kp') (fun v s'' he => ?_) fun _ _ hF => hF.elim))
    obtain ⟨g, tk2, rfl, hg, hr⟩ := he
    try dsimp only
    have nk2 : g.get? kS = some (seqObj "list" kA c) := hg _ _ nk'
    have na2 : g.get? a = some (seqObj "list" #[] e1) := hg _ _ na'
    have s1 := Heap.SameBut.update g kS (Obj.mapSeq (·.push v))
    obtain ⟨c2, hc2⟩ : ∃ c2, (g.update kS (Obj.mapSeq (·.push v))).get? kS = some (seqObj "list" (kA.push v) c2) := ⟨_, get?_update_seq nk2 (·.push v)⟩
    have ek : (bs.map k).take (j + 1) = (bs.map k).take j ++ [d] := by rw [List.take_add_one, hd]; simp
    have ea : (kA.push v).toList = kA.toList ++ [v] := by simp
    refine wpAny_bind (listUpdate_at nk2 rfl ?_ (by omega) (Nat.le_trans (Nat.le_of_eq (Array.size_push ..)) (by omega)))
    have keepS : ∀ (u : Value) (d : D), Reads g u d [] ∧ alike d d = true → Reads (g.update kS (Obj.mapSeq (·.push v))) u d [] ∧ alike d d = true := fun u d q =>
      ⟨Reads.keepBut (a := kS) (fun b o hb e => (s1.2 b hb).trans e) (fun o e => by rw [nk2] at e; rw [← Option.some.inj e]) d u [] q.2 q.1 (by simp), q.2⟩
    refine wpAny_pure ⟨rfl, _, _, kA.push v, c2, rfl, (kp'.trans_all hg).same s1 (.inr hkS), hc2, (s1.2 a hka.symm).trans na2, ?_⟩
    rw [ea, ek]
    refine each_snoc (R := fun (u : Value) (d : D) => Reads (g.update kS (Obj.mapSeq (·.push v))) u d [] ∧ alike d d = true) (keepS v d ⟨hr, hdd⟩) ?_
    exact hk.mono fun u d q => keepS u d ⟨PyProof.Rows.Reads.keeps hg q.1, q.2⟩
  case done =>
    rintro s' ⟨g, tk, kA, c, rfl, kp', nk', na', hk⟩
    have hk' : EachIs (fun v d => ∃ as, Reads g v d as) kA.toList (bs.map k) := by
      have e3 : (bs.map k).take (0 + vs.length) = bs.map k := List.take_of_length_le (by omega)
      rw [e3] at hk
      exact hk.mono fun v d q => ⟨[], q.1⟩
    have hsz : kA.size = vs.length := by
      have h1 := hk'.length
      rw [Array.length_toList] at h1
      omega
    try dsimp only
    refine wpAny_bind (listItems_at nk' rfl ?_)
    refine keyH_end (κ := dataKind g (bs.map k)) (h₁ := h₁) kp' hkS nk' na' hka (sortsLex (s := { s with heap := g, toks := tk }) hk' hal hi hu) hsz (by omega) fun h3 tk3 c k3 n3 => h h3 tk3 _ c k3 n3 ?_ ?_
    · rw [sortVals_length false (by rw [Array.length_toList]; exact hsz)]
      exact hlv
    · exact sortVals_each (κ := dataKind g (bs.map k)) (fun b => keyToks (k b)) eR (each_of_map k ((each_mem hk').mono fun _ _ ⟨⟨_, r⟩, hd⟩ => dk_key hd r))
theorem sorted_lex {l : Addr} {vs : List Value} {bs : List β} {R : Value → β → Prop} {f : Addr} {Q : Value → Shared → Prop} {E : Value → Shared → Prop} (k : β → D) (hl : s.heap.IsList l vs.toArray) (e : EachIs R vs bs)
    (hal : ∀ d ∈ bs.map k, ∀ d' ∈ bs.map k, keyAl d d' = true) (hi : ∀ d ∈ bs.map k, intKey d = true) (hself : ∀ d ∈ bs.map k, alike d d = true) (hL : bs.length ≤ sizeLine) (hu : ∀ d, d ∈ bs.map k → A.units + 2 + d.depth < cLine)
    (turn : ∀ (v : Value) (x : β), R v x → x ∈ bs → ∀ (h : Heap) (tk : Nat), (∀ b o, s.heap.get? b = some o → h.get? b = some o) →
      wpAny (model prog w) A.in1.in1 (call (.ref f) [v]) (KeyPure (k x) { s with heap := h, toks := tk }) (fun _ _ => False) { s with heap := h, toks := tk })
    (h : ∀ out c h' tk, (∀ b o, s.heap.get? b = some o → h'.get? b = some o) → h'.get? (s.heap.objs.size + 1) = some (seqObj "list" (List.toArray out) c) → out.length = bs.length → EachIs R out (bs.mergeSort (dataLe false k)) →
      Q (.ref (s.heap.objs.size + 1)) { s with heap := h', toks := tk }) :
    wpAny (model prog w) A (call (.builtin "sorted") [.ref l] [(Str.ofString "key", .ref f)]) Q E s := by
  have up : ∀ {g : Heap}, KeepsBut (s.heap.objs.size + 1) (copyHeap s.heap vs) g → ∀ b o, s.heap.get? b = some o → g.get? b = some o := fun {g} kp b o q =>
    kp b o (Nat.ne_of_lt (Nat.lt_succ_of_lt (Heap.lt_size q))) (copyHeap_old q)
  refine sorted_of_sort hl (by rw [e.length]; exact hL) (ksk_s1 _ _) (fun _ => ksk_l1 _ _) fun E' => ?_
  rw [ksk_t1]
  have ho := copyHeap_at s.heap vs
  have ha : s.heap.objs.size + 1 < (copyHeap s.heap vs).objs.size := Heap.lt_size ho
  obtain ⟨e1, ho1⟩ : ∃ e1, ((copyHeap s.heap vs).update (s.heap.objs.size + 1) (Obj.mapSeq fun _ => (#[] : Array Value))).get? (s.heap.objs.size + 1) = some (seqObj "list" #[] e1) := ⟨_, get?_update_seq ho fun _ => #[]⟩
  have hkS : (((copyHeap s.heap vs).update (s.heap.objs.size + 1) (Obj.mapSeq fun _ => (#[] : Array Value))).push (seqObj "tuple" vs.toArray 0)).objs.size = (copyHeap s.heap vs).objs.size + 1 := by rw [size_push', Heap.size_update]
  have hZ : vs.length ≤ sizeLine := by rw [e.length]; exact hL
  unfold ksk_tree
  refine wpAny_bind (listItems_at (s := { s with heap := copyHeap s.heap vs }) ho rfl ?_)
  refine wpAny_bind (listUpdate_at (s := { s with heap := copyHeap s.heap vs }) ho rfl ?_ (by rw [List.size_toArray]; exact hZ) (Nat.zero_le _))
  refine wpAny_bind (seqEpoch_at ho1 rfl ?_)
  refine wpAny_bind (wpAny_newTuple ?_ (by show vs.length ≤ _; exact hZ))
  refine wpAny_bind (wpAny_newList ?_ (Nat.zero_le _))
  refine wpAny_holding ?_
  have kp : KeepsBut (s.heap.objs.size + 1) (copyHeap s.heap vs) (sortingHeap (copyHeap s.heap vs) (s.heap.objs.size + 1) vs) := fun b o hb q => sortingHeap_old hb q
  refine lex_rest (h₁ := copyHeap s.heap vs) (bs := bs) (R := R) (k := k) (s := { s with heap := (((copyHeap s.heap vs).update (s.heap.objs.size + 1) (Obj.mapSeq fun _ => (#[] : Array Value))).push (seqObj "tuple" vs.toArray 0)).push (seqObj "list" #[] 0) })
    (kS := (((copyHeap s.heap vs).update (s.heap.objs.size + 1) (Obj.mapSeq fun _ => (#[] : Array Value))).push (seqObj "tuple" vs.toArray 0)).objs.size)
    kp (Heap.get?_none_of_le (by rw [hkS]; exact Nat.le_succ _)) (Heap.get?_push_size _ rfl) (Heap.get?_push_of_some _ (Heap.get?_push_of_some _ ho1)) (by rw [hkS]; exact Nat.ne_of_gt (Nat.lt_succ_of_lt ha)) e hL hal hi hself
    (fun d hd => by show A.units + 1 + 1 + d.depth < cLine; have := hu d hd; omega)
    (keyH_turns (s := { s with heap := (((copyHeap s.heap vs).update (s.heap.objs.size + 1) (Obj.mapSeq fun _ => (#[] : Array Value))).push (seqObj "tuple" vs.toArray 0)).push (seqObj "list" #[] 0) }) e fun v x hR hx h tk kp => turn v x hR hx h tk (up kp)) fun h' tk out c kp hD hlo ko => ⟨rfl, ?_⟩
  exact h out c h' tk (up kp) hD hlo ko
end
end DL

/-! sorted(xs, key=f) where f tells (0, 0) of None, (1, x) of x. -/
namespace DL
open PySem PySem.Spec PyProof.Rows L2
open PySem.W (EachIs alike dataLe KeyPure)
/-- what such an f gives -/
def rkD : D → D
  | .none => .tuple [.int 0, .int 0]
  | d => .tuple [.int 1, d]
inductive AtomR : V → D → Prop
  | non : AtomR .non .none
  | int (i : Int) : AtomR (.int i) (.int i)
  | str (x : Str) : AtomR (.str x) (.str x)
theorem AtomR.rp {K : PySem.W.Frag} {I : Hp} {v : V} {d : D} (h : AtomR v d) : Rp K I v d := by
  cases h <;> constructor
def atomD : D → Bool
  | .none => true | .int _ => true | .str _ => true
  | _ => false
theorem atomR_of {K : PySem.W.Frag} {I : Hp} {v : V} {d : D} (r : Rp K I v d) (h : atomD d = true) : AtomR v d := by
  cases r <;> first | constructor | cases h
theorem AtomR.reads {v : V} {d : D} {u : Value} (h : AtomR v d) (r : RelV v u) (hp : Heap) : Reads hp u d [] := by
  cases h with
  | non => cases r; exact .none
  | int i => obtain ⟨t, rfl⟩ := r; exact .int i t
  | str x => obtain ⟨t, rfl⟩ := r; exact .str x t
structure KeyFn (P : Program) (w : World) (K : PySem.W.Frag) (mg : Str → Option Value) (x : Str) (f : Addr) : Prop where
  mg : mg x = some (.ref f)
  run : ∀ (A : Around) (s : Shared) (E : Value → Shared → Prop) (v : V) (u : Value) (d : D), K.In s.heap → s.heap.NoLimit → A.depth < recursionLimit → AtomR v d → RelV v u → wpAny (model P w) A (call (.ref f) [u]) (KeyPure (rkD d) s) E s
def KeyF (P : Program) (w : World) (K : PySem.W.Frag) (mg : Str → Option Value) (x : Str) : Prop := ∃ f, KeyFn P w K mg x f
theorem keyFn_of {P : Program} {w : World} {K : PySem.W.Frag} {mg : Str → Option Value} {name qual x : Str} {st : Stmt} {f : Addr} {fd : FuncData} (F : Fun K name qual st f fd) (hm : mg name = some (.ref f)) (S : FnScope [x] [x] (defScope st))
    (hl : (defScope st).names.lookup x = some .local) (B : Binds K fd [x] []) (hx : (x == ("__debug__" : Str)) = false)
    (hb : ∃ p1 p2 p3 p4 p5 p6 p7 p8 p9 p10 p11 j1 j2 j3 j4 c1 c2, defBody st = [.Return (some (.IfExp (.Compare (.Name x p1) [.Is] [.Constant .none j1 p2] p3) (.Tuple [.Constant (.int 0) j2 p4, .Constant (.int 0) j3 p5] c1 p6) (.Tuple [.Constant (.int 1) j4 p7, .Name x p8] c2 p9) p10)) p11]) :
    KeyF P w K mg name := by
  refine ⟨f, hm, fun A s E v u d inK nolim room at_ ru => ?_⟩
  obtain ⟨oc, od, kV, doc, pm, an, cdv, ct, osl, rfl, lk, hcd⟩ := F.ex
  obtain ⟨p1, p2, p3, p4, p5, p6, p7, p8, p9, p10, p11, j1, j2, j3, j4, c1, c2, hb⟩ := hb
  have bt := B s [u] inK rfl
  have bt : BindsTo s _ ⟨[u], []⟩ [(x, u)] := bt
  rw [hb] at bt lk
  apply wpAny_call
  apply codeAny_call_function room (inK _ _ lk) rfl S.co S.gen rfl (PySem.W.codeRec_of inK hcd) (bt _ _ _ _ _)
  apply wpAny_newFunctionEnv_cells S.kind (fun z hz => by rw [List.mem_singleton] at hz; subst hz; exact .inl hl)
  rintro env rfl s1 xx
  refine ⟨nolim.keeps xx.toInCall.keep, ?_⟩
  apply codeAny_func
  have hk : (newEnv (defScope st) s.heap.objs.size mainGlobals (cellsFrom (s.heap.objs.size + 1) (defScope st).names []) (qual ++ ".<locals>.") (some f) cdv none builtinsNs).kindOf x = some .local := hl
  have hns := xx.toInCall.ns
  have hval : ∀ kO : Str → Option NameKind, kO x = some .local → bindL kO [(x, u)] (fun _ => none) x = some u := fun kO hk => by simp [bindL, hk]
  obtain ⟨g, tk, rfl⟩ := xx.toInCall.same
  have keep := xx.toInCall.keep
  have ld : ∀ (A' : Around) (E' : Value → Shared → Prop) (Q : Value → Shared → Prop) (s2 : Shared) (pos : Pos), (∃ tk2, s2 = { s with heap := g, toks := tk2 }) → Q u s2 → wpAny (model P w) A' (eval (.Name x pos) (newEnv (defScope st) s.heap.objs.size mainGlobals (cellsFrom (s.heap.objs.size + 1) (defScope st).names []) (qual ++ ".<locals>.") (some f) cdv none builtinsNs)) Q E' s2 := fun A' E' Q s2 pos ⟨tk2, e⟩ hq => by
    subst e
    exact wpAny_Name (wpAny_loadName_local S.kind hk hns (hval _ hk) hq) hx
  have fin : ∀ (vs : List Value) (tk2 : Nat), ReadsAll (g.push { cls := .type "tuple", data := .seq vs.toArray }) vs (match rkD d with | .tuple ds => ds | _ => []) [] → KeyPure (rkD d) s (.ref g.objs.size) { s with heap := g.push { cls := .type "tuple", data := .seq vs.toArray }, toks := tk2 } := fun vs tk2 r => by
    refine ⟨_, tk2, rfl, fun b o e => Heap.get?_push_of_some _ (keep b o e), ?_⟩
    have : ∃ ds, rkD d = .tuple ds := by unfold rkD; split <;> exact ⟨_, rfl⟩
    obtain ⟨ds, e⟩ := this
    rw [e] at r ⊢
    exact .tuple (Heap.get?_push_size _ rfl) rfl rfl r
  refine wpAny_execs_cons (wpAny_Return_some (wpAny_IfExp (wpAny_isTrue_Compare1 (ld _ _ _ _ _ ⟨_, rfl⟩ (Constant_none (is_none_gen (wpAny_truthy_bool ?_)))) (by rfl))))
  cases at_ with
  | non =>
    cases ru
    simp only [decide_true, if_true]
    refine wpAny_Tuple_spliced (Calls.spliced_cons (wpAny_Constant_int (k := j2) (pos := p4) (Calls.spliced_cons (wpAny_Constant_int (k := j3) (pos := p5) (Calls.spliced_nil ⟨by show 2 ≤ sizeLine; decide +kernel, ?_⟩)))))
    exact fin _ _ (.cons (.int _ _) (.cons (.int _ _) .nil))
  | int i =>
    obtain ⟨t, rfl⟩ := ru
    have e0 : decide (Value.int i t = Value.none) = false := by simp
    simp only [e0, Bool.false_eq_true, if_false]
    refine wpAny_Tuple_spliced (Calls.spliced_cons (wpAny_Constant_int (k := j4) (pos := p7) (Calls.spliced_cons (ld _ _ _ _ p8 ⟨_, rfl⟩ (Calls.spliced_nil ⟨by show 2 ≤ sizeLine; decide +kernel, ?_⟩)))))
    exact fin _ _ (.cons (.int _ _) (.cons (.int _ _) .nil))
  | str i =>
    obtain ⟨t, rfl⟩ := ru
    have e0 : decide (Value.str i t = Value.none) = false := by simp
    simp only [e0, Bool.false_eq_true, if_false]
    refine wpAny_Tuple_spliced (Calls.spliced_cons (wpAny_Constant_int (k := j4) (pos := p7) (Calls.spliced_cons (ld _ _ _ _ p8 ⟨_, rfl⟩ (Calls.spliced_nil ⟨by show 2 ≤ sizeLine; decide +kernel, ?_⟩)))))
    exact fin _ _ (.cons (.int _ _) (.cons (.str _ _) .nil))
/-! ### the layer's rule -/
abbrev srtR (ds : List D) : List D := ds.mergeSort (dataLe false rkD)
abbrev srtRZ (zs : List (V × D)) : List (V × D) := zs.mergeSort (dataLe false fun z => rkD z.2)
theorem srtRZ_snd (zs : List (V × D)) : (srtRZ zs).map Prod.snd = srtR (zs.map Prod.snd) := PySem.W.sort_maps Prod.snd fun _ _ _ _ => rfl
def canKey (ds : List D) : Bool := (ds.all fun d => ds.all fun e => keyAl (rkD d) (rkD e)) && ds.all atomD
def rSortK (K : PySem.W.Frag) (f : Addr) : List V → List V → Hp → VK → Prop := fun vs ks H Q => ∃ (a : Addr) (zs : List (V × D)), vs = [V.ref a] ∧ ks = [V.ref f] ∧ SqL K H a (zs.map Prod.fst) ∧ (∀ z ∈ zs, AtomR z.1 z.2) ∧ canKey (zs.map Prod.snd) = true ∧
  ∀ p : Addr, H p = none → Q (.ref p) (upd H p (.lst ((srtRZ zs).map Prod.fst)))
theorem rk_depth {d : D} (h : atomD d = true) : (rkD d).depth ≤ 2 := by
  cases d <;> simp_all [atomD, rkD, PyData.depth, PyData.depthAll]
theorem rk_int {d : D} : intKey (rkD d) = true := by
  cases d <;> rfl
theorem rk_self {d : D} (h : atomD d = true) : alike (rkD d) (rkD d) = true := by
  cases d <;> simp_all [atomD, rkD, alike, PySem.W.alikeAll]
theorem AtomR.atom {v : V} {d : D} (h : AtomR v d) : atomD d = true := by cases h <;> rfl
section
variable {X : Cx}
theorem Inv.deep {pins : List (Addr × Obj)} {σ : L2.St} {H : Hp} {s : Shared} (I : Inv X pins σ H s) : X.K.In s.heap ∧ s.heap.NoLimit := ⟨I.kIn, I.nolimit⟩
theorem cr_sortK {x : Str} {f : Addr} (F : KeyFn X.prog X.w X.K X.mg x f) (hd : X.A.depth < recursionLimit) (hu : X.A.units + 64 < cLine) : CallRK X (.builtin "sorted") [Str.ofString "key"] (rSortK X.K f) := by
  intro pins s σ H vs ks us ws Q I r rz h
  obtain ⟨a, zs, rfl, rfl, hs, hat, hc, q⟩ := h
  obtain ⟨w1, rfl, e1⟩ := vals1 rz
  obtain rfl : w1 = Value.ref f := e1
  obtain ⟨its, rv, hl, hz⟩ := I.list hs
  rw [Vals.ref1 r]
  have hn : zs.length ≤ sizeLine := by
    rw [List.length_map] at hz
    exact hz
  unfold canKey at hc
  rw [Bool.and_eq_true, List.all_eq_true] at hc
  have memk : ∀ d ∈ zs.map (fun z => rkD z.2), ∃ z ∈ zs, d = rkD z.2 := fun d hd => by
    obtain ⟨z, hz, e⟩ := List.mem_map.mp hd
    exact ⟨z, hz, e.symm⟩
  refine sorted_lex (k := fun z : V × D => rkD z.2) hl.isList (each_rel rv) (fun d hd d' hd' => ?_) (fun d hd => ?_) (fun d hd => ?_) hn (fun d hd => ?_) (fun v z hv hz h' tk kp => ?_) fun out c h' tk kp hD hlo eo => ?_
  · obtain ⟨z, hz, rfl⟩ := memk d hd
    obtain ⟨z', hz', rfl⟩ := memk d' hd'
    exact List.all_eq_true.mp (hc.1 z.2 (List.mem_map_of_mem hz)) z'.2 (List.mem_map_of_mem hz')
  · obtain ⟨z, hz, rfl⟩ := memk d hd
    exact rk_int
  · obtain ⟨z, hz, rfl⟩ := memk d hd
    exact rk_self (hat z hz).atom
  · obtain ⟨z, hz, rfl⟩ := memk d hd
    have := rk_depth (hat z hz).atom
    omega
  · exact F.run _ _ _ z.1 v z.2 (I.kIn.keeps kp) (I.nolimit.keeps kp) hd (hat z hz) hv
  · have sz : ((srtRZ zs).map Prod.fst).length ≤ sizeLine := by
      rw [List.length_map, (List.mergeSort_perm zs _).length_eq]
      exact hn
    refine ⟨.ref (s.heap.objs.size + 1), upd H (s.heap.objs.size + 1) (.lst ((srtRZ zs).map Prod.fst)), ?_, rfl, q _ (I.hok.fresh (Nat.le_succ _))⟩
    exact I.laid (t' := tk) kp (Nat.le_succ _) ⟨sz, out, c, rel_each eo, hD⟩
theorem pe_glob {x : Str} {f : Addr} {p : Pos} (hg : Gl X x) (hm : X.mg x = some (.ref f)) (hd : (x == ("__debug__" : Str)) = false) : PE X (.Name x p) (tC (.ref f)) := ⟨fun pins s σ H Q I h => ld_glob I hg hm ⟨.ref f, H, I, rfl, h⟩ hd⟩
end
/-- sorted(xs, key=rank) -/
def dSortK : Op1 := fun x μ => match items x μ with
  | some bs => match allD bs with
    | some ds => if canKey ds = true then dList ((srtR ds).map .d) μ else .bad
    | none => .bad
  | none => .bad
theorem RpA_atoms {K : PySem.W.Frag} {I : Hp} {zs : List (V × D)} (h : ∀ z ∈ zs, AtomR z.1 z.2) : RpA K I (zs.map Prod.fst) (zs.map Prod.snd) := RpA_of_zip fun z m => (h z m).rp
section
variable {X : Cx} {G : GT} {W : WX} {e : Expr} {m : ME} {p p2 pos : Pos} {x : Str} {kp : Pos}
theorem de_sortK (hK : X.K = G.K) (F : KeyF X.prog X.w X.K X.mg x) (hd : X.A.depth < recursionLimit) (hu : X.A.units + 64 < cLine) (hg : Gl X "sorted") (hm : X.mg "sorted" = none) (hgx : Gl X x) (ha : DE X G W e m) (hdx : (x == ("__debug__" : Str)) = false := by decide)
    (hna : starEach [e] X.env = (false, eval e X.env) :: starEach [] X.env := by rfl)
    (he : backTo pos (starEach [e] X.env) = (false, eval e X.env) :: backTo pos (starEach [] X.env) := by rfl) (hpl : (backTo pos (starEach [e] X.env)).any (·.1) = false := by rfl)
    (hall : (backToKw pos (keywordEach [⟨some (Str.ofString "key"), .Name x p2, kp⟩] X.env)).all (·.1.isSome) = true := by rfl) (hnone : (backToKw pos (keywordEach [⟨some (Str.ofString "key"), .Name x p2, kp⟩] X.env)).any (·.1.isNone) = false := by rfl) (hks : (backToKw pos (keywordEach [⟨some (Str.ofString "key"), .Name x p2, kp⟩] X.env)).filterMap (·.1) = [Str.ofString "key"] := by rfl) :
    DE X G W (.Call (.Name "sorted" p) [e] [⟨some (Str.ofString "key"), .Name x p2, kp⟩] pos) (e1 dSortK m) := by
  obtain ⟨f, F⟩ := F
  refine PE.imp (pe_callBK (cr_sortK F hd hu) hg hm (by decide +kernel) (pa_cons ha pa_nil hna) (pk_cons (pe_glob hgx F.mg hdx) pk_nil) (by decide) (by decide) he hpl hall hnone hks) ?_
  rintro σ H Q ⟨w, μ, ρ, hl, hen, pp⟩
  refine tD.seq (k := fun ρ x μ => dSortK x μ) hl hen pp fun w1 μ1 H1 v b l1 lay1 en1 r1 p1 => ?_
  unfold dSortK at p1
  split at p1
  · rename_i bs e0
    split at p1
    · rename_i ds e2
      split at p1
      · rename_i c
        obtain ⟨a, vs, rfl, h1, h2⟩ := items_ok lay1 r1 e0
        rw [allD_eq e2] at h2
        have ra := RpA_of_Rvs h2
        obtain ⟨z1, z2, z3⟩ := RpA_zip ra
        have hatom : ∀ z ∈ vs.zip ds, AtomR z.1 z.2 := fun z hz => by
          refine atomR_of (z3 z hz) ?_
          have hc := c
          unfold canKey at hc
          rw [Bool.and_eq_true] at hc
          exact List.all_eq_true.mp hc.2 z.2 (by rw [← z2]; exact List.mem_map_of_mem hz)
        refine ⟨a, vs.zip ds, rfl, rfl, by rw [hK, z1]; exact h1, hatom, by rw [z2]; exact c, ?_⟩
        have hr : RpA G.K w1.I ((srtRZ (vs.zip ds)).map Prod.fst) ((srtRZ (vs.zip ds)).map Prod.snd) := RpA_of_zip fun z m => z3 z ((List.mergeSort_perm _ _).mem_iff.mp m)
        rw [srtRZ_snd, z2] at hr
        exact (list_new lay1 (Rvs_of_RpA hr) p1).2
      · exact p1.elim
    · exact p1.elim
  · exact p1.elim
end
end DL

/-! methods of tuples and of written dicts, strip(signs), [..] * k. -/
namespace DL
open PySem PySem.Spec PyProof.Rows L2
/-! ### a method of a thing whose object has no dict -/
def TyN (X : Cx) (T : String) (x : V) (H : Hp) : Prop := ∀ (pins : List (Addr × Obj)) (σ : L2.St) (s : Shared) (v : Value), Inv X pins σ H s → RelV x v → s.TypeIs v T ∧ ∀ a, v = .ref a → ∃ ob, s.heap.get? a = some ob ∧ ob.dict = none
def tBMN (X : Cx) (T : String) (r : V → List V → Hp → VK → Prop) (to : TE) (t : TA) : TE := fun σ H Q => to σ H fun x H1 => TyN X T x H1 ∧ t σ H1 fun vs H2 => r x vs H2 Q
section
variable {X : Cx} {o e : Expr} {es : List Expr} {to : TE} {t : TA} {pos apos cpos : Pos} {T id : String} {name : Str} {r : V → List V → Hp → VK → Prop}
theorem pe_bmN (pa : PlainAttrs T) (slot : Slot T name id) (hty : typeOf (.builtin id) = pure (.type "method_descriptor")) (hm : MtR X id r) (ho : PE X o to) (ha : PA X (e :: es) t)
    (hbase : attributeBase o name X.env (eval o X.env) = eval o X.env := by rfl)
    (hfew : ((backTo cpos (starEach (e :: es) X.env)).all (fun x => !x.1) && (backToKw cpos (keywordEach [] X.env)).all (fun x => x.1.isSome)
      && decide ((e :: es).length + ([] : List Keyword).length + (if ([] : List Keyword).isEmpty then 0 else 1) < 30)) = true := by rfl)
    (hline : (apos.endLine == cpos.line) = true := by rfl) (hs : starEach (e :: es) X.env = (false, eval e X.env) :: starEach es X.env := by rfl) (hplain : (backTo cpos (starEach es X.env)).any (·.1) = false := by rfl) :
    PE X (.Call (.Attribute o name apos) (e :: es) [] cpos) (tBMN X T r to t) := by
  refine ⟨fun pins s σ H Q I h => ?_⟩
  refine wpAny_Call_method_late hbase hfew hline rfl (thn (ho.run pins s σ H _ I h) fun v s1 ⟨x, H1, I1, r1, ty, q1⟩ => ?_)
  obtain ⟨h1, h2⟩ := ty pins σ s1 v I1 r1
  refine ⟨T, id, pa, slot, hty, h1, h2, ?_⟩
  have hA := ha.run cpos pins s1 σ H1 _ I1 q1
  rw [hs] at hA ⊢
  refine Calls.callWith_builtin (by show (false || (backTo cpos (starEach es X.env)).any (·.1)) = false; rw [hplain] <;> rfl) (Calls.evalArgs_plain ?_)
  exact thn hA fun us s2 ⟨vs, H2, I2, r2, q2⟩ => hm pins s2 σ H2 x vs v us Q I2 r1 r2 q2
/-! ### t.count(x) of texts -/
theorem tyN_tup {a : Addr} {xs : List V} {H : Hp} (h : SqS X.K H a xs) : TyN X "tuple" (.ref a) H := by
  intro pins σ s v I r
  cases r
  rcases h with ⟨o, e, d⟩ | ⟨o, its, n, h1, h2, h3, _⟩
  · obtain ⟨g, z, its, _, o', g', c, _⟩ := (show ObjOk X.prog X.w H s.heap a (.frz o (.tup xs)) from I.hok a _ e)
    rw [g] at g'
    cases g'
    exact ⟨⟨o, g, c⟩, fun b q => by cases q; exact ⟨o, g, d⟩⟩
  · have g := I.kIn a o h1
    exact ⟨⟨o, g, h2⟩, fun b q => by cases q; exact ⟨o, g, h3⟩⟩
theorem plain_strs : ∀ {ds : List D}, allStr ds = true → PyData.plainAll ds = true ∧ nodicts ds = true ∧ PyData.depthAll ds = 0
  | [], _ => ⟨rfl, rfl, rfl⟩
  | .str _ :: ds, h => by
    obtain ⟨h1, h2, h3⟩ := plain_strs (ds := ds) h
    exact ⟨by simp [PyData.plainAll, PyData.plain, h1], by simp [nodicts, nodict, h2], by simp [PyData.depthAll, PyData.depth, h3]⟩
  | .none :: _, h => by cases h
  | .bool _ :: _, h => by cases h
  | .int _ :: _, h => by cases h
  | .list _ :: _, h => by cases h
  | .tuple _ :: _, h => by cases h
  | .dict _ :: _, h => by cases h
def rTCount (K : PySem.W.Frag) : V → List V → Hp → VK → Prop := fun x ys H Q => ∃ a xs ds z, x = .ref a ∧ ys = [.str z] ∧ SqT K H a xs ∧ RpA K H xs ds ∧ allStr ds = true ∧ Q (.int (ds.countP fun y => PyData.eqv y (.str z) : Nat)) H
theorem mt_tcount (hu : X.A.units + 64 < cLine) : MtR X "tuple.count" (rTCount X.K) := by
  intro pins s σ H x ys v us Q I rx ry h
  obtain ⟨a, xs, ds, z, rfl, rfl, hs, ra, hst, q⟩ := h
  cases rx
  obtain ⟨u, rfl, ru⟩ := vals1 ry
  obtain ⟨t, rfl⟩ := ru
  obtain ⟨its, rv, pl, hz⟩ := I.tuple hs
  obtain ⟨p1, p2, p3⟩ := plain_strs hst
  obtain ⟨as, rd⟩ := Dp.readsAll I ds xs its (RpA.dp ds xs p2 ra) rv
  exact PySem.SeqAt.count_tuple_data (xs := ds) (d := .str z) pl (by simpa using rd) (.str z t) p1 rfl (by rw [p3]; simp; omega) ⟨.int _, H, I.tok _, ⟨_, rfl⟩, q⟩
end
def dTCount (ds : List D) : Dv → Store → Out Dv := fun y μ => match y with
  | .d (.str z) => if allStr ds = true then .ok (.d (.int (ds.countP fun y => PyData.eqv y (.str z) : Nat))) μ else .bad
  | _ => .bad
def cntB (me : ME) (ρ : DEnv) (x : Dv) (μ : Store) : Out Dv := match x with
  | .d (.tuple ds) => (me ρ μ).bind fun y μ => dTCount ds y μ
  | _ => .bad
def eCnt (mo me : ME) : ME := fun ρ μ => (mo ρ μ).bind fun x μ => cntB me ρ x μ
section
variable {X : Cx} {G : GT} {W : WX} {o e : Expr} {mo me : ME} {pos apos cpos : Pos}
theorem de_tcount (hK : X.K = G.K) (hu : X.A.units + 64 < cLine) (ho : DE X G W o mo) (ha : DE X G W e me)
    (hbase : attributeBase o "count" X.env (eval o X.env) = eval o X.env := by rfl)
    (hfew : ((backTo cpos (starEach [e] X.env)).all (fun x => !x.1) && (backToKw cpos (keywordEach [] X.env)).all (fun x => x.1.isSome)
      && decide (([e] : List Expr).length + ([] : List Keyword).length + (if ([] : List Keyword).isEmpty then 0 else 1) < 30)) = true := by rfl)
    (hline : (apos.endLine == cpos.line) = true := by rfl) (hs : starEach [e] X.env = (false, eval e X.env) :: starEach [] X.env := by rfl) (hplain : (backTo cpos (starEach [] X.env)).any (·.1) = false := by rfl) :
    DE X G W (.Call (.Attribute o "count" apos) [e] [] cpos) (eCnt mo me) := by
  refine PE.imp (pe_bmN PySem.F.plainAttrs_tuple PySem.F.slot_tuple_count PySem.F.type_tuple_count (mt_tcount hu) ho (pa_cons ha pa_nil hs) hbase hfew hline hs hplain) ?_
  rintro σ H Q ⟨w, μ, ρ, hl, he, p⟩
  refine tD.seq (k := fun ρ x μ => cntB me ρ x μ) hl he p fun w1 μ1 H1 v b l1 lay1 en1 r1 p1 => ?_
  unfold cntB at p1
  split at p1
  · rename_i ds
    obtain ⟨a, xs, rfl, h1, h2⟩ := rv_tupS r1
    refine ⟨tyN_tup (by rw [hK]; exact seqS lay1.same h1), ?_⟩
    refine tD.seq (k := fun ρ y μ => dTCount ds y μ) lay1 en1 p1 fun w2 μ2 H2 u c l2 lay2 en2 r2 p2 => ?_
    unfold dTCount at p2
    split at p2
    · rename_i z
      split at p2
      · rename_i hst
        exact ⟨a, xs, ds, z, rfl, by rw [rv_str r2], by rw [hK]; exact (seqS (Same.trans l2.1 lay2.same) h1).t, by rw [hK]; exact RpA.mono (Same.trans l2.1 lay2.same) _ _ h2, hst, p2 w2 _ H2 w2.le_refl lay2 (.int _)⟩
      · exact p2.elim
    · exact p2.elim
  · exact p1.elim
end
/-! ### x.strip(signs) -/
def dStripC : Dv → OpN := m1 fun a b μ => match b with
  | .d (.str b) => if a.length ≤ sizeLine then .ok (.d (.str (Txt.stripChars a b))) μ else .bad
  | _ => .bad
theorem ok_stripC {G : GT} : OkM G (fun x xs H Q => ∃ a b, x = .str a ∧ xs = [.str b] ∧ a.length ≤ sizeLine ∧ Q (.str (Txt.stripChars a b)) H) dStripC := by
  apply ok_m1
  intro W σ w μ H a y b Q l r p
  split at p
  · split at p
    · rename_i h
      rw [rv_str r]
      exact ⟨a, _, rfl, rfl, h, p w _ H w.le_refl l (.str _)⟩
    · exact p.elim
  · exact p.elim
/-! ### [..] * k -/
def dRep (k : Nat) : OpN := fun bs μ => dList (List.replicate k bs).flatten μ
theorem Rvs_rep {G : GT} {w : Wd} {vs : List V} {bs : List Dv} (r : Rvs G w vs bs) : ∀ k : Nat, Rvs G w (List.replicate k vs).flatten (List.replicate k bs).flatten
  | 0 => .nil
  | k + 1 => by
    rw [List.replicate_succ, List.replicate_succ, List.flatten_cons, List.flatten_cons]
    exact Rvs_app r (Rvs_rep r k)
section
variable {X : Cx} {G : GT} {W : WX} {es : List Expr} {mas : MA} {pos p1 p2 : Pos} {j : Nat}
theorem de_rep (k : Nat) (h1 : 1 ≤ k) (hk : k ≤ 1000) (ha : DA X G W es mas) : DE X G W (.BinOp (.List es p1) .Mult (.Constant (.int k) j p2) pos) (eN (dRep k) mas) := by
  refine PE.imp (pe_op op_rep (pe_lst ha) (pe_int (i := (k : Int)))) ?_
  rintro σ H Q ⟨w, μ, ρ, hl, he, p⟩
  refine tD.seq (k := fun ρ xs μ => dRep k xs μ) hl he p fun w1 μ1 H1 vs bs l1 lay1 en1 r1 p1 => ?_
  have hz0 : (List.replicate k vs).flatten.length ≤ sizeLine := by
    unfold dRep dList at p1
    cases q : allD (List.replicate k bs).flatten with
    | none => rw [q] at p1; exact p1.elim
    | some ds =>
      rw [q] at p1
      have p1 : Pst G W σ (Rv G) w1 (if ds.length ≤ sizeLine then .ok (.d (.list ds)) μ1 else .bad) Q := p1
      by_cases z : ds.length ≤ sizeLine
      · have e1 := Paired.length (Rvs_rep r1 k)
        have e2 := congrArg List.length (allD_eq q)
        rw [List.length_map] at e2
        omega
      · rw [if_neg z] at p1; exact p1.elim
  have hz : vs.length * k ≤ sizeLine := by
    rw [PyProof.Rows.lm_len_rep_flat, Nat.mul_comm] at hz0
    exact hz0
  have hv : vs.length ≤ vs.length * k := Nat.le_mul_of_pos_right _ h1
  refine ⟨Nat.le_trans hv hz, fun a na => ?_⟩
  obtain ⟨n1, n2, n3⟩ := lay1.na na
  have lay2 := lay1.other n1 n2 n3 (.lst vs)
  refine ⟨a, (k : Int), vs, rfl, rfl, upd_same, by omega, by omega, by simpa using hz, ?_⟩
  exact (list_new lay2 (Rvs_rep r1 k) p1).2
end
/-! ### a written dict's get -/
def lkS (tbl : List (Str × Int)) (z : Str) : Option Int := match tbl with
  | [] => none
  | p :: r => if p.1 == z then some p.2 else lkS r z
def optV : Option Int → V
  | some i => .int i
  | none => .non
def optD : Option Int → D
  | some i => .int i
  | none => .none
abbrev TabE : List DictEntry → List (Str × Int) → Prop := Paired fun e p => ∃ t u, e.key = Value.str p.1 t ∧ e.val = Value.int p.2 u
structure KTab (K : PySem.W.Frag) (w : World) (a : Addr) (tbl : List (Str × Int)) : Prop where
  ex : ∃ es n, K.lookup a = some ⟨.type "dict", none, .dict es n, #[]⟩ ∧ PySem.W.KeysLit w.params es.toList ∧ (a == sysModules) = false ∧ TabE es.toList tbl
theorem find_tab {es : List DictEntry} {tbl : List (Str × Int)} (h : TabE es tbl) (z : Str) : RelV (optV (lkS tbl z)) (((es.find? (·.key.isStr z)).map (·.val)).getD .none) ∧ es.any (·.refKey) = false := by
  induction h with
  | nil => exact ⟨rfl, rfl⟩
  | @cons e p es tbl r t ih =>
    obtain ⟨t1, u1, hk, hv⟩ := r
    have hr : e.refKey = false := by unfold DictEntry.refKey; rw [hk]
    refine ⟨?_, by rw [List.any_cons, hr, ih.2]; rfl⟩
    rw [List.find?_cons, hk]
    show RelV (optV (if (p.1 == z) = true then some p.2 else lkS tbl z)) _
    show RelV _ ((Option.map _ (match (p.1 == z) with | true => some e | false => es.find? _)).getD .none)
    cases q : p.1 == z with
    | true => exact ⟨u1, by simpa using hv⟩
    | false => exact ih.1
def rKGet (K : PySem.W.Frag) (w : World) (tbl : List (Str × Int)) : V → List V → Hp → VK → Prop := fun x ys H Q => ∃ a z, x = .ref a ∧ ys = [.str z] ∧ KTab K w a tbl ∧ Q (optV (lkS tbl z)) H
section
variable {X : Cx} {tbl : List (Str × Int)}
theorem mt_kget : MtR X "dict.get" (rKGet X.K X.w tbl) := by
  intro pins s σ H x ys v us Q I rx ry h
  obtain ⟨a, z, rfl, rfl, ⟨es, n, lk, hk, hs, ht⟩, q⟩ := h
  cases rx
  obtain ⟨u, rfl, ru⟩ := vals1 ry
  obtain ⟨t, rfl⟩ := ru
  have hm := PySem.W.mapOf_K (prog := X.prog) (w := X.w) I.kIn lk hk
  obtain ⟨f1, f2⟩ := find_tab ht z
  have hn : PySem.W.nsIn X.K a z = some ((es.toList.find? (·.key.isStr z)).map (·.val)) := by
    unfold PySem.W.nsIn
    rw [lk]
    dsimp only
    cases q : es.toList.find? (·.key.isStr z) with
    | some e => rfl
    | none => rw [f2]; rfl
  refine call_meetsIn PySem.F.slot_dict_get hm.typeIs PySem.F.entry_dict_get (PySem.F.args_dict_get_2 _ _) (meets_dict_get (strKind X.prog X.w) a (strKind_is X.prog X.w z t) hs) ⟨_, hm, optV (lkS tbl z), H, I.tok _, ?_, q⟩
  rw [PySem.W.find_K lk hn]
  exact f1
theorem tyN_kdict {a : Addr} {H : Hp} (h : KTab X.K X.w a tbl) : TyN X "dict" (.ref a) H := by
  obtain ⟨es, n, lk, _⟩ := h
  intro pins σ s v I r
  cases r
  have g := I.kIn a _ lk
  exact ⟨⟨_, g, rfl⟩, fun b q => by cases q; exact ⟨_, g, rfl⟩⟩
end
def dKGet (tbl : List (Str × Int)) : Op1 := fun x μ => match x with
  | .d (.str z) => .ok (.d (optD (lkS tbl z))) μ
  | _ => .bad
section
variable {X : Cx} {G : GT} {W : WX} {e : Expr} {me : ME} {pos p apos cpos : Pos} {x : Str} {tbl : List (Str × Int)}
theorem de_kget (hT : ∃ a, X.mg x = some (.ref a) ∧ KTab X.K X.w a tbl) (hg : Gl X x) (ha : DE X G W e me) (hdx : (x == ("__debug__" : Str)) = false := by decide)
    (hbase : attributeBase (.Name x p) "get" X.env (eval (.Name x p) X.env) = eval (.Name x p) X.env := by rfl)
    (hfew : ((backTo cpos (starEach [e] X.env)).all (fun x => !x.1) && (backToKw cpos (keywordEach [] X.env)).all (fun x => x.1.isSome)
      && decide (([e] : List Expr).length + ([] : List Keyword).length + (if ([] : List Keyword).isEmpty then 0 else 1) < 30)) = true := by rfl)
    (hline : (apos.endLine == cpos.line) = true := by rfl) (hs : starEach [e] X.env = (false, eval e X.env) :: starEach [] X.env := by rfl) (hplain : (backTo cpos (starEach [] X.env)).any (·.1) = false := by rfl) :
    DE X G W (.Call (.Attribute (.Name x p) "get" apos) [e] [] cpos) (e1 (dKGet tbl) me) := by
  obtain ⟨a, hm, kt⟩ := hT
  refine PE.imp (pe_bmN PySem.F.plainAttrs_dict PySem.F.slot_dict_get PySem.F.type_dict_get (mt_kget (tbl := tbl)) (pe_glob hg hm hdx) (pa_cons ha pa_nil hs) hbase hfew hline hs hplain) ?_
  rintro σ H Q ⟨w, μ, ρ, hl, he, p⟩
  refine ⟨tyN_kdict kt, ?_⟩
  refine tD.seq (k := fun ρ y μ => dKGet tbl y μ) hl he p fun w2 μ2 H2 u c l2 lay2 en2 r2 p2 => ?_
  unfold dKGet at p2
  split at p2
  · rename_i z
    refine ⟨a, z, rfl, by rw [rv_str r2], kt, p2 w2 _ H2 w2.le_refl lay2 ?_⟩
    cases lkS tbl z with
    | none => exact .non
    | some i => exact .int i
  · exact p2.elim
end
end DL

/-! len(set(x)), x a tuple. -/
namespace DL
open PySem PySem.Spec PyProof.Rows L2 PySem.Froz
def tLenSetT (K : PySem.W.Frag) (ta : TE) : TE := fun σ H Q => ta σ H fun x H1 => ∃ (l : Addr) (ks : List Key), x = .ref l ∧ SqT K H1 l (ks.map kV) ∧ ks.length ≤ 1000 ∧ Q (.int (ddK ks).length) H1
section
variable {X : Cx} {a : Expr} {ta : TE} {p p2 q pos : Pos}
theorem pe_lenSetT (hg : Gl X "len") (hm : X.mg "len" = none) (hg2 : Gl X "set") (hm2 : X.mg "set" = none) (ha : PE X a ta) (hc : X.calm = true := by rfl) (na : starEach [a] X.env = (false, eval a X.env) :: starEach [] X.env := by rfl) :
    PE X (.Call (.Name "len" p) [.Call (.Name "set" p2) [a] [] q] [] pos) (tLenSetT X.K ta) := by
  constructor
  intro pins s σ H Q I h
  apply Call_ (ld_blt I hg hm boot_len _)
  apply PyProof.Rows.callWith_builtin1 (PyProof.Rows.args_cons _ rfl) rfl rfl
  apply Call_ (ld_blt I hg2 hm2 boot_set _)
  refine PyProof.Rows.callWith_type1 (PyProof.Rows.args_cons (thn (ha.run pins s σ H _ I h) fun v s1 ⟨x, H1, I1, r1, q1⟩ => PyProof.Rows.args_nil ?_) na) na rfl
  obtain ⟨l, ks, rfl, hq, few, fin⟩ := q1
  cases r1
  obtain ⟨its, r, pl, _⟩ := I1.tuple hq
  obtain ⟨z1, z2⟩ := kids r
  refine DL.DL.set_of_tuple (I1.ok.hd hc) pl z2 z1 (by unfold scanBound; omega) fun h' tk D o F kp => ?_
  apply PyProof.Rows.args_nil
  have d3 := (ddK_facts ks).2.2
  have sz := F.size
  have I2 : Inv X pins σ H1 { s1 with heap := h', toks := tk } := I1.kept kp
  refine call_len_set o ⟨rfl, rfl, rfl⟩ rfl F.fit (by rw [sz]; omega) ?_
  exact ⟨.int (ddK ks).length, H1, I2.tok _, ⟨_, by rw [sz]⟩, fin⟩
end
def dLenSetT : Op1 := fun x μ => match itemsT x with
  | some bs => match allD bs with
    | some ds => match keysD ds with
      | some ks => if ks.length ≤ 1000 then .ok (.d (.int (ddK ks).length)) μ else .bad
      | none => .bad
    | none => .bad
  | none => .bad
theorem itemsT_keys {G : GT} {w : Wd} {v : V} {μ : Store} {H : Hp} {b : Dv} {bs : List Dv} {ds : List D} {ks : List Key} (l : Lay G w μ H) (r : Rv G w v b) (e1 : itemsT b = some bs) (e2 : allD bs = some ds) (e3 : keysD ds = some ks) : ∃ c, v = .ref c ∧ SqT G.K H c (ks.map kV) := by
  unfold itemsT at e1
  split at e1
  · cases e1
    obtain ⟨c, vs, rfl, h1, h2⟩ := rv_tup r
    have h2 := Rvs_of_RpA (G := G) h2
    rw [allD_eq e2, keysD_map e3] at h2
    rw [RpA_keys (RpA_of_Rvs h2)] at h1
    exact ⟨c, rfl, seqT l.same h1⟩
  · cases e1
section
variable {X : Cx} {G : GT} {W : WX} {a : Expr} {m : ME} {p p2 q pos : Pos}
theorem de_lenSetT (hK : X.K = G.K) (hg : Gl X "len") (hm : X.mg "len" = none) (hg2 : Gl X "set") (hm2 : X.mg "set" = none) (ha : DE X G W a m) (hc : X.calm = true := by rfl) (na : starEach [a] X.env = (false, eval a X.env) :: starEach [] X.env := by rfl) :
    DE X G W (.Call (.Name "len" p) [.Call (.Name "set" p2) [a] [] q] [] pos) (e1 dLenSetT m) := by
  refine PE.imp (pe_lenSetT hg hm hg2 hm2 ha hc na) ?_
  rintro σ H Q ⟨w, μ, ρ, hl, he, pp⟩
  refine tD.seq (k := fun ρ x μ => dLenSetT x μ) hl he pp fun w1 μ1 H1 v b l1 lay1 en1 r1 p1 => ?_
  unfold dLenSetT at p1
  split at p1
  · rename_i bs e1
    split at p1
    · rename_i ds e2
      split at p1
      · rename_i ks e3
        split at p1
        · rename_i c
          obtain ⟨n, rfl, h1⟩ := itemsT_keys lay1 r1 e1 e2 e3
          exact ⟨n, ks, rfl, by rw [hK]; exact h1, c, p1 w1 _ H1 w1.le_refl lay1 (.int _)⟩
        · exact p1.elim
      · exact p1.elim
    · exact p1.elim
  · exact p1.elim
end
end DL

/-! Running the data forms towards what is wanted behind them. -/
namespace DL
open PySem PySem.Spec PyProof.Rows L2
inductive Wp {β : Type} : Out β → (β → Store → Prop) → Prop
  | mk {b : β} {μ : Store} {P : β → Store → Prop} : P b μ → Wp (.ok b μ) P
section
variable {β γ : Type} {o o' : Out β} {P Q : β → Store → Prop} {k : β → Store → Out γ} {R : γ → Store → Prop} {b : β} {μ : Store}
@[simp] theorem Wp_ok : Wp (.ok b μ) P = P b μ := propext ⟨fun h => by cases h; assumption, .mk⟩
theorem Wp_bad : Wp (.bad : Out β) P = False := propext ⟨(fun h => nomatch h), False.elim⟩
theorem Wp_ex {e : Ex} : Wp (.ex e μ : Out β) P = False := propext ⟨(fun h => nomatch h), False.elim⟩
theorem Wp_bind : Wp (o.bind k) R = Wp o fun b μ => Wp (k b μ) R := by
  cases o with
  | ok b μ => rw [Wp_ok]; rfl
  | ex e μ => show Wp (.ex e μ) R = _; rw [Wp_ex, Wp_ex]
  | bad => show Wp .bad R = _; rw [Wp_bad, Wp_bad]
theorem Wp_gb : Wp (o.gb k) R = Wp o fun b μ => Wp (k b μ) R := by
  cases o with
  | ok b μ => rw [Wp_ok]; rfl
  | ex e μ => show Wp .bad R = _; rw [Wp_ex, Wp_bad]
  | bad => show Wp .bad R = _; rw [Wp_bad, Wp_bad]
def finP (P : Dv → Store → Prop) : Fl → Store → Prop := fun f μ => match f with
  | .nx _ => P (.d .none) μ
  | .rt b => P b μ
  | _ => False
@[simp ↓] theorem Wp_finB {o : Out Fl} {P : Dv → Store → Prop} : Wp (finB o) P = Wp o (finP P) := by
  cases o with
  | ok f μ =>
    rw [Wp_ok]
    cases f with
    | nx ρ => exact Wp_ok
    | rt b => exact Wp_ok
    | bk ρ => exact Wp_bad
    | ct ρ => exact Wp_bad
  | ex e μ => show Wp (.ex e μ) P = _; rw [Wp_ex, Wp_ex]
  | bad => show Wp .bad P = _; rw [Wp_bad, Wp_bad]
@[simp] theorem finP_rt {P : Dv → Store → Prop} {b : Dv} : finP P (.rt b) μ = P b μ := id rfl
@[simp] theorem finP_nx {P : Dv → Store → Prop} {ρ : DEnv} : finP P (.nx ρ) μ = P (.d .none) μ := id rfl
theorem Wp_if {c : Prop} [Decidable c] {x y : Out β} (h1 : c → Wp x P) (h2 : ¬ c → Wp y P) : Wp (if c then x else y) P := by
  split
  · exact h1 ‹_›
  · exact h2 ‹_›
theorem Wp_mono (w : Wp o P) (h : ∀ b μ, P b μ → Q b μ) : Wp o Q := by
  cases w with
  | mk p => exact .mk (h _ _ p)
theorem Wp_of (h : Wp o P) : ∃ b μ, o = .ok b μ ∧ P b μ := by
  cases h with
  | mk p => exact ⟨_, _, rfl, p⟩
theorem Wp_eq (e : o = .ok b μ) (h : P b μ) : Wp o P := by rw [e]; exact .mk h
end
@[simp] theorem dList_a {bs : List Dv} {μ : Store} (h : (allD bs).isSome = true) (n : bs.length ≤ 16000000) : dList bs μ = .ok (.d (.list ((allD bs).getD []))) μ := by
  obtain ⟨ds, e⟩ := Option.isSome_iff_exists.mp h
  have := allD_eq e
  subst this
  rw [List.length_map] at n
  rw [dList_d (Nat.le_trans n line_big), e]
  rfl
@[simp] theorem dTup_a {bs : List Dv} {μ : Store} (h : (allD bs).isSome = true) (n : bs.length ≤ 16000000) : dTup bs μ = .ok (.d (.tuple ((allD bs).getD []))) μ := by
  obtain ⟨ds, e⟩ := Option.isSome_iff_exists.mp h
  have := allD_eq e
  subst this
  rw [List.length_map] at n
  rw [dTup_d (Nat.le_trans n line_big), e]
  rfl
theorem dList_map {ds : List D} {μ : Store} (n : ds.length ≤ 16000000) : dList (ds.map .d) μ = .ok (.d (.list ds)) μ := dList_d (Nat.le_trans n line_big)
theorem cDiv_of {x k : Int} (h : 0 < k) (h2 : k < 2 ^ 100) : cDiv x k = true := by
  unfold cDiv
  rw [decide_eq_true h, Bool.true_and]
  exact decide_eq_true (by have := log2_lt (i := k) (n := 100) (by omega) (by decide); omega)
theorem okR_of {i : Int} (h : -1000000000 ≤ i) (h2 : i ≤ 1000000000) : okR i = true := by
  unfold okR
  rw [decide_eq_true (by omega), decide_eq_true (by omega)]
  rfl
theorem Wp_run {n : Nat} {B : MS} {bs : List Dv} {μ : Store} {P : Dv → Store → Prop} (h : Wp (B (bs.map some ++ List.replicate (n - bs.length) none) μ) (finP P)) : Wp (runB n B bs μ) P := by
  rw [runB_eq, Wp_finB]
  exact h
/-! ### comprehensions by an invariant -/
theorem Wp_lcM {g : MG} {tt : MT} {te : ME} {ρ : DEnv} (I : Nat → Store → Prop) (R : Dv → Prop) : ∀ {bs : List Dv} {i : Nat} {μ : Store} {P : List Dv → Store → Prop}, I i μ →
    (∀ j b μ, bs[j]? = some b → I (i + j) μ → Wp (g b ρ μ) fun ρ' μ1 => Wp (tt ρ' μ1) fun k μ2 => (k = true → Wp (te ρ' μ2) fun y μ3 => R y ∧ I (i + j + 1) μ3) ∧ (k = false → I (i + j + 1) μ2)) →
    (∀ ys μ', ys.length ≤ bs.length → (∀ y ∈ ys, R y) → I (i + bs.length) μ' → P ys μ') → Wp (lcM g tt te ρ bs μ) P
  | [], i, μ, P, h0, _, fin => .mk (fin [] μ (Nat.le_refl _) (fun y h => by cases h) h0)
  | b :: bs, i, μ, P, h0, step, fin => by
    have rest : ∀ μ4 (Z : List Dv → Store → Prop), I (i + 1) μ4 → (∀ ys μ', ys.length ≤ bs.length → (∀ y ∈ ys, R y) → I (i + (bs.length + 1)) μ' → Z ys μ') → Wp (lcM g tt te ρ bs μ4) Z := fun μ4 Z i4 z => by
      refine Wp_lcM I R (bs := bs) (i := i + 1) i4 (fun j c μ5 hj hi => ?_) fun ys μ' l1 l2 l3 => z ys μ' l1 l2 (by rw [show i + (bs.length + 1) = i + 1 + bs.length by omega]; exact l3)
      have := step (j + 1) c μ5 (by simpa using hj) (by rw [show i + (j + 1) = i + 1 + j by omega]; exact hi)
      rw [show i + (j + 1) + 1 = i + 1 + j + 1 by omega] at this
      exact this
    unfold lcM
    rw [Wp_gb]
    refine Wp_mono (step 0 b μ rfl h0) fun ρ' μ1 w1 => ?_
    rw [Wp_gb]
    refine Wp_mono w1 fun t μ2 w2 => ?_
    cases t with
    | true =>
      rw [if_pos rfl, Wp_gb]
      refine Wp_mono (w2.1 rfl) fun y μ3 w3 => ?_
      rw [Wp_gb]
      refine rest μ3 _ w3.2 fun ys μ' l1 l2 l3 => .mk ?_
      refine fin (y :: ys) μ' (Nat.succ_le_succ l1) (fun x hx => ?_) l3
      rcases List.mem_cons.mp hx with e | hx
      · rw [e]; exact w3.1
      · exact l2 x hx
    | false =>
      rw [if_neg (by decide)]
      exact rest μ2 _ (w2.2 rfl) fun ys μ' l1 l2 l3 => fin ys μ' (Nat.le_succ_of_le l1) l2 l3
/-- a comprehension without a test, how many its items are -/
theorem Wp_lcM_y {g : MG} {te : ME} {ρ : DEnv} (I : Nat → Store → Prop) (R : Dv → Prop) : ∀ {bs : List Dv} {i : Nat} {μ : Store} {P : List Dv → Store → Prop}, I i μ →
    (∀ j b μ, bs[j]? = some b → I (i + j) μ → Wp (g b ρ μ) fun ρ' μ1 => Wp (te ρ' μ1) fun y μ3 => R y ∧ I (i + j + 1) μ3) →
    (∀ ys μ', ys.length = bs.length → (∀ y ∈ ys, R y) → I (i + bs.length) μ' → P ys μ') → Wp (lcM g tYesM te ρ bs μ) P
  | [], i, μ, P, h0, _, fin => .mk (fin [] μ rfl (fun y h => by cases h) h0)
  | b :: bs, i, μ, P, h0, step, fin => by
    unfold lcM
    rw [Wp_gb]
    refine Wp_mono (step 0 b μ rfl h0) fun ρ' μ1 w1 => ?_
    rw [Wp_gb]
    show Wp (.ok true μ1) _
    rw [Wp_ok, if_pos rfl, Wp_gb]
    refine Wp_mono w1 fun y μ3 w3 => ?_
    rw [Wp_gb]
    refine Wp_lcM_y I R (bs := bs) (i := i + 1) w3.2 (fun j c μ5 hj hi => ?_) fun ys μ' l1 l2 l3 => .mk ?_
    · have := step (j + 1) c μ5 (by simpa using hj) (by rw [show i + (j + 1) = i + 1 + j by omega]; exact hi)
      rw [show i + (j + 1) + 1 = i + 1 + j + 1 by omega] at this
      exact this
    · refine fin (y :: ys) μ' (congrArg Nat.succ l1) (fun x hx => ?_) (by rw [List.length_cons, show i + (bs.length + 1) = i + 1 + bs.length by omega]; exact l3)
      rcases List.mem_cons.mp hx with e | hx
      · rw [e]; exact w3.1
      · exact l2 x hx
theorem Wp_lcF {fin : OpN} {g : MG} {tt : MT} {te : ME} {vs : List Nat} {ρ : DEnv} {bs : List Dv} {μ : Store} {P : Dv → Store → Prop} (hb : bs.length ≤ 16000000) (h : Wp (lcM g tt te (wipeD ρ vs) bs μ) fun ys μ' => Wp (fin ys μ') P) : Wp (lcF fin g tt te vs ρ bs μ) P := by
  unfold lcF
  rw [if_pos (Nat.le_trans hb line_big), Wp_gb]
  exact h
/-- .. over a cell that is not changed -/
theorem Wp_lcC {g : MG} {tt : MT} {te : ME} {ρ : DEnv} {n : Nat} {xs : List Dv} (R : Dv → Prop) : ∀ {k i : Nat} {μ : Store} {P : List Dv → Store → Prop}, μ[n]? = some (.lst xs) → xs.length - i < k →
    (∀ (j : Nat) (b : Dv), xs[j]? = some b → Wp (g b ρ μ) fun ρ' μ1 => Wp (tt ρ' μ1) fun t μ2 => μ2 = μ ∧ (t = true → Wp (te ρ' μ2) fun y μ3 => R y ∧ μ3 = μ)) →
    (∀ ys, ys.length ≤ xs.length - i → (∀ y ∈ ys, R y) → P ys μ) → Wp (lcC g tt te ρ n k i μ) P
  | 0, i, μ, P, _, h, _, _ => by omega
  | k + 1, i, μ, P, e, h, step, fin => by
    unfold lcC
    simp only [e]
    by_cases hi : i < xs.length
    · have ei : xs[i]? = some xs[i] := by simp [hi]
      simp only [ei]
      rw [Wp_gb]
      refine Wp_mono (step i _ ei) fun ρ' μ1 w1 => ?_
      rw [Wp_gb]
      refine Wp_mono w1 fun t μ2 w2 => ?_
      obtain ⟨rfl, w2⟩ := w2
      cases t with
      | true =>
        rw [if_pos rfl, Wp_gb]
        refine Wp_mono (w2 rfl) fun y μ3 w3 => ?_
        obtain ⟨hy, rfl⟩ := w3
        rw [Wp_gb]
        refine Wp_lcC R (k := k) (i := i + 1) e (by omega) step fun ys l1 l2 => .mk ?_
        refine fin (y :: ys) (by rw [List.length_cons]; omega) fun x hx => ?_
        rcases List.mem_cons.mp hx with e | hx
        · rw [e]; exact hy
        · exact l2 x hx
      | false =>
        rw [if_neg (by decide)]
        exact Wp_lcC R (k := k) (i := i + 1) e (by omega) step fun ys l1 l2 => fin ys (by omega) l2
    · have ei : xs[i]? = none := by simp; omega
      simp only [ei]
      exact .mk (fin [] (by simp) (fun y h => by cases h))
theorem Wp_lcCb {fin : OpN} {g : MG} {tt : MT} {te : ME} {vs : List Nat} {k n : Nat} {ρ : DEnv} {μ : Store} {P : Dv → Store → Prop} (hk : k ≤ 16000000) (h : Wp (lcC g tt te (wipeD ρ vs) n k 0 μ) fun ys μ' => Wp (fin ys μ') P) : Wp (lcCb fin g tt te vs k ρ (.c n) μ) P := by
  show Wp (if k ≤ sizeLine then _ else _) P
  rw [if_pos (Nat.le_trans hk line_big), Wp_gb]
  exact h
theorem eLcC_r {fin : OpN} {mo : ME} {g : MG} {tt : MT} {te : ME} {vs : List Nat} {k : Nat} {ρ : DEnv} {μ : Store} : eLcC fin mo g tt te vs k ρ μ = (mo ρ μ).bind fun b μ => lcCb fin g tt te vs k ρ b μ := id rfl
/-! ### fors by an invariant: a turn goes on, or gives what is wanted of the whole -/
def forP (I : DEnv → Store → Prop) (P : Fl → Store → Prop) : Fl → Store → Prop := fun f μ => match f with
  | .nx ρ => I ρ μ
  | .ct ρ => I ρ μ
  | .bk ρ => P (.nx ρ) μ
  | .rt v => P (.rt v) μ
theorem Wp_forL {g : MG} {mb : MS} (I : Nat → DEnv → Store → Prop) : ∀ {bs : List Dv} {i : Nat} {ρ : DEnv} {μ : Store} {P : Fl → Store → Prop}, I i ρ μ →
    (∀ j b ρ μ, bs[j]? = some b → I (i + j) ρ μ → Wp (g b ρ μ) fun ρ1 μ1 => Wp (mb ρ1 μ1) (forP (I (i + j + 1)) P)) →
    (∀ ρ' μ', I (i + bs.length) ρ' μ' → P (.nx ρ') μ') → Wp (forL g mb bs ρ μ) P
  | [], i, ρ, μ, P, h0, _, fin => .mk (fin ρ μ h0)
  | b :: bs, i, ρ, μ, P, h0, step, fin => by
    unfold forL
    rw [Wp_gb]
    refine Wp_mono (step 0 b ρ μ rfl h0) fun ρ1 μ1 w1 => ?_
    rw [Wp_bind]
    refine Wp_mono w1 fun f μ2 w2 => ?_
    have rest : ∀ ρ2, I (i + 1) ρ2 μ2 → Wp (forL g mb bs ρ2 μ2) P := fun ρ2 i2 => by
      refine Wp_forL I (bs := bs) (i := i + 1) i2 (fun j c ρ μ hj hi => ?_) fun ρ' μ' l => fin ρ' μ' (by rw [List.length_cons, show i + (bs.length + 1) = i + 1 + bs.length by omega]; exact l)
      have := step (j + 1) c ρ μ (by simpa using hj) (by rw [show i + (j + 1) = i + 1 + j by omega]; exact hi)
      rw [show i + (j + 1) + 1 = i + 1 + j + 1 by omega] at this
      exact this
    cases f with
    | nx ρ2 => exact rest ρ2 w2
    | ct ρ2 => exact rest ρ2 w2
    | bk ρ2 => exact .mk w2
    | rt v => exact .mk w2
theorem Wp_forE {g : MG} {mb : MS} {n : Nat} {xs : List D} (I : Nat → DEnv → Store → Prop) : ∀ {k i : Nat} {ρ : DEnv} {μ : Store} {P : Fl → Store → Prop}, (∀ i ρ μ, I i ρ μ → μ[n]? = some (.lst (xs.map .d))) → I i ρ μ → i ≤ xs.length → xs.length - i < k →
    (∀ j x ρ μ, xs[j]? = some x → I j ρ μ → Wp (g (.d (.tuple [.int j, x])) ρ μ) fun ρ1 μ1 => Wp (mb ρ1 μ1) (forP (I (j + 1)) P)) →
    (∀ ρ' μ', I xs.length ρ' μ' → P (.nx ρ') μ') → Wp (forE g mb n k i ρ μ) P
  | 0, i, ρ, μ, P, _, _, _, h, _, _ => by omega
  | k + 1, i, ρ, μ, P, e, h0, le, h, step, fin => by
    unfold forE
    simp only [e i ρ μ h0]
    by_cases hi : i < xs.length
    · have ei : xs[i]? = some xs[i] := by simp [hi]
      have ei2 : (xs.map Dv.d)[i]? = some (.d xs[i]) := by rw [List.getElem?_map, ei]; rfl
      simp only [ei2]
      rw [Wp_gb]
      refine Wp_mono (step i _ ρ μ ei h0) fun ρ1 μ1 w1 => ?_
      rw [Wp_bind]
      refine Wp_mono w1 fun f μ2 w2 => ?_
      have rest : ∀ ρ2, I (i + 1) ρ2 μ2 → Wp (forE g mb n k (i + 1) ρ2 μ2) P := fun ρ2 i2 => Wp_forE I (k := k) (i := i + 1) e i2 (by omega) (by omega) step fin
      cases f with
      | nx ρ2 => exact rest ρ2 w2
      | ct ρ2 => exact rest ρ2 w2
      | bk ρ2 => exact .mk w2
      | rt v => exact .mk w2
    · have ei2 : (xs.map Dv.d)[i]? = none := by simp; omega
      simp only [ei2]
      exact .mk (fin ρ μ (by rw [show xs.length = i by omega]; exact h0))
theorem sForE_r {mo : ME} {g : MG} {mb : MS} {k : Nat} {ρ : DEnv} {μ : Store} : sForE mo g mb k ρ μ = (mo ρ μ).bind fun b μ => forEb g mb k b ρ μ := id rfl
theorem forEb_r {g : MG} {mb : MS} {k n : Nat} {ρ : DEnv} {μ : Store} : forEb g mb k (.c n) ρ μ = forE g mb n k 0 ρ μ := id rfl
/-! ### the forms, one by one: what is wanted of a form is wanted of its parts -/
section
variable {β : Type} {ρ : DEnv} {μ : Store} {i j n m : Nat} {a c o : ME} {t u mb : MS} {g : MG} {r : MGs} {mi : MI} {tt x y : MT} {ma mk : MA} {lo hi : MO} {P : Fl → Store → Prop} {Q : Dv → Store → Prop} {B : Bool → Store → Prop} {A : List Dv → Store → Prop} {E : DEnv → Store → Prop} {O : Option Int → Store → Prop}
def kSeq (u : MS) (P : Fl → Store → Prop) : Fl → Store → Prop := fun f μ => match f with
  | .nx ρ => Wp (u ρ μ) P
  | .rt b => P (.rt b) μ
  | .bk ρ => P (.bk ρ) μ
  | .ct ρ => P (.ct ρ) μ
@[simp ↓] theorem Wp_sSeq : Wp (sSeq t u ρ μ) P = Wp (t ρ μ) (kSeq u P) := by
  unfold sSeq
  rw [Wp_bind]
  congr 1
  funext f μ
  cases f with
  | nx ρ => rfl
  | rt b => exact Wp_ok
  | bk ρ => exact Wp_ok
  | ct ρ => exact Wp_ok
@[simp ↓] theorem kSeq_nx : kSeq u P (.nx ρ) μ = Wp (u ρ μ) P := id rfl
@[simp ↓] theorem kSeq_rt {b : Dv} : kSeq u P (.rt b) μ = P (.rt b) μ := id rfl
@[simp ↓] theorem kSeq_bk : kSeq u P (.bk ρ) μ = P (.bk ρ) μ := id rfl
@[simp ↓] theorem kSeq_ct : kSeq u P (.ct ρ) μ = P (.ct ρ) μ := id rfl
@[simp ↓] theorem Wp_sNext : Wp (sNext ρ μ) P = P (.nx ρ) μ := Wp_ok
@[simp ↓] theorem Wp_sBreak : Wp (sBreak ρ μ) P = P (.bk ρ) μ := Wp_ok
@[simp ↓] theorem Wp_sCont : Wp (sCont ρ μ) P = P (.ct ρ) μ := Wp_ok
@[simp ↓] theorem Wp_sRetN : Wp (sRetN ρ μ) P = P (.rt (.d .none)) μ := Wp_ok
@[simp ↓] theorem Wp_eC {b : Dv} : Wp (eC b ρ μ) Q = Q b μ := Wp_ok
@[simp ↓] theorem Wp_aNil : Wp (aNil ρ μ) A = A [] μ := Wp_ok
@[simp ↓] theorem Wp_oNone : Wp (oNone ρ μ) O = O none μ := Wp_ok
@[simp ↓] theorem Wp_gN {b : Dv} : Wp (gN i b ρ μ) E = E (ρ.set i (some b)) μ := Wp_ok
@[simp ↓] theorem Wp_gsNil : Wp (gsNil [] ρ μ) E = E ρ μ := Wp_ok
@[simp ↓] theorem Wp_tYes : Wp (tYesM ρ μ) B = B true μ := Wp_ok
def kRet (P : Fl → Store → Prop) : Dv → Store → Prop := fun b μ => P (.rt b) μ
@[simp ↓] theorem kRet_r {b : Dv} : kRet P b μ = P (.rt b) μ := id rfl
@[simp ↓] theorem Wp_sRet : Wp (sRet a ρ μ) P = Wp (a ρ μ) (kRet P) := by
  unfold sRet
  rw [Wp_bind]
  try simp only [Wp_ok]
  rfl
def kDrop (ρ : DEnv) (P : Fl → Store → Prop) : Dv → Store → Prop := fun b μ => P (.nx ρ) μ
@[simp ↓] theorem kDrop_r {b : Dv} : kDrop ρ P b μ = P (.nx ρ) μ := id rfl
@[simp ↓] theorem Wp_sDrop : Wp (sDrop a ρ μ) P = Wp (a ρ μ) (kDrop ρ P) := by
  unfold sDrop
  rw [Wp_bind]
  try simp only [Wp_ok]
  rfl
def kSet (i : Nat) (ρ : DEnv) (P : Fl → Store → Prop) : Dv → Store → Prop := fun b μ => P (.nx (ρ.set i (some b))) μ
@[simp ↓] theorem kSet_r {b : Dv} : kSet i ρ P b μ = P (.nx (ρ.set i (some b))) μ := id rfl
@[simp ↓] theorem Wp_sSet : Wp (sSet i a ρ μ) P = Wp (a ρ μ) (kSet i ρ P) := by
  unfold sSet
  rw [Wp_bind]
  try simp only [Wp_ok]
  rfl
def kPar (i j : Nat) (ρ : DEnv) (P : Fl → Store → Prop) : List Dv → Store → Prop := fun b μ => Wp (parF i j ρ b μ) P
@[simp ↓] theorem kPar_r {b : List Dv} : kPar i j ρ P b μ = Wp (parF i j ρ b μ) P := id rfl
@[simp ↓] theorem Wp_sPar : Wp (sPar i j ma ρ μ) P = Wp (ma ρ μ) (kPar i j ρ P) := by
  unfold sPar
  rw [Wp_bind]
  rfl
def kNx (P : Fl → Store → Prop) : DEnv → Store → Prop := fun ρ μ => P (.nx ρ) μ
@[simp ↓] theorem kNx_r : kNx P ρ μ = P (.nx ρ) μ := id rfl
def kAsg (g : MG) (ρ : DEnv) (P : Fl → Store → Prop) : Dv → Store → Prop := fun b μ => Wp (g b ρ μ) (kNx P)
@[simp ↓] theorem kAsg_r {b : Dv} : kAsg g ρ P b μ = Wp (g b ρ μ) (kNx P) := id rfl
@[simp ↓] theorem Wp_sAsg : Wp (sAsg a g ρ μ) P = Wp (a ρ μ) (kAsg g ρ P) := by
  unfold sAsg
  rw [Wp_bind]
  congr 1
  funext b μ
  rw [Wp_gb]
  simp only [Wp_ok]
  rfl
def kSI3 (v x : Dv) (ρ : DEnv) (P : Fl → Store → Prop) : Dv → Store → Prop := fun b μ => Wp (optN (dSetIx x b v μ) ρ) P
@[simp ↓] theorem kSI3_r {b : Dv} {v x : Dv} : kSI3 v x ρ P b μ = Wp (optN (dSetIx x b v μ) ρ) P := id rfl
def kSI2 (v : Dv) (c : ME) (ρ : DEnv) (P : Fl → Store → Prop) : Dv → Store → Prop := fun b μ => Wp (c ρ μ) (kSI3 v b ρ P)
@[simp ↓] theorem kSI2_r {b : Dv} {v : Dv} : kSI2 v c ρ P b μ = Wp (c ρ μ) (kSI3 v b ρ P) := id rfl
def kSI1 (o c : ME) (ρ : DEnv) (P : Fl → Store → Prop) : Dv → Store → Prop := fun b μ => Wp (o ρ μ) (kSI2 b c ρ P)
@[simp ↓] theorem kSI1_r {b : Dv}  : kSI1 o c ρ P b μ = Wp (o ρ μ) (kSI2 b c ρ P) := id rfl
@[simp ↓] theorem Wp_sSetIx : Wp (sSetIx a o c ρ μ) P = Wp (a ρ μ) (kSI1 o c ρ P) := by
  unfold sSetIx
  simp only [Wp_bind]
  rfl
def kFor (g : MG) (mb : MS) (ρ : DEnv) (P : Fl → Store → Prop) : List Dv → Store → Prop := fun b μ => Wp (forL g mb b ρ μ) P
@[simp ↓] theorem kFor_r {b : List Dv}  : kFor g mb ρ P b μ = Wp (forL g mb b ρ μ) P := id rfl
@[simp ↓] theorem Wp_sFor : Wp (sFor mi g mb ρ μ) P = Wp (mi ρ μ) (kFor g mb ρ P) := by
  unfold sFor
  simp only [Wp_bind]
  rfl
def kForE (g : MG) (mb : MS) (n : Nat) (ρ : DEnv) (P : Fl → Store → Prop) : Dv → Store → Prop := fun b μ => Wp (forEb g mb n b ρ μ) P
@[simp ↓] theorem kForE_r {b : Dv}  : kForE g mb n ρ P b μ = Wp (forEb g mb n b ρ μ) P := id rfl
@[simp ↓] theorem Wp_sForE : Wp (sForE a g mb n ρ μ) P = Wp (a ρ μ) (kForE g mb n ρ P) := by
  unfold sForE
  simp only [Wp_bind]
  rfl
def kForC (g : MG) (mb : MS) (n : Nat) (ρ : DEnv) (P : Fl → Store → Prop) : Dv → Store → Prop := fun b μ => Wp (forCb g mb n b ρ μ) P
@[simp ↓] theorem kForC_r {b : Dv}  : kForC g mb n ρ P b μ = Wp (forCb g mb n b ρ μ) P := id rfl
@[simp ↓] theorem Wp_sForC : Wp (sForC a g mb n ρ μ) P = Wp (a ρ μ) (kForC g mb n ρ P) := by
  unfold sForC
  simp only [Wp_bind]
  rfl
def kE1 (f : Op1) (Q : Dv → Store → Prop) : Dv → Store → Prop := fun b μ => Wp (f b μ) Q
@[simp ↓] theorem kE1_r {b : Dv} {f : Op1} : kE1 f Q b μ = Wp (f b μ) Q := id rfl
@[simp ↓] theorem Wp_e1 {f : Op1} : Wp (e1 f a ρ μ) Q = Wp (a ρ μ) (kE1 f Q) := by
  unfold e1
  simp only [Wp_bind]
  rfl
def kE2b (f : Op2) (v : Dv) (Q : Dv → Store → Prop) : Dv → Store → Prop := fun b μ => Wp (f v b μ) Q
@[simp ↓] theorem kE2b_r {b : Dv} {f : Op2} {v : Dv} : kE2b f v Q b μ = Wp (f v b μ) Q := id rfl
def kE2 (f : Op2) (c : ME) (ρ : DEnv) (Q : Dv → Store → Prop) : Dv → Store → Prop := fun b μ => Wp (c ρ μ) (kE2b f b Q)
@[simp ↓] theorem kE2_r {b : Dv} {f : Op2} : kE2 f c ρ Q b μ = Wp (c ρ μ) (kE2b f b Q) := id rfl
@[simp ↓] theorem Wp_e2 {f : Op2} : Wp (e2 f a c ρ μ) Q = Wp (a ρ μ) (kE2 f c ρ Q) := by
  unfold e2
  simp only [Wp_bind]
  rfl
def kTV (B : Bool → Store → Prop) : Dv → Store → Prop := fun b μ => Wp (asBool b μ) B
@[simp ↓] theorem kTV_r {b : Dv}  : kTV B b μ = Wp (asBool b μ) B := id rfl
@[simp ↓] theorem Wp_tV : Wp (tV a ρ μ) B = Wp (a ρ μ) (kTV B) := by
  unfold tV
  simp only [Wp_bind]
  rfl
def kNot (B : Bool → Store → Prop) : Bool → Store → Prop := fun b μ => B (!b) μ
@[simp ↓] theorem kNot_r {b : Bool}  : kNot B b μ = B (!b) μ := id rfl
@[simp ↓] theorem Wp_tNotM : Wp (tNotM tt ρ μ) B = Wp (tt ρ μ) (kNot B) := by
  unfold tNotM
  simp only [Wp_bind]
  try simp only [Wp_ok]
  rfl
def kN (f : OpN) (Q : Dv → Store → Prop) : List Dv → Store → Prop := fun b μ => Wp (f b μ) Q
@[simp ↓] theorem kN_r {b : List Dv} {f : OpN} : kN f Q b μ = Wp (f b μ) Q := id rfl
@[simp ↓] theorem Wp_eN {f : OpN} : Wp (eN f ma ρ μ) Q = Wp (ma ρ μ) (kN f Q) := by
  unfold eN
  simp only [Wp_bind]
  rfl
def kAC2 (v : Dv) (A : List Dv → Store → Prop) : List Dv → Store → Prop := fun b μ => A (v :: b) μ
@[simp ↓] theorem kAC2_r {b : List Dv} {v : Dv} : kAC2 v A b μ = A (v :: b) μ := id rfl
def kAC (ma : MA) (ρ : DEnv) (A : List Dv → Store → Prop) : Dv → Store → Prop := fun b μ => Wp (ma ρ μ) (kAC2 b A)
@[simp ↓] theorem kAC_r {b : Dv}  : kAC ma ρ A b μ = Wp (ma ρ μ) (kAC2 b A) := id rfl
@[simp ↓] theorem Wp_aCons : Wp (aCons a ma ρ μ) A = Wp (a ρ μ) (kAC ma ρ A) := by
  unfold aCons
  simp only [Wp_bind]
  try simp only [Wp_ok]
  rfl
def kSl3 (v : Dv) (k : Option Int) (Q : Dv → Store → Prop) : Option Int → Store → Prop := fun b μ => Wp (dSl v k b μ) Q
@[simp ↓] theorem kSl3_r {b : Option Int} {v : Dv} {k : Option Int} : kSl3 v k Q b μ = Wp (dSl v k b μ) Q := id rfl
def kSl2 (v : Dv) (hi : MO) (ρ : DEnv) (Q : Dv → Store → Prop) : Option Int → Store → Prop := fun b μ => Wp (hi ρ μ) (kSl3 v b Q)
@[simp ↓] theorem kSl2_r {b : Option Int} {v : Dv} : kSl2 v hi ρ Q b μ = Wp (hi ρ μ) (kSl3 v b Q) := id rfl
def kSl (lo hi : MO) (ρ : DEnv) (Q : Dv → Store → Prop) : Dv → Store → Prop := fun b μ => Wp (lo ρ μ) (kSl2 b hi ρ Q)
@[simp ↓] theorem kSl_r {b : Dv}  : kSl lo hi ρ Q b μ = Wp (lo ρ μ) (kSl2 b hi ρ Q) := id rfl
@[simp ↓] theorem Wp_eSl : Wp (eSl a lo hi ρ μ) Q = Wp (a ρ μ) (kSl lo hi ρ Q) := by
  unfold eSl
  simp only [Wp_bind]
  rfl
def kOS (O : Option Int → Store → Prop) : Dv → Store → Prop := fun b μ => Wp (asInt b μ) O
@[simp ↓] theorem kOS_r {b : Dv}  : kOS O b μ = Wp (asInt b μ) O := id rfl
@[simp ↓] theorem Wp_oSome : Wp (oSome a ρ μ) O = Wp (a ρ μ) (kOS O) := by
  unfold oSome
  simp only [Wp_bind]
  rfl
def kIN (k : Bool) (Q : Dv → Store → Prop) : Dv → Store → Prop := fun b μ => Wp (dIsN k b (.d .none) μ) Q
@[simp ↓] theorem kIN_r {b : Dv} {k : Bool} : kIN k Q b μ = Wp (dIsN k b (.d .none) μ) Q := id rfl
@[simp ↓] theorem Wp_eIsN {k : Bool} : Wp (eIsN k a ρ μ) Q = Wp (a ρ μ) (kIN k Q) := by
  unfold eIsN
  simp only [Wp_bind]
  rfl
def kLc (f : OpN) (g : MG) (tt : MT) (c : ME) (vs : List Nat) (ρ : DEnv) (Q : Dv → Store → Prop) : List Dv → Store → Prop := fun b μ => Wp (lcF f g tt c vs ρ b μ) Q
@[simp ↓] theorem kLc_r {b : List Dv} {f : OpN} {vs : List Nat} : kLc f g tt c vs ρ Q b μ = Wp (lcF f g tt c vs ρ b μ) Q := id rfl
@[simp ↓] theorem Wp_eLc {f : OpN} {vs : List Nat} : Wp (eLc f mi g tt c vs ρ μ) Q = Wp (mi ρ μ) (kLc f g tt c vs ρ Q) := by
  unfold eLc
  simp only [Wp_bind]
  rfl
def kLcC (f : OpN) (g : MG) (tt : MT) (c : ME) (vs : List Nat) (n : Nat) (ρ : DEnv) (Q : Dv → Store → Prop) : Dv → Store → Prop := fun b μ => Wp (lcCb f g tt c vs n ρ b μ) Q
@[simp ↓] theorem kLcC_r {b : Dv} {f : OpN} {vs : List Nat} : kLcC f g tt c vs n ρ Q b μ = Wp (lcCb f g tt c vs n ρ b μ) Q := id rfl
@[simp ↓] theorem Wp_eLcC {f : OpN} {vs : List Nat} : Wp (eLcC f a g tt c vs n ρ μ) Q = Wp (a ρ μ) (kLcC f g tt c vs n ρ Q) := by
  unfold eLcC
  simp only [Wp_bind]
  rfl
def kIS (A : List Dv → Store → Prop) : Dv → Store → Prop := fun b μ => Wp (walkD b μ) A
@[simp ↓] theorem kIS_r {b : Dv}  : kIS A b μ = Wp (walkD b μ) A := id rfl
@[simp ↓] theorem Wp_iSeq : Wp (iSeq a ρ μ) A = Wp (a ρ μ) (kIS A) := by
  unfold iSeq
  simp only [Wp_bind]
  rfl
def kIR (f : List Dv → Store → Out (List Dv)) (A : List Dv → Store → Prop) : List Dv → Store → Prop := fun b μ => Wp (f b μ) A
@[simp ↓] theorem kIR_r {b : List Dv} {f : List Dv → Store → Out (List Dv)} : kIR f A b μ = Wp (f b μ) A := id rfl
@[simp ↓] theorem Wp_iRng {f : List Dv → Store → Out (List Dv)} : Wp (iRng f ma ρ μ) A = Wp (ma ρ μ) (kIR f A) := by
  unfold iRng
  simp only [Wp_bind]
  rfl
def kIf (t u : MS) (ρ : DEnv) (P : Fl → Store → Prop) : Bool → Store → Prop := fun b μ => match b with
  | true => Wp (t ρ μ) P
  | false => Wp (u ρ μ) P
@[simp ↓] theorem kIf_t : kIf t u ρ P true μ = Wp (t ρ μ) P := id rfl
@[simp ↓] theorem kIf_f : kIf t u ρ P false μ = Wp (u ρ μ) P := id rfl
theorem kIf_s {b : Bool} (h1 : b = true → Wp (t ρ μ) P) (h2 : b = false → Wp (u ρ μ) P) : kIf t u ρ P b μ := by
  cases b with
  | true => exact h1 rfl
  | false => exact h2 rfl
@[simp ↓] theorem Wp_sIf : Wp (sIf tt t u ρ μ) P = Wp (tt ρ μ) (kIf t u ρ P) := by
  unfold sIf
  rw [Wp_bind]
  congr 1
  funext b μ
  cases b
  · first | rfl | exact Wp_ok | (simp only [Bool.false_eq_true, if_false]; first | rfl | exact Wp_ok)
  · first | rfl | exact Wp_ok | (simp only [if_true]; first | rfl | exact Wp_ok)
def kAnd (x : MT) (ρ : DEnv) (B : Bool → Store → Prop) : Bool → Store → Prop := fun b μ => match b with
  | true => Wp (x ρ μ) B
  | false => B false μ
@[simp ↓] theorem kAnd_t : kAnd x ρ B true μ = Wp (x ρ μ) B := id rfl
@[simp ↓] theorem kAnd_f : kAnd x ρ B false μ = B false μ := id rfl
theorem kAnd_s {b : Bool} (h1 : b = true → Wp (x ρ μ) B) (h2 : b = false → B false μ) : kAnd x ρ B b μ := by
  cases b with
  | true => exact h1 rfl
  | false => exact h2 rfl
@[simp ↓] theorem Wp_tAndM : Wp (tAndM tt x ρ μ) B = Wp (tt ρ μ) (kAnd x ρ B) := by
  unfold tAndM
  rw [Wp_bind]
  congr 1
  funext b μ
  cases b
  · first | rfl | exact Wp_ok | (simp only [Bool.false_eq_true, if_false]; first | rfl | exact Wp_ok)
  · first | rfl | exact Wp_ok | (simp only [if_true]; first | rfl | exact Wp_ok)
def kOr (x : MT) (ρ : DEnv) (B : Bool → Store → Prop) : Bool → Store → Prop := fun b μ => match b with
  | true => B true μ
  | false => Wp (x ρ μ) B
@[simp ↓] theorem kOr_t : kOr x ρ B true μ = B true μ := id rfl
@[simp ↓] theorem kOr_f : kOr x ρ B false μ = Wp (x ρ μ) B := id rfl
theorem kOr_s {b : Bool} (h1 : b = true → B true μ) (h2 : b = false → Wp (x ρ μ) B) : kOr x ρ B b μ := by
  cases b with
  | true => exact h1 rfl
  | false => exact h2 rfl
@[simp ↓] theorem Wp_tOrM : Wp (tOrM tt x ρ μ) B = Wp (tt ρ μ) (kOr x ρ B) := by
  unfold tOrM
  rw [Wp_bind]
  congr 1
  funext b μ
  cases b
  · first | rfl | exact Wp_ok | (simp only [Bool.false_eq_true, if_false]; first | rfl | exact Wp_ok)
  · first | rfl | exact Wp_ok | (simp only [if_true]; first | rfl | exact Wp_ok)
def kEI (a c : ME) (ρ : DEnv) (Q : Dv → Store → Prop) : Bool → Store → Prop := fun b μ => match b with
  | true => Wp (a ρ μ) Q
  | false => Wp (c ρ μ) Q
@[simp ↓] theorem kEI_t : kEI a c ρ Q true μ = Wp (a ρ μ) Q := id rfl
@[simp ↓] theorem kEI_f : kEI a c ρ Q false μ = Wp (c ρ μ) Q := id rfl
theorem kEI_s {b : Bool} (h1 : b = true → Wp (a ρ μ) Q) (h2 : b = false → Wp (c ρ μ) Q) : kEI a c ρ Q b μ := by
  cases b with
  | true => exact h1 rfl
  | false => exact h2 rfl
@[simp ↓] theorem Wp_eIf : Wp (eIf tt a c ρ μ) Q = Wp (tt ρ μ) (kEI a c ρ Q) := by
  unfold eIf
  rw [Wp_bind]
  congr 1
  funext b μ
  cases b
  · first | rfl | exact Wp_ok | (simp only [Bool.false_eq_true, if_false]; first | rfl | exact Wp_ok)
  · first | rfl | exact Wp_ok | (simp only [if_true]; first | rfl | exact Wp_ok)
def kEA (c : ME) (ρ : DEnv) (Q : Dv → Store → Prop) : Bool → Store → Prop := fun b μ => match b with
  | true => Wp (c ρ μ) Q
  | false => Q (.d (.bool false)) μ
@[simp ↓] theorem kEA_t : kEA c ρ Q true μ = Wp (c ρ μ) Q := id rfl
@[simp ↓] theorem kEA_f : kEA c ρ Q false μ = Q (.d (.bool false)) μ := id rfl
theorem kEA_s {b : Bool} (h1 : b = true → Wp (c ρ μ) Q) (h2 : b = false → Q (.d (.bool false)) μ) : kEA c ρ Q b μ := by
  cases b with
  | true => exact h1 rfl
  | false => exact h2 rfl
def kEA0 (c : ME) (ρ : DEnv) (Q : Dv → Store → Prop) : Dv → Store → Prop := fun b μ => Wp (asBool b μ) (kEA c ρ Q)
@[simp ↓] theorem kEA0_r {b : Dv} : kEA0 c ρ Q b μ = Wp (asBool b μ) (kEA c ρ Q) := id rfl
@[simp ↓] theorem Wp_eAnd : Wp (eAnd a c ρ μ) Q = Wp (a ρ μ) (kEA0 c ρ Q) := by
  unfold eAnd
  simp only [Wp_bind]
  congr 1
  funext b μ
  unfold kEA0
  congr 1
  funext k μ
  cases k
  · first | rfl | exact Wp_ok | (simp only [Bool.false_eq_true, if_false]; first | rfl | exact Wp_ok)
  · first | rfl | exact Wp_ok | (simp only [if_true]; first | rfl | exact Wp_ok)
def kEO (c : ME) (ρ : DEnv) (Q : Dv → Store → Prop) : Bool → Store → Prop := fun b μ => match b with
  | true => Q (.d (.bool true)) μ
  | false => Wp (c ρ μ) Q
@[simp ↓] theorem kEO_t : kEO c ρ Q true μ = Q (.d (.bool true)) μ := id rfl
@[simp ↓] theorem kEO_f : kEO c ρ Q false μ = Wp (c ρ μ) Q := id rfl
theorem kEO_s {b : Bool} (h1 : b = true → Q (.d (.bool true)) μ) (h2 : b = false → Wp (c ρ μ) Q) : kEO c ρ Q b μ := by
  cases b with
  | true => exact h1 rfl
  | false => exact h2 rfl
def kEO0 (c : ME) (ρ : DEnv) (Q : Dv → Store → Prop) : Dv → Store → Prop := fun b μ => Wp (asBool b μ) (kEO c ρ Q)
@[simp ↓] theorem kEO0_r {b : Dv} : kEO0 c ρ Q b μ = Wp (asBool b μ) (kEO c ρ Q) := id rfl
@[simp ↓] theorem Wp_eOr : Wp (eOr a c ρ μ) Q = Wp (a ρ μ) (kEO0 c ρ Q) := by
  unfold eOr
  simp only [Wp_bind]
  congr 1
  funext b μ
  unfold kEO0
  congr 1
  funext k μ
  cases k
  · first | rfl | exact Wp_ok | (simp only [Bool.false_eq_true, if_false]; first | rfl | exact Wp_ok)
  · first | rfl | exact Wp_ok | (simp only [if_true]; first | rfl | exact Wp_ok)
def kEN1 (Q : Dv → Store → Prop) : Bool → Store → Prop := fun k μ => Q (.d (.bool (!k))) μ
@[simp ↓] theorem kEN1_r {k : Bool} : kEN1 Q k μ = Q (.d (.bool (!k))) μ := id rfl
def kEN (Q : Dv → Store → Prop) : Dv → Store → Prop := fun b μ => Wp (asBool b μ) (kEN1 Q)
@[simp ↓] theorem kEN_r {b : Dv} : kEN Q b μ = Wp (asBool b μ) (kEN1 Q) := id rfl
@[simp ↓] theorem Wp_eNot : Wp (eNot a ρ μ) Q = Wp (a ρ μ) (kEN Q) := by
  unfold eNot
  simp only [Wp_bind, Wp_ok]
  rfl
@[simp ↓] theorem Wp_fCall {F : OpN} {bs : List Dv} (h : bs.length = n) : Wp (fCall n F bs μ) Q = Wp (F bs μ) Q := by
  rw [fCall_r, if_pos h]
def kM2 (f : Dv → OpN) (v : Dv) (Q : Dv → Store → Prop) : List Dv → Store → Prop := fun b μ => Wp (f v b μ) Q
@[simp ↓] theorem kM2_r {f : Dv → OpN} {v : Dv} {b : List Dv} : kM2 f v Q b μ = Wp (f v b μ) Q := id rfl
def kM (k : Dv → Store → Bool) (f : Dv → OpN) (ma : MA) (ρ : DEnv) (Q : Dv → Store → Prop) : Dv → Store → Prop := fun b μ => k b μ = true ∧ Wp (ma ρ μ) (kM2 f b Q)
@[simp ↓] theorem kM_r {k : Dv → Store → Bool} {f : Dv → OpN} {b : Dv} (h : k b μ = true) : kM k f ma ρ Q b μ = Wp (ma ρ μ) (kM2 f b Q) := by
  unfold kM
  simp [h]
@[simp ↓] theorem Wp_eM {k : Dv → Store → Bool} {f : Dv → OpN} : Wp (eM k f a ma ρ μ) Q = Wp (a ρ μ) (kM k f ma ρ Q) := by
  unfold eM
  rw [Wp_bind]
  congr 1
  funext b μ
  unfold kM
  split
  · rename_i h
    rw [Wp_bind]
    simp only [h, true_and]
    rfl
  · rename_i h
    simp only [h, false_and]
    simp [Wp_bad]
def kGs (r : MGs) (bs : List Dv) (E : DEnv → Store → Prop) : DEnv → Store → Prop := fun ρ μ => Wp (r bs ρ μ) E
@[simp ↓] theorem kGs_r {bs : List Dv} : kGs r bs E ρ μ = Wp (r bs ρ μ) E := id rfl
@[simp ↓] theorem Wp_gsCons {b : Dv} {bs : List Dv} : Wp (gsCons g r (b :: bs) ρ μ) E = Wp (g b ρ μ) (kGs r bs E) := by
  show Wp ((g b ρ μ).bind fun ρ μ => r bs ρ μ) E = _
  rw [Wp_bind]
  rfl
@[simp ↓] theorem Wp_gT {ds : List D} (h : ds.length = n) : Wp (gT n r (.d (.tuple ds)) ρ μ) E = Wp (r (ds.map .d) ρ μ) E := by
  rw [gT_r, if_pos h]
def kK2 (n m : Nat) (ix : List Nat) (F : OpN) (bs : List Dv) (Q : Dv → Store → Prop) : List Dv → Store → Prop := fun cs μ => cs.length = m ∧ Wp (fCall n F (pickL (.d .none) ix (bs ++ cs)) μ) Q
@[simp ↓] theorem kK2_r {ix : List Nat} {F : OpN} {bs cs : List Dv} (h : cs.length = m) : kK2 n m ix F bs Q cs μ = Wp (fCall n F (pickL (.d .none) ix (bs ++ cs)) μ) Q := by
  unfold kK2
  simp [h]
def kK1 (n m : Nat) (ix : List Nat) (F : OpN) (mk : MA) (ρ : DEnv) (Q : Dv → Store → Prop) : List Dv → Store → Prop := fun bs μ => Wp (mk ρ μ) (kK2 n m ix F bs Q)
@[simp ↓] theorem kK1_r {ix : List Nat} {F : OpN} {bs : List Dv} : kK1 n m ix F mk ρ Q bs μ = Wp (mk ρ μ) (kK2 n m ix F bs Q) := id rfl
@[simp ↓] theorem Wp_eCallK {ix : List Nat} {F : OpN} : Wp (eCallK n m ix F ma mk ρ μ) Q = Wp (ma ρ μ) (kK1 n m ix F mk ρ Q) := by
  unfold eCallK
  simp only [Wp_bind]
  congr 1
  funext bs μ
  unfold kK1
  congr 1
  funext cs μ
  unfold kK2
  split
  · rename_i h
    simp only [h, true_and]
  · rename_i h
    simp only [h, false_and]
    simp [Wp_bad]
end
end DL

/-! repr of data in bounds; lists that can be sorted. -/
namespace DL
open PySem PySem.Spec PyProof.Rows L2
/-- k: how deep at most, c: how long its repr is at most -/
structure Sm (k c : Nat) (d : D) : Prop where
  sh : d.showable = true
  nd : nodict d = true
  hd : d.hasDict = false
  dp : d.depth ≤ k
  ln : d.shown.length ≤ c
theorem Sm.mono {k c k' c' : Nat} {d : D} (h : Sm k c d) (hk : k ≤ k') (hc : c ≤ c') : Sm k' c' d := ⟨h.sh, h.nd, h.hd, Nat.le_trans h.dp hk, Nat.le_trans h.ln hc⟩
theorem Sm.int {i : Int} (h : i.natAbs < 10 ^ 40) : Sm 0 41 (.int i) := by
  have s : smallD (.int i) = true := decide_eq_true h
  obtain ⟨a, b, c, d⟩ := small_show s
  exact ⟨a, b, c, by rw [d]; exact Nat.le_refl _, small_len s⟩
theorem Sm.none : Sm 0 4 .none := ⟨rfl, rfl, rfl, Nat.le_refl _, by decide +kernel⟩
theorem Sm.bool (b : Bool) : Sm 0 5 (.bool b) := ⟨rfl, rfl, rfl, Nat.le_refl _, by cases b <;> decide +kernel⟩
theorem Sm.str {l : List Nat} (h : ∀ c ∈ l, c < 16 ^ 8) : Sm 0 (10 * l.length + 2) (.str (T l)) := by
  refine ⟨rfl, rfl, rfl, Nat.le_refl _, ?_⟩
  have := StrLaws.reprText_len (T l) h
  rw [T_len] at this
  rw [PyData.shown_str]
  exact this
theorem sm_all {k c : Nat} : ∀ {ds : List D}, (∀ d ∈ ds, Sm k c d) → PyData.showableAll ds = true ∧ nodicts ds = true ∧ PyData.hasDictAll ds = false ∧ PyData.depthAll ds ≤ k ∧ piled (PyData.shownAll ds) ≤ ds.length * (c + 2) ∧ (PyData.shownAll ds).length = ds.length
  | [], _ => ⟨rfl, rfl, rfl, Nat.zero_le _, Nat.zero_le _, rfl⟩
  | d :: ds, h => by
    obtain ⟨a1, a2, a3, a4, a5, a6⟩ := sm_all (ds := ds) fun e he => h e (List.mem_cons_of_mem _ he)
    obtain ⟨b1, b2, b3, b4, b5⟩ := h d List.mem_cons_self
    refine ⟨?_, ?_, ?_, ?_, ?_, ?_⟩
    · simp [PyData.showableAll, a1, b1]
    · simp [nodicts, a2, b2]
    · simp [PyData.hasDictAll, a3, b3]
    · simp only [PyData.depthAll]; omega
    · rw [PyData.shownAll, piled_cons, List.length_cons, Nat.succ_mul]; omega
    · rw [PyData.shownAll, List.length_cons, List.length_cons, a6]
theorem join_le : ∀ ts : List Str, (Str.join ", " ts).length ≤ piled ts
  | [] => Nat.zero_le _
  | t :: ts => by
    have := join_length_add (t :: ts) (by simp)
    omega
theorem listText_le : ∀ ts : List Str, (listText ts).length ≤ piled ts + 2
  | [] => by decide +kernel
  | t :: ts => by
    unfold listText
    rw [str_len_app]
    have e1 : Str.length ("]" : Str) = 1 := by decide +kernel
    have e2 : textFrom 0 "[" (t :: ts) = textFrom 1 (("[" : Str) ++ (if (0 : Nat) > 0 then ", " else "" : String) ++ t) ts := rfl
    rw [e1, e2, textFrom_length_pos ts 1 _ (by omega), piled_cons, str_len_app, str_len_app]
    have e3 : Str.length ("[" : Str) = 1 := by decide +kernel
    have e4 : Str.length (Str.ofString (if (0 : Nat) > 0 then ", " else "" : String)) = 0 := by decide +kernel
    rw [e3, e4]
    omega
theorem tupleText_le (ts : List Str) : (tupleText ts).length ≤ piled ts + 3 := by
  unfold tupleText
  rw [str_len_app, str_len_app]
  have h := join_le ts
  have e1 : Str.length ("(" : Str) = 1 := by decide +kernel
  have e2 : Str.length (Str.ofString (if ts.length == 1 then ",)" else ")" : String)) ≤ 2 := by
    split <;> decide +kernel
  rw [e1]
  omega
theorem Sm.list {k c n : Nat} {ds : List D} (h : ∀ d ∈ ds, Sm k c d) (hn : ds.length ≤ n) : Sm (k + 1) (n * (c + 2) + 3) (.list ds) := by
  obtain ⟨a1, a2, a3, a4, a5, a6⟩ := sm_all h
  have m : ds.length * (c + 2) ≤ n * (c + 2) := Nat.mul_le_mul_right _ hn
  refine ⟨by simpa [PyData.showable] using a1, by simpa [nodict] using a2, by simpa [PyData.hasDict] using a3, by simp only [PyData.depth]; omega, ?_⟩
  have := listText_le (PyData.shownAll ds)
  rw [PyData.shown]
  omega
theorem Sm.tup {k c n : Nat} {ds : List D} (h : ∀ d ∈ ds, Sm k c d) (hn : ds.length ≤ n) : Sm (k + 1) (n * (c + 2) + 3) (.tuple ds) := by
  obtain ⟨a1, a2, a3, a4, a5, a6⟩ := sm_all h
  have m : ds.length * (c + 2) ≤ n * (c + 2) := Nat.mul_le_mul_right _ hn
  refine ⟨by simpa [PyData.showable] using a1, by simpa [nodict] using a2, by simpa [PyData.hasDict] using a3, by simp only [PyData.depth]; omega, ?_⟩
  have := tupleText_le (PyData.shownAll ds)
  rw [PyData.shown]
  omega
theorem dRepr_sm {d : D} {μ : Store} (h : Sm 40 16000000 d) : dRepr [.d d] μ = .ok (.d (.str d.shown)) μ := by
  obtain ⟨a, b, c, e, f⟩ := h
  have hb := line_big
  show (if (d.showable && nodict d && !d.hasDict && decide (d.depth ≤ 40) && decide (d.shown.length ≤ sizeLine)) = true then Out.ok (Dv.d (.str d.shown)) μ else .bad) = _
  rw [if_pos]
  simp only [a, b, c, Bool.not_false, Bool.true_and, Bool.and_eq_true, decide_eq_true_eq]
  exact ⟨e, by omega⟩
/-! ### sorting -/
theorem sort_ints {ds : List D} (h : ∀ d ∈ ds, ∃ i, d = .int i) : canSort ds = true := by
  unfold canSort
  simp only [Bool.and_eq_true, Bool.or_eq_true, List.all_eq_true, decide_eq_true_eq]
  refine ⟨⟨⟨fun d hd e he => ?_, .inr fun d hd => ?_⟩, fun d hd => ?_⟩, ?_⟩
  · obtain ⟨i, rfl⟩ := h d hd
    obtain ⟨j, rfl⟩ := h e he
    rfl
  · obtain ⟨i, rfl⟩ := h d hd
    rfl
  · obtain ⟨i, rfl⟩ := h d hd
    exact Nat.zero_le _
  · induction ds with
    | nil => rfl
    | cons d ds ih =>
      obtain ⟨i, rfl⟩ := h d List.mem_cons_self
      exact ih fun e he => h e (List.mem_cons_of_mem _ he)
theorem sort_strs {ds : List D} (h : ∀ d ∈ ds, ∃ x, d = .str x) : canSort ds = true := by
  unfold canSort
  simp only [Bool.and_eq_true, Bool.or_eq_true, List.all_eq_true, decide_eq_true_eq]
  refine ⟨⟨⟨fun d hd e he => ?_, .inr fun d hd => ?_⟩, fun d hd => ?_⟩, ?_⟩
  · obtain ⟨i, rfl⟩ := h d hd
    obtain ⟨j, rfl⟩ := h e he
    rfl
  · obtain ⟨i, rfl⟩ := h d hd
    rfl
  · obtain ⟨i, rfl⟩ := h d hd
    exact Nat.zero_le _
  · induction ds with
    | nil => rfl
    | cons d ds ih =>
      obtain ⟨i, rfl⟩ := h d List.mem_cons_self
      exact ih fun e he => h e (List.mem_cons_of_mem _ he)
theorem sort_pairs {ds : List D} (h : ∀ d ∈ ds, ∃ x y, d = .tuple [.str x, .str y]) : canSort ds = true := by
  unfold canSort
  simp only [Bool.and_eq_true, Bool.or_eq_true, List.all_eq_true, decide_eq_true_eq]
  refine ⟨⟨⟨fun d hd e he => ?_, .inl fun d hd => ?_⟩, fun d hd => ?_⟩, ?_⟩
  · obtain ⟨i, k, rfl⟩ := h d hd
    obtain ⟨j, l, rfl⟩ := h e he
    rfl
  · obtain ⟨i, k, rfl⟩ := h d hd
    rfl
  · obtain ⟨i, k, rfl⟩ := h d hd
    simp [PyData.depth, PyData.depthAll]
  · induction ds with
    | nil => rfl
    | cons d ds ih =>
      obtain ⟨i, k, rfl⟩ := h d List.mem_cons_self
      exact ih fun e he => h e (List.mem_cons_of_mem _ he)
theorem dSort_d {ds : List D} {b : Dv} {μ : Store} (e : items b μ = some (ds.map .d)) (h : canSort ds = true) (n : ds.length ≤ 16000000) : dSort [b] μ = .ok (.d (.list (srt ds))) μ := by
  show (match items b μ with | some bs => _ | none => _) = _
  rw [e]
  show (match allD (ds.map Dv.d) with | some ds => (if canSort ds = true then dList ((srt ds).map .d) μ else .bad) | none => .bad) = _
  rw [allD_map]
  show (if canSort ds = true then _ else _) = _
  rw [if_pos h, dList_d (by rw [srt_len]; exact Nat.le_trans n line_big)]
theorem keysD_strs : ∀ {ds : List D}, (∀ d ∈ ds, ∃ x, d = .str x) → ∃ ks, keysD ds = some ks ∧ ks.length = ds.length ∧ ∀ k ∈ ks, ∃ x, k = .inr x ∧ PyData.str x ∈ ds
  | [], _ => ⟨[], rfl, rfl, fun k h => by cases h⟩
  | d :: ds, h => by
    obtain ⟨x, rfl⟩ := h d List.mem_cons_self
    obtain ⟨ks, e, l, m⟩ := keysD_strs (ds := ds) fun e he => h e (List.mem_cons_of_mem _ he)
    refine ⟨.inr x :: ks, ?_, by rw [List.length_cons, List.length_cons, l], fun k hk => ?_⟩
    · show (match some (Sum.inr x : Key), keysD ds with | some k, some ks => some (k :: ks) | _, _ => none) = _
      rw [e]
    · rcases List.mem_cons.mp hk with e | hk
      · exact ⟨x, e, List.mem_cons_self⟩
      · obtain ⟨y, e1, e2⟩ := m k hk
        exact ⟨y, e1, List.mem_cons_of_mem _ e2⟩
theorem keysD_ints : ∀ {ds : List D}, (∀ d ∈ ds, ∃ x, d = .int x) → ∃ ks, keysD ds = some ks ∧ ks.length = ds.length ∧ ∀ k ∈ ks, ∃ x, k = .inl x ∧ PyData.int x ∈ ds
  | [], _ => ⟨[], rfl, rfl, fun k h => by cases h⟩
  | d :: ds, h => by
    obtain ⟨x, rfl⟩ := h d List.mem_cons_self
    obtain ⟨ks, e, l, m⟩ := keysD_ints (ds := ds) fun e he => h e (List.mem_cons_of_mem _ he)
    refine ⟨.inl x :: ks, ?_, by rw [List.length_cons, List.length_cons, l], fun k hk => ?_⟩
    · show (match some (Sum.inl x : Key), keysD ds with | some k, some ks => some (k :: ks) | _, _ => none) = _
      rw [e]
    · rcases List.mem_cons.mp hk with e | hk
      · exact ⟨x, e, List.mem_cons_self⟩
      · obtain ⟨y, e1, e2⟩ := m k hk
        exact ⟨y, e1, List.mem_cons_of_mem _ e2⟩
/-- sorted(set(xs)): some list of the items -/
theorem dSortSet_d {ds : List D} {b : Dv} {μ : Store} (e : items b μ = some (ds.map .d)) (h : (∀ d ∈ ds, ∃ x, d = .str x) ∨ ∀ d ∈ ds, ∃ x, d = .int x) (n : ds.length ≤ 1000) :
    ∃ es, dSortSet b μ = .ok (.d (.list es)) μ ∧ es.length ≤ ds.length ∧ ∀ d ∈ es, d ∈ ds := by
  obtain ⟨ks, e1, l, m⟩ : ∃ ks, keysD ds = some ks ∧ ks.length = ds.length ∧ ((∀ k ∈ ks, ∃ x, k = .inr x ∧ PyData.str x ∈ ds) ∨ ∀ k ∈ ks, ∃ x, k = .inl x ∧ PyData.int x ∈ ds) := by
    rcases h with h | h
    · obtain ⟨ks, a, b, c⟩ := keysD_strs h
      exact ⟨ks, a, b, .inl c⟩
    · obtain ⟨ks, a, b, c⟩ := keysD_ints h
      exact ⟨ks, a, b, .inr c⟩
  obtain ⟨d1, d2, d3⟩ := ddK_facts ks
  have cs : canSort ((ddK ks).map kD) = true := by
    rcases m with m | m
    · refine sort_strs fun d hd => ?_
      obtain ⟨k, hk, rfl⟩ := List.mem_map.mp hd
      obtain ⟨x, rfl, _⟩ := m k ((d2 k).mp hk)
      exact ⟨x, rfl⟩
    · refine sort_ints fun d hd => ?_
      obtain ⟨k, hk, rfl⟩ := List.mem_map.mp hd
      obtain ⟨x, rfl, _⟩ := m k ((d2 k).mp hk)
      exact ⟨x, rfl⟩
  refine ⟨(srtK (ddK ks)).map kD, ?_, ?_, fun d hd => ?_⟩
  · unfold dSortSet
    simp only [e, allD_map, e1, cs]
    have : decide (ks.length ≤ 1000) = true := decide_eq_true (by omega)
    rw [this]
    rfl
  · rw [List.length_map, (List.mergeSort_perm _ _).length_eq]
    omega
  · obtain ⟨k, hk, rfl⟩ := List.mem_map.mp hd
    have hk := (d2 k).mp ((List.mergeSort_perm _ _).mem_iff.mp hk)
    rcases m with m | m
    · obtain ⟨x, rfl, hx⟩ := m k hk
      exact hx
    · obtain ⟨x, rfl, hx⟩ := m k hk
      exact hx
end DL

namespace LW
open PySem PySem.Spec PyProof.Rows L2 DL
@[simp] theorem S_0 : ("abcdefghijklmnopqrstuvwxyz" : Str) = T [97, 98, 99, 100, 101, 102, 103, 104, 105, 106, 107, 108, 109, 110, 111, 112, 113, 114, 115, 116, 117, 118, 119, 120, 121, 122] := by decide +kernel
@[simp] theorem S_1 : ("ymd" : Str) = T [121, 109, 100] := by decide +kernel
@[simp] theorem S_2 : ("dmy" : Str) = T [100, 109, 121] := by decide +kernel
@[simp] theorem S_3 : ("mdy" : Str) = T [109, 100, 121] := by decide +kernel
@[simp] theorem S_4 : ("," : Str) = T [44] := by decide +kernel
@[simp] theorem S_5 : (";" : Str) = T [59] := by decide +kernel
@[simp] theorem S_6 : ("|" : Str) = T [124] := by decide +kernel
@[simp] theorem S_7 : (":" : Str) = T [58] := by decide +kernel
@[simp] theorem S_8 : ("\"" : Str) = T [34] := by decide +kernel
@[simp] theorem S_9 : ("'" : Str) = T [39] := by decide +kernel
@[simp] theorem S_10 : ("signs" : Str) = T [115, 105, 103, 110, 115] := by decide +kernel
@[simp] theorem S_11 : ("places" : Str) = T [112, 108, 97, 99, 101, 115] := by decide +kernel
@[simp] theorem S_12 : ("named" : Str) = T [110, 97, 109, 101, 100] := by decide +kernel
@[simp] theorem S_13 : ("whole" : Str) = T [119, 104, 111, 108, 101] := by decide +kernel
@[simp] theorem S_14 : ("amount" : Str) = T [97, 109, 111, 117, 110, 116] := by decide +kernel
@[simp] theorem S_15 : ("" : Str) = T [] := by decide +kernel
@[simp] theorem S_16 : (" " : Str) = T [32] := by decide +kernel
@[simp] theorem S_17 : ("a" : Str) = T [97] := by decide +kernel
@[simp] theorem S_18 : (" a" : Str) = T [32, 97] := by decide +kernel
@[simp] theorem S_19 : ("a " : Str) = T [97, 32] := by decide +kernel
@[simp] theorem S_20 : ("a b" : Str) = T [97, 32, 98] := by decide +kernel
@[simp] theorem S_21 : ("\n" : Str) = T [10] := by decide +kernel
@[simp] theorem S_22 : ("a\n" : Str) = T [97, 10] := by decide +kernel
@[simp] theorem S_23 : ("\na" : Str) = T [10, 97] := by decide +kernel
@[simp] theorem S_24 : ("'signs'" : Str) = T [39, 115, 105, 103, 110, 115, 39] := by decide +kernel
@[simp] theorem S_25 : ("'named'" : Str) = T [39, 110, 97, 109, 101, 100, 39] := by decide +kernel
@[simp] theorem S_26 : ("day" : Str) = T [100, 97, 121] := by decide +kernel
@[simp] theorem S_27 : ("myd" : Str) = T [109, 121, 100] := by decide +kernel
@[simp] theorem S_28 : ("A" : Str) = T [65] := by decide +kernel
@[simp] theorem S_29 : ("abcdefgh" : Str) = T [97, 98, 99, 100, 101, 102, 103, 104] := by decide +kernel
@[simp] theorem S_30 : ("abcdefghi" : Str) = T [97, 98, 99, 100, 101, 102, 103, 104, 105] := by decide +kernel
@[simp] theorem S_31 : ("a1" : Str) = T [97, 49] := by decide +kernel
@[simp] theorem S_32 : ("." : Str) = T [46] := by decide +kernel
@[simp] theorem S_33 : ("~" : Str) = T [126] := by decide +kernel
@[simp] theorem S_34 : ("'places'" : Str) = T [39, 112, 108, 97, 99, 101, 115, 39] := by decide +kernel
@[simp] theorem S_35 : ("x" : Str) = T [120] := by decide +kernel
@[simp] theorem S_36 : ("z" : Str) = T [122] := by decide +kernel
@[simp] theorem S_37 : ("b" : Str) = T [98] := by decide +kernel
@[simp] theorem S_38 : ("ab" : Str) = T [97, 98] := by decide +kernel
@[simp] theorem S_39 : ("B" : Str) = T [66] := by decide +kernel
@[simp] theorem S_40 : ("1" : Str) = T [49] := by decide +kernel
@[simp] theorem S_41 : ("10" : Str) = T [49, 48] := by decide +kernel
@[simp] theorem S_42 : ("2" : Str) = T [50] := by decide +kernel
@[simp] theorem S_43 : (",;|:" : Str) = T [44, 59, 124, 58] := by decide +kernel
@[simp] theorem S_44 : ("\"'" : Str) = T [34, 39] := by decide +kernel
@[simp] theorem S_45 : (",;|" : Str) = T [44, 59, 124] := by decide +kernel
/-! ### 1. The defs as data: what each comes to (printed by gen.py) -/
def top (i : Nat) : Stmt := PySem.Challenge.pw_cleanedtables_k01_worths_forms_shapes_of.main.body.getD i (.Pass ⟨0, 0, 0, 0⟩)
abbrev s_l_hand : Stmt := top 22
abbrev N_l_hand : List Str := ["_law_script", "_law_k", "_law_cell", "_law_great"]
def r1_l_hand : MS := sRet (eN cList (aCons (eVar 3) (aCons (e2 dMod (e2 dAdd (e2 dAdd (e2 dMulA (e2 dMod (eVar 2) (eC (.d (.int 2305843009213693951)))) (eC (.d (.int 1000003)))) (e2 dMulA (eC (.d (.int 7919))) (eVar 1))) (eC (.d (.int 29)))) (eC (.d (.int 2305843009213693921)))) (aCons (eC (.d (.int 0))) (aNil)))))
def r2_l_hand : MS := sSeq (sSet 3 (eIf (tV (e2 dGe (eN dAbs (aCons (eVar 2) (aNil))) (e2 dPow (eC (.d (.int 10))) (eC (.d (.int 18)))))) (e2 dMod (eN dAbs (aCons (eVar 2) (aNil))) (e2 dMulA (e2 dMulA (e2 dPow (eC (.d (.int 10))) (eC (.d (.int 60)))) (e2 dPow (eC (.d (.int 10))) (eC (.d (.int 60))))) (e2 dPow (eC (.d (.int 10))) (eC (.d (.int 60)))))) (eC (.d (.int 0))))) (r1_l_hand)
def B_l_hand : MS := sSeq (sSet 2 (eIf (tV (e2 dLt (eVar 1) (eN dLen (aCons (eVar 0) (aNil))))) (e2 dIx (eVar 0) (eVar 1)) (eC (.d (.int 0))))) (r2_l_hand)
def F_l_hand : OpN := runB 4 B_l_hand
abbrev s_l_take : Stmt := top 23
abbrev N_l_take : List Str := ["_law_hand_here", "_law_many", "_law_digit", "_law_turn", "_law_one", "_law_two", "_law_mixed", "_law_last"]
def r1_l_take : MS := sRet (eVar 2)
def r2_l_take : MS := sSeq (sSetIx (e2 dDiv (e2 dIx (eVar 0) (eC (.d (.int 0)))) (eVar 1)) (eVar 0) (eC (.d (.int 0)))) (r1_l_take)
def r3_l_take : MS := sRet (e2 dMod (e2 dDiv (e2 dMod (e2 dMulA (e2 dAdd (eVar 6) (eC (.d (.int 13)))) (eVar 7)) (eC (.d (.int 2305843009213693907)))) (eC (.d (.int 64)))) (eVar 1))
def r4_l_take : MS := sSeq (sSet 7 (e2 dAdd (e2 dAdd (e2 dMod (eVar 6) (eC (.d (.int 1000003)))) (e2 dMulA (eC (.d (.int 6700417))) (eVar 3))) (eC (.d (.int 5))))) (r3_l_take)
def r5_l_take : MS := sSeq (sSet 6 (e2 dMod (e2 dMulA (eVar 4) (eVar 5)) (eC (.d (.int 2305843009213693951))))) (r4_l_take)
def r6_l_take : MS := sSeq (sSet 5 (e2 dAdd (e2 dAdd (e2 dMod (e2 dIx (eVar 0) (eC (.d (.int 1)))) (eC (.d (.int 7919)))) (e2 dMulA (eC (.d (.int 15485863))) (eVar 3))) (eC (.d (.int 17))))) (r5_l_take)
def r7_l_take : MS := sSeq (sSet 4 (e2 dAdd (e2 dIx (eVar 0) (eC (.d (.int 1)))) (e2 dMulA (eC (.d (.int 104729))) (eVar 3)))) (r6_l_take)
def r8_l_take : MS := sSeq (sSetIx (eVar 3) (eVar 0) (eC (.d (.int 2)))) (r7_l_take)
def r9_l_take : MS := sSeq (sSet 3 (e2 dAdd (e2 dIx (eVar 0) (eC (.d (.int 2)))) (eC (.d (.int 1))))) (r8_l_take)
def B_l_take : MS := sSeq (sIf (tV (e2 dGt (e2 dIx (eVar 0) (eC (.d (.int 0)))) (eC (.d (.int 0))))) (sSeq (sSet 2 (e2 dMod (e2 dIx (eVar 0) (eC (.d (.int 0)))) (eVar 1))) (r2_l_take)) (sNext)) (r9_l_take)
def F_l_take : OpN := runB 8 B_l_take
abbrev s_l_pick : Stmt := top 24
abbrev N_l_pick : List Str := ["_law_hand_here", "_law_some"]
def B_l_pick : MS := sRet (e2 dIx (eVar 1) (eN (fCall 2 F_l_take) (aCons (eVar 0) (aCons (eN dLen (aCons (eVar 1) (aNil))) (aNil)))))
def F_l_pick : OpN := runB 2 B_l_pick
abbrev s_rank : Stmt := top 7
abbrev N_rank : List Str := ["worth"]
def B_rank : MS := sRet (eIf (tV (eIsN false (eVar 0))) (eN dTup (aCons (eC (.d (.int 0))) (aCons (eC (.d (.int 0))) (aNil)))) (eN dTup (aCons (eC (.d (.int 1))) (aCons (eVar 0) (aNil)))))
def F_rank : OpN := runB 1 B_rank
abbrev s_l_ranks_right : Stmt := top 34
abbrev N_l_ranks_right : List Str := ["_law_hand_here", "_law_numbers", "_law_words_here", "_law_some", "_law_due", "_law_k", "_law_one"]
def c1_l_ranks_right : ME := e2 dSub (eN (fCall 2 F_l_take) (aCons (eVar 0) (aCons (eC (.d (.int 1999))) (aNil)))) (eC (.d (.int 999)))
def c2_l_ranks_right : ME := eN (fCall 2 F_l_pick) (aCons (eVar 0) (aCons (eN dList (aCons (eC (.d (.str "a"))) (aCons (eC (.d (.str "b"))) (aCons (eC (.d (.str "ab"))) (aCons (eC (.d (.str "B"))) (aCons (eC (.d (.str "~"))) (aCons (eC (.d (.str "1"))) (aCons (eC (.d (.str "10"))) (aCons (eC (.d (.str "a b"))) (aCons (eC (.d (.str "2"))) (aNil))))))))))) (aNil)))
def c3_l_ranks_right : ME := eVar 6
def t1_l_ranks_right : MT := tV (eIsN true (eVar 6))
def c4_l_ranks_right : ME := eCallK 1 1 [0] F_rank aNil (aCons (eVar 6) (aNil))
def c5_l_ranks_right : ME := eN (fCall 1 F_rank) (aCons (eVar 6) (aNil))
def c6_l_ranks_right : ME := eN (fCall 1 F_rank) (aCons (eVar 6) (aNil))
def c7_l_ranks_right : ME := eN dTup (aCons (eC (.d (.int 1))) (aCons (eVar 6) (aNil)))
def r1_l_ranks_right : MS := sIf (tV (e2 (dEq true) (eLc dList (iSeq (eVar 4)) (gN 6) (tYesM) (c6_l_ranks_right) [6]) (e2 dAdd (eN dList (aCons (eN dTup (aCons (eC (.d (.int 0))) (aCons (eC (.d (.int 0))) (aNil)))) (aNil))) (eLc dList (iSeq (eSl (eVar 4) (oSome (eC (.d (.int 1)))) (oNone))) (gN 6) (tYesM) (c7_l_ranks_right) [6])))) (sRet (eC (.d (.bool false)))) (sNext)
def r2_l_ranks_right : MS := sSeq (sIf (tOrM (tV (e2 (dEq true) (e1 dSortK (eVar 3)) (eVar 4))) (tV (e2 (dEq true) (eLc dList (iSeq (eVar 3)) (gN 6) (tYesM) (c4_l_ranks_right) [6]) (eLc dList (iSeq (eVar 3)) (gN 6) (tYesM) (c5_l_ranks_right) [6])))) (sRet (eC (.d (.bool false)))) (sNext)) (r1_l_ranks_right)
def w1_l_ranks_right : MS := sSeq (sSet 4 (e2 dAdd (eN dList (aCons (eC (.d .none)) (aNil))) (eN dSort (aCons (eLc dList (iSeq (eVar 3)) (gN 6) (t1_l_ranks_right) (c3_l_ranks_right) [6]) (aNil))))) (r2_l_ranks_right)
def r3_l_ranks_right : MS := sRet (eC (.d (.bool true)))
def r4_l_ranks_right : MS := sSeq (sFor (iSeq (eN dTup (aCons (eVar 1) (aCons (eVar 2) (aNil))))) (gN 3) (w1_l_ranks_right)) (r3_l_ranks_right)
def r5_l_ranks_right : MS := sSeq (sSet 2 (e2 dAdd (eLc dList (iRng rng1 (aCons (eC (.d (.int 4))) (aNil))) (gN 5) (tYesM) (c2_l_ranks_right) [5]) (eN dList (aCons (eC (.d .none)) (aNil))))) (r4_l_ranks_right)
def B_l_ranks_right : MS := sSeq (sSet 1 (e2 dAdd (eLc dList (iRng rng1 (aCons (eC (.d (.int 4))) (aNil))) (gN 5) (tYesM) (c1_l_ranks_right) [5]) (eN dList (aCons (eC (.d .none)) (aNil))))) (r5_l_ranks_right)
def F_l_ranks_right : OpN := runB 7 B_l_ranks_right
abbrev s_l_words : Stmt := top 25
abbrev N_l_words : List Str := ["_law_hand_here", "_law_many", "_law_letters", "_law_first", "_law_by", "_law_stem", "_law_at", "_law_found", "_law_k", "_law_spot", "_law_pair"]
def c1_l_words : ME := eN (fCall 2 F_l_pick) (aCons (eVar 0) (aCons (eVar 2) (aNil)))
def r1_l_words : MS := sDrop (eM isLst dAppend (eVar 7) (aCons (e2 dAdd (e2 dAdd (eSl (eVar 5) (oNone) (oSome (eVar 6))) (eVar 10)) (eSl (eVar 5) (oSome (eVar 6)) (oNone))) (aNil)))
def r2_l_words : MS := sSeq (sSet 10 (e2 dAdd (e2 dIx (eVar 2) (e2 dDiv (eVar 9) (eC (.d (.int 26))))) (e2 dIx (eVar 2) (e2 dMod (eVar 9) (eC (.d (.int 26))))))) (r1_l_words)
def w1_l_words : MS := sSeq (sSet 9 (e2 dMod (e2 dAdd (eVar 3) (e2 dMulA (eVar 4) (eVar 8))) (eC (.d (.int 676))))) (r2_l_words)
def r3_l_words : MS := sRet (eVar 7)
def r4_l_words : MS := sSeq (sFor (iRng rng1 (aCons (eVar 1) (aNil))) (gN 8) (w1_l_words)) (r3_l_words)
def r5_l_words : MS := sSeq (sPar 6 7 (aCons (eN (fCall 2 F_l_take) (aCons (eVar 0) (aCons (e2 dAdd (eN dLen (aCons (eVar 5) (aNil))) (eC (.d (.int 1)))) (aNil)))) (aCons (eN cList (aNil)) (aNil)))) (r4_l_words)
def r6_l_words : MS := sSeq (sSet 5 (eM isStr dJoin (eC (.d (.str ""))) (aCons (eLc dList (iRng rng1 (aCons (eN (fCall 2 F_l_pick) (aCons (eVar 0) (aCons (eN dList (aCons (eC (.d (.int 0))) (aCons (eC (.d (.int 0))) (aCons (eC (.d (.int 1))) (aCons (eC (.d (.int 3))) (aCons (eC (.d (.int 6))) (aNil))))))) (aNil)))) (aNil))) (gN 8) (tYesM) (c1_l_words) [8]) (aNil)))) (r5_l_words)
def r7_l_words : MS := sSeq (sPar 3 4 (aCons (eN (fCall 2 F_l_take) (aCons (eVar 0) (aCons (eC (.d (.int 676))) (aNil)))) (aCons (eN (fCall 2 F_l_pick) (aCons (eVar 0) (aCons (eN dList (aCons (eC (.d (.int 1))) (aCons (eC (.d (.int 3))) (aCons (eC (.d (.int 27))) (aCons (eC (.d (.int 51))) (aCons (eC (.d (.int 105))) (aNil))))))) (aNil)))) (aNil)))) (r6_l_words)
def B_l_words : MS := sSeq (sSet 2 (eC (.d (.str "abcdefghijklmnopqrstuvwxyz")))) (r7_l_words)
def F_l_words : OpN := runB 11 B_l_words
abbrev s_l_odd_one : Stmt := top 26
abbrev N_l_odd_one : List Str := ["_law_hand_here", "_law_some"]
def r1_l_odd_one : MS := sRet (eN (fCall 2 F_l_pick) (aCons (eVar 0) (aCons (eVar 1) (aNil))))
def r2_l_odd_one : MS := sSeq (sSet 1 (e2 dAdd (eVar 1) (eN dList (aCons (eC (.d (.str "'"))) (aCons (e2 dMulA (eC (.d (.str "x"))) (eC (.d (.int 200)))) (aCons (eN dTup (aNil)) (aCons (eN dList (aNil)) (aCons (eDic0) (aCons (eN dTup (aCons (eC (.d (.str "whole"))) (aNil))) (aCons (eN dList (aCons (eC (.d (.str "whole"))) (aNil))) (aCons (eN dTup (aCons (eC (.d (.str "amount"))) (aCons (eC (.d (.int 2))) (aNil)))) (aCons (eN dTup (aCons (eC (.d (.str "a"))) (aNil))) (aCons (eN dTup (aCons (eC (.d (.str "a"))) (aCons (eC (.d (.str "a"))) (aNil)))) (aCons (eN dTup (aCons (eC (.d (.int 1))) (aNil))) (aCons (eN dTup (aCons (eN dTup (aNil)) (aNil))) (aNil)))))))))))))))) (r1_l_odd_one)
def r3_l_odd_one : MS := sSeq (sSet 1 (e2 dAdd (eVar 1) (eN dList (aCons (eC (.d (.str "~"))) (aCons (eC (.d (.str "\""))) (aNil)))))) (r2_l_odd_one)
def r4_l_odd_one : MS := sSeq (sSet 1 (e2 dAdd (eVar 1) (eN dList (aCons (eC (.d (.str "ymd"))) (aCons (eC (.d (.str "myd"))) (aCons (eC (.d (.str "whole"))) (aCons (eC (.d (.str "amount"))) (aCons (eC (.d (.str "signs"))) (aCons (eC (.d (.str "A"))) (aCons (eC (.d (.str "abcdefgh"))) (aCons (eC (.d (.str "abcdefghi"))) (aCons (eC (.d (.str "a1"))) (aCons (eC (.d (.str ","))) (aCons (eC (.d (.str ";"))) (aCons (eC (.d (.str ":"))) (aCons (eC (.d (.str "."))) (aNil))))))))))))))))) (r3_l_odd_one)
def B_l_odd_one : MS := sSeq (sSet 1 (eN dList (aCons (eC (.d .none)) (aCons (eC (.d (.bool true))) (aCons (eC (.d (.bool false))) (aCons (eC (.d (.int 0))) (aCons (eC (.d (.int 1))) (aCons (eC (.d (.int 4))) (aCons (eC (.d (.int 5))) (aCons (eC (.d (.int 20))) (aCons (eC (.d (.int 21))) (aCons (e1 dNeg (eC (.d (.int 1)))) (aCons (eC (.d (.int 999999999))) (aCons (eC (.d (.str ""))) (aCons (eC (.d (.str " "))) (aCons (eC (.d (.str "a"))) (aCons (eC (.d (.str " a"))) (aCons (eC (.d (.str "a "))) (aCons (eC (.d (.str "a b"))) (aCons (eC (.d (.str "\n"))) (aCons (eC (.d (.str "a\n"))) (aCons (eC (.d (.str "\na"))) (aNil))))))))))))))))))))))) (r4_l_odd_one)
def F_l_odd_one : OpN := runB 2 B_l_odd_one
abbrev s_is_whole : Stmt := top 3
abbrev N_is_whole : List Str := ["thing"]
def B_is_whole : MS := sRet (eAnd (e1 (dIsi "int") (eVar 0)) (eNot (e1 (dIsi "bool") (eVar 0))))
def F_is_whole : OpN := runB 1 B_is_whole
abbrev s_is_worth : Stmt := top 6
abbrev N_is_worth : List Str := ["thing"]
def r1_is_worth : MS := sRet (eAnd (e2 (dEq true) (eVar 0) (eC (.d (.str "")))) (eAnd (e2 (dEq false) (eM isStr dStripC (eVar 0) (aCons (eC (.d (.str " "))) (aNil))) (eVar 0)) (e2 (dIn true) (eC (.d (.str "\n"))) (eVar 0))))
def B_is_worth : MS := sSeq (sIf (tNotM (tV (e1 (dIsi "str") (eVar 0)))) (sRet (eOr (eIsN false (eVar 0)) (eN (fCall 1 F_is_whole) (aCons (eVar 0) (aNil))))) (sNext)) (r1_is_worth)
def F_is_worth : OpN := runB 1 B_is_worth
abbrev s_is_form : Stmt := top 11
abbrev N_is_form : List Str := ["thing", "word", "rest"]
def r1_is_form : MS := sRet (eAnd (e2 (dEq false) (eVar 1) (eC (.d (.str "day")))) (eAnd (e1 (dIsi "str") (e2 dIx (eVar 2) (eC (.d (.int 0))))) (e2 (dIn false) (e2 dIx (eVar 2) (eC (.d (.int 0)))) (eC (.d (.tuple [.str "ymd", .str "dmy", .str "mdy"]))))))
def r2_is_form : MS := sSeq (sIf (tV (e2 (dEq false) (eVar 1) (eC (.d (.str "amount"))))) (sRet (eAnd (eN (fCall 1 F_is_whole) (aCons (e2 dIx (eVar 2) (eC (.d (.int 0)))) (aNil))) (eChain dLe dLe (eC (.d (.int 1))) (e2 dIx (eVar 2) (eC (.d (.int 0)))) (eC (.d (.int 4)))))) (sNext)) (r1_is_form)
def r3_is_form : MS := sSeq (sIf (tV (e2 (dEq true) (eN dLen (aCons (eVar 2) (aNil))) (eC (.d (.int 1))))) (sRet (eC (.d (.bool false)))) (sNext)) (r2_is_form)
def r4_is_form : MS := sSeq (sIf (tV (e2 (dEq false) (eVar 1) (eC (.d (.str "whole"))))) (sRet (e2 (dEqX false) (eVar 2) (eN dList (aNil)))) (sNext)) (r3_is_form)
def r5_is_form : MS := sSeq (sAsg (eVar 0) (gStar 1 (gsCons (gN 1) (gsCons (gN 2) (gsNil))))) (r4_is_form)
def B_is_form : MS := sSeq (sIf (tOrM (tNotM (tV (e1 (dIsi "tuple") (eVar 0)))) (tOrM (tV (e2 (dIn true) (eN dLen (aCons (eVar 0) (aNil))) (eN dTup (aCons (eC (.d (.int 1))) (aCons (eC (.d (.int 2))) (aNil)))))) (tNotM (tV (e1 (dIsi "str") (e2 dIx (eVar 0) (eC (.d (.int 0))))))))) (sRet (eC (.d (.bool false)))) (sNext)) (r5_is_form)
def F_is_form : OpN := runB 3 B_is_form
abbrev s_is_name : Stmt := top 4
abbrev N_is_name : List Str := ["thing", "sign"]
def c1_is_name : ME := e2 (dIn false) (eVar 1) (eC (.d (.str "abcdefghijklmnopqrstuvwxyz")))
def B_is_name : MS := sRet (eAnd (e1 (dIsi "str") (eVar 0)) (eAnd (eChain dLe dLe (eC (.d (.int 1))) (eN dLen (aCons (eVar 0) (aNil))) (eC (.d (.int 8)))) (eN (dAll fun ks => ks.all id) (aCons (eLc dList (iSeq (eVar 0)) (gN 1) (tYesM) (c1_is_name) [1]) (aNil)))))
def F_is_name : OpN := runB 2 B_is_name
abbrev s_are_names : Stmt := top 5
abbrev N_are_names : List Str := ["thing", "most", "name"]
def c1_are_names : ME := eN (fCall 1 F_is_name) (aCons (eVar 2) (aNil))
def r1_are_names : MS := sRet (e2 (dEq false) (e1 dLenSetT (eVar 0)) (eN dLen (aCons (eVar 0) (aNil))))
def B_are_names : MS := sSeq (sIf (tOrM (tNotM (tV (e1 (dIsi "tuple") (eVar 0)))) (tOrM (tNotM (tV (eChain dLe dLe (eC (.d (.int 1))) (eN dLen (aCons (eVar 0) (aNil))) (eVar 1)))) (tNotM (tV (eN (dAll fun ks => ks.all id) (aCons (eLc dList (iSeq (eVar 0)) (gN 2) (tYesM) (c1_are_names) [2]) (aNil))))))) (sRet (eC (.d (.bool false)))) (sNext)) (r1_are_names)
def F_are_names : OpN := runB 3 B_are_names
abbrev s_are_widths : Stmt := top 19
abbrev N_are_widths : List Str := ["thing", "many", "width"]
def c1_are_widths : ME := eAnd (eN (fCall 1 F_is_whole) (aCons (eVar 2) (aNil))) (eChain dLe dLe (eC (.d (.int 1))) (eVar 2) (eC (.d (.int 20))))
def r1_are_widths : MS := sRet (eN (dAll fun ks => ks.all id) (aCons (eLc dList (iSeq (eVar 0)) (gN 2) (tYesM) (c1_are_widths) [2]) (aNil)))
def B_are_widths : MS := sSeq (sIf (tOrM (tNotM (tV (e1 (dIsi "tuple") (eVar 0)))) (tV (e2 (dEq true) (eN dLen (aCons (eVar 0) (aNil))) (eVar 1)))) (sRet (eC (.d (.bool false)))) (sNext)) (r1_are_widths)
def F_are_widths : OpN := runB 3 B_are_widths
abbrev s_is_shape : Stmt := top 20
abbrev N_is_shape : List Str := ["thing", "word", "rest"]
def r1_is_shape : MS := sRet (eIf (tV (e2 (dEq false) (eVar 1) (eC (.d (.str "named"))))) (e2 dInX (e2 dIx (eVar 2) (eC (.d (.int 0)))) (eC (.d (.tuple [.str ",", .str ";", .str "|"])))) (eN (fCall 2 F_are_widths) (aCons (e2 dIx (eVar 2) (eC (.d (.int 0)))) (aCons (eN dLen (aCons (e2 dIx (eVar 2) (eC (.d (.int 1)))) (aNil))) (aNil)))))
def r2_is_shape : MS := sSeq (sIf (tV (e2 (dEq false) (eVar 1) (eC (.d (.str "signs"))))) (sRet (eAnd (e2 dInX (e2 dIx (eVar 2) (eC (.d (.int 0)))) (eC (.d (.tuple [.str ",", .str ";", .str "|", .str ":"])))) (e2 dInX (e2 dIx (eVar 2) (eC (.d (.int 1)))) (eC (.d (.tuple [.str "\"", .str "'"])))))) (sNext)) (r1_is_shape)
def r3_is_shape : MS := sSeq (sIf (tOrM (tV (e2 (dEq true) (e1 (dKGet [("signs", 4), ("places", 3), ("named", 3)]) (eVar 1)) (eN dLen (aCons (eVar 0) (aNil))))) (tNotM (tV (eN (fCall 2 F_are_names) (aCons (e2 dIx (eVar 2) (e1 dNeg (eC (.d (.int 1))))) (aCons (eC (.d (.int 6))) (aNil))))))) (sRet (eC (.d (.bool false)))) (sNext)) (r2_is_shape)
def r4_is_shape : MS := sSeq (sAsg (eVar 0) (gStar 1 (gsCons (gN 1) (gsCons (gN 2) (gsNil))))) (r3_is_shape)
def B_is_shape : MS := sSeq (sIf (tOrM (tNotM (tV (e1 (dIsi "tuple") (eVar 0)))) (tOrM (tV (e2 (dEq false) (eN dLen (aCons (eVar 0) (aNil))) (eC (.d (.int 0))))) (tNotM (tV (e1 (dIsi "str") (e2 dIx (eVar 0) (eC (.d (.int 0))))))))) (sRet (eC (.d (.bool false)))) (sNext)) (r4_is_shape)
def F_is_shape : OpN := runB 3 B_is_shape
abbrev s_l_is_worth : Stmt := top 29
abbrev N_l_is_worth : List Str := ["_law_what"]
def r1_l_is_worth : MS := sRet (eAnd (e1 (dIsi "int") (eVar 0)) (eNot (e1 (dIsi "bool") (eVar 0))))
def r2_l_is_worth : MS := sSeq (sIf (tV (e1 (dIsi "str") (eVar 0))) (sRet (eAnd (e2 (dEq true) (eVar 0) (eC (.d (.str "")))) (eAnd (e2 (dEq true) (e2 dIx (eVar 0) (eC (.d (.int 0)))) (eC (.d (.str " ")))) (eAnd (e2 (dEq true) (e2 dIx (eVar 0) (e1 dNeg (eC (.d (.int 1))))) (eC (.d (.str " ")))) (e2 (dIn true) (eC (.d (.str "\n"))) (eVar 0)))))) (sNext)) (r1_l_is_worth)
def B_l_is_worth : MS := sSeq (sIf (tV (eIsN false (eVar 0))) (sRet (eC (.d (.bool true)))) (sNext)) (r2_l_is_worth)
def F_l_is_worth : OpN := runB 1 B_l_is_worth
abbrev s_l_is_form : Stmt := top 32
abbrev N_l_is_form : List Str := ["_law_what", "_law_good", "_law_one"]
def c1_l_is_form : ME := eN dReprE (aCons (eVar 2) (aNil))
def r1_l_is_form : MS := sRet (e2 (dIn false) (eN dReprE (aCons (eVar 0) (aNil))) (eLc dList (iSeq (eVar 1)) (gN 2) (tYesM) (c1_l_is_form) [2]))
def r2_l_is_form : MS := sSeq (sSet 1 (e2 dAdd (eVar 1) (eN dList (aCons (eN dTup (aCons (eC (.d (.str "day"))) (aCons (eC (.d (.str "ymd"))) (aNil)))) (aCons (eN dTup (aCons (eC (.d (.str "day"))) (aCons (eC (.d (.str "dmy"))) (aNil)))) (aCons (eN dTup (aCons (eC (.d (.str "day"))) (aCons (eC (.d (.str "mdy"))) (aNil)))) (aNil))))))) (r1_l_is_form)
def B_l_is_form : MS := sSeq (sSet 1 (eN dList (aCons (eN dTup (aCons (eC (.d (.str "whole"))) (aNil))) (aCons (eN dTup (aCons (eC (.d (.str "amount"))) (aCons (eC (.d (.int 1))) (aNil)))) (aCons (eN dTup (aCons (eC (.d (.str "amount"))) (aCons (eC (.d (.int 2))) (aNil)))) (aCons (eN dTup (aCons (eC (.d (.str "amount"))) (aCons (eC (.d (.int 3))) (aNil)))) (aCons (eN dTup (aCons (eC (.d (.str "amount"))) (aCons (eC (.d (.int 4))) (aNil)))) (aNil)))))))) (r2_l_is_form)
def F_l_is_form : OpN := runB 3 B_l_is_form
abbrev s_l_is_word : Stmt := top 28
abbrev N_l_is_word : List Str := ["_law_what", "_law_one"]
def c1_l_is_word : ME := eChain dLe dLe (eC (.d (.str "a"))) (eVar 1) (eC (.d (.str "z")))
def B_l_is_word : MS := sRet (eAnd (e1 (dIsi "str") (eVar 0)) (eAnd (eChain dLt dLt (eC (.d (.int 0))) (eN dLen (aCons (eVar 0) (aNil))) (eC (.d (.int 9)))) (eN (dAll fun ks => ks.all id) (aCons (eLc dList (iSeq (eVar 0)) (gN 1) (tYesM) (c1_l_is_word) [1]) (aNil)))))
def F_l_is_word : OpN := runB 2 B_l_is_word
abbrev s_l_are_cols : Stmt := top 30
abbrev N_l_are_cols : List Str := ["_law_what", "_law_one"]
def c1_l_are_cols : ME := eN (fCall 1 F_l_is_word) (aCons (eVar 1) (aNil))
def c2_l_are_cols : ME := e2 (dEq false) (eCnt (eVar 0) (eVar 1)) (eC (.d (.int 1)))
def r1_l_are_cols : MS := sRet (eN (dAll fun ks => ks.all id) (aCons (eLc dList (iSeq (eVar 0)) (gN 1) (tYesM) (c2_l_are_cols) [1]) (aNil)))
def B_l_are_cols : MS := sSeq (sIf (tOrM (tNotM (tV (e1 (dIsi "tuple") (eVar 0)))) (tOrM (tNotM (tV (eChain dLt dLt (eC (.d (.int 0))) (eN dLen (aCons (eVar 0) (aNil))) (eC (.d (.int 7)))))) (tNotM (tV (eN (dAll fun ks => ks.all id) (aCons (eLc dList (iSeq (eVar 0)) (gN 1) (tYesM) (c1_l_are_cols) [1]) (aNil))))))) (sRet (eC (.d (.bool false)))) (sNext)) (r1_l_are_cols)
def F_l_are_cols : OpN := runB 2 B_l_are_cols
abbrev s_l_is_shape : Stmt := top 31
abbrev N_l_is_shape : List Str := ["_law_what", "_law_marks", "_law_good", "_law_one", "_law_wide"]
def c1_l_is_shape : ME := eN dReprE (aCons (eVar 3) (aNil))
def r1_l_is_shape : MS := sRet (eAnd (e2 (dEq false) (eN dLen (aCons (eVar 0) (aNil))) (eC (.d (.int 4)))) (eAnd (e2 (dIn false) (eN dReprE (aCons (e2 dIx (eVar 0) (eC (.d (.int 1)))) (aNil))) (eVar 1)) (e2 (dIn false) (eN dReprE (aCons (e2 dIx (eVar 0) (eC (.d (.int 2)))) (aNil))) (eN dList (aCons (eN dReprE (aCons (eC (.d (.str "'"))) (aNil))) (aCons (eN dReprE (aCons (eC (.d (.str "\""))) (aNil))) (aNil)))))))
def c2_l_is_shape : ME := eN dReprE (aCons (eVar 3) (aNil))
def c3_l_is_shape : ME := eN dReprE (aCons (eVar 4) (aNil))
def c4_l_is_shape : ME := e2 (dIn false) (eN dReprE (aCons (eVar 4) (aNil))) (eVar 2)
def r2_l_is_shape : MS := sRet (eAnd (e2 (dEq false) (eN dLen (aCons (e2 dIx (eVar 0) (eC (.d (.int 1)))) (aNil))) (eN dLen (aCons (e2 dIx (eVar 0) (eC (.d (.int 2)))) (aNil)))) (eN (dAll fun ks => ks.all id) (aCons (eLc dList (iSeq (e2 dIx (eVar 0) (eC (.d (.int 1))))) (gN 4) (tYesM) (c4_l_is_shape) [4]) (aNil))))
def r3_l_is_shape : MS := sSeq (sSet 2 (eLc dList (iRng rng2 (aCons (eC (.d (.int 1))) (aCons (eC (.d (.int 21))) (aNil)))) (gN 4) (tYesM) (c3_l_is_shape) [4])) (r2_l_is_shape)
def r4_l_is_shape : MS := sSeq (sIf (tOrM (tV (e2 (dEq true) (eN dReprE (aCons (e2 dIx (eVar 0) (eC (.d (.int 0)))) (aNil))) (eC (.d (.str "'places'"))))) (tOrM (tV (e2 (dEq true) (eN dLen (aCons (eVar 0) (aNil))) (eC (.d (.int 3))))) (tNotM (tV (e1 (dIsi "tuple") (e2 dIx (eVar 0) (eC (.d (.int 1))))))))) (sRet (eC (.d (.bool false)))) (sNext)) (r3_l_is_shape)
def r5_l_is_shape : MS := sSeq (sIf (tV (e2 (dEq false) (eN dReprE (aCons (e2 dIx (eVar 0) (eC (.d (.int 0)))) (aNil))) (eC (.d (.str "'named'"))))) (sRet (eAnd (e2 (dEq false) (eN dLen (aCons (eVar 0) (aNil))) (eC (.d (.int 3)))) (e2 (dIn false) (eN dReprE (aCons (e2 dIx (eVar 0) (eC (.d (.int 1)))) (aNil))) (eLc dList (iSeq (eN dList (aCons (eC (.d (.str ","))) (aCons (eC (.d (.str ";"))) (aCons (eC (.d (.str "|"))) (aNil)))))) (gN 3) (tYesM) (c2_l_is_shape) [3])))) (sNext)) (r4_l_is_shape)
def r6_l_is_shape : MS := sSeq (sIf (tV (e2 (dEq false) (eN dReprE (aCons (e2 dIx (eVar 0) (eC (.d (.int 0)))) (aNil))) (eC (.d (.str "'signs'"))))) (sSeq (sSet 1 (eLc dList (iSeq (eN dList (aCons (eC (.d (.str ","))) (aCons (eC (.d (.str ";"))) (aCons (eC (.d (.str "|"))) (aCons (eC (.d (.str ":"))) (aNil))))))) (gN 3) (tYesM) (c1_l_is_shape) [3])) (r1_l_is_shape)) (sNext)) (r5_l_is_shape)
def B_l_is_shape : MS := sSeq (sIf (tOrM (tNotM (tV (e1 (dIsi "tuple") (eVar 0)))) (tOrM (tNotM (tV (eChain dLt dLt (eC (.d (.int 2))) (eN dLen (aCons (eVar 0) (aNil))) (eC (.d (.int 5)))))) (tNotM (tV (eN (fCall 1 F_l_are_cols) (aCons (e2 dIx (eVar 0) (e1 dNeg (eC (.d (.int 1))))) (aNil))))))) (sRet (eC (.d (.bool false)))) (sNext)) (r6_l_is_shape)
def F_l_is_shape : OpN := runB 5 B_l_is_shape
abbrev s_l_told_right : Stmt := top 33
abbrev N_l_told_right : List Str := ["_law_item", "_law_kept", "_law_told", "_law_due"]
def r1_l_told_right : MS := sRet (eAnd (e2 (dEq false) (eN dReprE (aCons (eVar 2) (aNil))) (eN dReprE (aCons (eVar 3) (aNil)))) (e2 (dEq false) (eN dReprE (aCons (eVar 0) (aNil))) (eVar 1)))
def r2_l_told_right : MS := sSeq (sSet 3 (e2 dAdd (e2 dAdd (eN (dRep 2) (aCons (eN (fCall 1 F_l_is_worth) (aCons (eVar 0) (aNil))) (aNil))) (eN (dRep 2) (aCons (eN (fCall 1 F_l_is_form) (aCons (eVar 0) (aNil))) (aNil)))) (eN (dRep 2) (aCons (eN (fCall 1 F_l_is_shape) (aCons (eVar 0) (aNil))) (aNil))))) (r1_l_told_right)
def r3_l_told_right : MS := sSeq (sSet 2 (e2 dAdd (eVar 2) (eN dList (aCons (eN (fCall 1 F_is_shape) (aCons (eVar 0) (aNil))) (aCons (eCallK 1 1 [0] F_is_shape aNil (aCons (eVar 0) (aNil))) (aNil)))))) (r2_l_told_right)
def r4_l_told_right : MS := sSeq (sSet 2 (eN dList (aCons (eN (fCall 1 F_is_worth) (aCons (eVar 0) (aNil))) (aCons (eCallK 1 1 [0] F_is_worth aNil (aCons (eVar 0) (aNil))) (aCons (eN (fCall 1 F_is_form) (aCons (eVar 0) (aNil))) (aCons (eCallK 1 1 [0] F_is_form aNil (aCons (eVar 0) (aNil))) (aNil))))))) (r3_l_told_right)
def B_l_told_right : MS := sSeq (sSet 1 (eN dReprE (aCons (eVar 0) (aNil)))) (r4_l_told_right)
def F_l_told_right : OpN := runB 4 B_l_told_right
abbrev s_l_bent : Stmt := top 27
abbrev N_l_bent : List Str := ["_law_hand_here", "_law_item", "_law_deep", "_law_way", "_law_at", "_law_odd"]
def r1_l_bent (F_l_bent : OpN) : MS := sRet (e2 dIx (eN dList (aCons (e2 dAdd (eSl (eVar 1) (oNone) (oSome (eVar 4))) (eSl (eVar 1) (oSome (e2 dAdd (eVar 4) (eC (.d (.int 1))))) (oNone))) (aCons (e2 dAdd (eSl (eVar 1) (oNone) (oSome (e2 dAdd (eVar 4) (eC (.d (.int 1)))))) (eSl (eVar 1) (oSome (eVar 4)) (oNone))) (aNil)))) (e2 dSub (eVar 3) (eC (.d (.int 5)))))
def r2_l_bent (F_l_bent : OpN) : MS := sSeq (sIf (tV (e2 (dEq false) (eVar 3) (eC (.d (.int 4))))) (sRet (e2 dIx (eN dList (aCons (eN (dToList dList) (aCons (eVar 1) (aNil))) (aCons (e2 dAdd (e2 dAdd (eSl (eVar 1) (oNone) (oSome (eVar 4))) (eN dTup (aCons (eVar 5) (aNil)))) (eSl (eVar 1) (oSome (eVar 4)) (oNone))) (aNil)))) (eN (fCall 2 F_l_take) (aCons (eVar 0) (aCons (eC (.d (.int 2))) (aNil)))))) (sNext)) ((r1_l_bent F_l_bent))
def r3_l_bent (F_l_bent : OpN) : MS := sSeq (sIf (tOrM (tV (e2 dLt (eVar 3) (eC (.d (.int 4))))) (tV (e2 (dEqX false) (eVar 1) (eN dTup (aNil))))) (sRet (e2 dAdd (e2 dAdd (eSl (eVar 1) (oNone) (oSome (eVar 4))) (eN dTup (aCons (eVar 5) (aNil)))) (eSl (eVar 1) (oSome (e2 dAdd (eVar 4) (eC (.d (.int 1))))) (oNone)))) (sNext)) ((r2_l_bent F_l_bent))
def r4_l_bent (F_l_bent : OpN) : MS := sSeq (sIf (tAndM (tV (e2 dLt (eVar 3) (eC (.d (.int 3))))) (tAndM (tV (e2 dGt (eVar 2) (eC (.d (.int 0))))) (tAndM (tV (e2 (dEqX true) (eVar 1) (eN dTup (aNil)))) (tV (e1 (dIsi "tuple") (e2 dIx (eVar 1) (eVar 4))))))) (sRet (e2 dAdd (e2 dAdd (eSl (eVar 1) (oNone) (oSome (eVar 4))) (eN dTup (aCons (eN (fCall 3 F_l_bent) (aCons (eVar 0) (aCons (e2 dIx (eVar 1) (eVar 4)) (aCons (e2 dSub (eVar 2) (eC (.d (.int 1)))) (aNil))))) (aNil)))) (eSl (eVar 1) (oSome (e2 dAdd (eVar 4) (eC (.d (.int 1))))) (oNone)))) (sNext)) ((r3_l_bent F_l_bent))
def r5_l_bent (F_l_bent : OpN) : MS := sSeq (sSet 5 (eN (fCall 1 F_l_odd_one) (aCons (eVar 0) (aNil)))) ((r4_l_bent F_l_bent))
def B_l_bent (F_l_bent : OpN) : MS := sSeq (sPar 3 4 (aCons (eN (fCall 2 F_l_take) (aCons (eVar 0) (aCons (eC (.d (.int 7))) (aNil)))) (aCons (eN (fCall 2 F_l_take) (aCons (eVar 0) (aCons (eN dMax (aCons (eC (.d (.int 1))) (aCons (eN dLen (aCons (eVar 1) (aNil))) (aNil)))) (aNil)))) (aNil)))) ((r5_l_bent F_l_bent))
def F_l_bent0 : OpN := fun _ _ => .bad
def F_l_bent1 : OpN := runB 6 (B_l_bent F_l_bent0)
def F_l_bent2 : OpN := runB 6 (B_l_bent F_l_bent1)
def F_l_bent : OpN := runB 6 (B_l_bent F_l_bent2)
abbrev s_law : Stmt := top 35
abbrev N_law : List Str := ["_law_script", "_law_k", "_law_hand_here", "_law_cols", "_law_forms", "_law_shapes", "_law_turn", "_law_item", "_law_col", "_law_one"]
def c1_law : ME := eN (fCall 2 F_l_pick) (aCons (eVar 2) (aCons (eN dList (aCons (eC (.d (.int 1))) (aCons (eC (.d (.int 20))) (aCons (eC (.d (.int 7))) (aNil))))) (aNil)))
def c2_law : ME := eN (fCall 1 F_l_odd_one) (aCons (eVar 2) (aNil))
def c3_law : ME := eN (fCall 1 F_l_told_right) (aCons (eVar 9) (aNil))
def r1_law : MS := sIf (tNotM (tV (eN (fCall 1 F_l_told_right) (aCons (eVar 7) (aNil))))) (sRet (eC (.d (.bool false)))) (sNext)
def r2_law : MS := sSeq (sIf (tAndM (tV (e2 (dEq false) (e2 dMod (eVar 6) (eC (.d (.int 4)))) (eC (.d (.int 0))))) (tV (e1 (dIsi "tuple") (eVar 7)))) (sSet 7 (eN (fCall 3 F_l_bent) (aCons (eVar 2) (aCons (eVar 7) (aCons (eC (.d (.int 2))) (aNil)))))) (sNext)) (r1_law)
def w1_law : MS := sSeq (sSet 7 (eN (fCall 3 F_l_bent) (aCons (eVar 2) (aCons (eN (fCall 2 F_l_pick) (aCons (eVar 2) (aCons (e2 dAdd (e2 dAdd (eVar 4) (eVar 5)) (eVar 5)) (aNil)))) (aCons (eC (.d (.int 2))) (aNil)))))) (r2_law)
def r3_law : MS := sFor (iRng rng1 (aCons (eC (.d (.int 24))) (aNil))) (gN 6) (w1_law)
def r4_law : MS := sSeq (sIf (tNotM (tV (eN (dAll fun ks => ks.all id) (aCons (eLc dList (iSeq (e2 dAdd (e2 dAdd (eVar 4) (eVar 5)) (eLc dList (iRng rng1 (aCons (eC (.d (.int 8))) (aNil))) (gN 6) (tYesM) (c2_law) [6]))) (gN 9) (tYesM) (c3_law) [9]) (aNil))))) (sRet (eC (.d (.bool false)))) (sNext)) (r3_law)
def r5_law : MS := sSeq (sDrop (eM isLst dAppend (eVar 5) (aCons (eN dTup (aCons (eC (.d (.str "named"))) (aCons (eN (fCall 2 F_l_pick) (aCons (eVar 2) (aCons (eC (.d (.str ",;|"))) (aNil)))) (aCons (e1 dToTup (eVar 3)) (aNil))))) (aNil)))) (r4_law)
def r6_law : MS := sSeq (sDrop (eM isLst dAppend (eVar 5) (aCons (eN dTup (aCons (eC (.d (.str "places"))) (aCons (e1 dToTup (eLc dList (iSeq (eVar 3)) (gN 8) (tYesM) (c1_law) [8])) (aCons (e1 dToTup (eVar 3)) (aNil))))) (aNil)))) (r5_law)
def r7_law : MS := sSeq (sSet 5 (eN cList (aCons (eN dTup (aCons (eC (.d (.str "signs"))) (aCons (eN (fCall 2 F_l_pick) (aCons (eVar 2) (aCons (eC (.d (.str ",;|:"))) (aNil)))) (aCons (eN (fCall 2 F_l_pick) (aCons (eVar 2) (aCons (eC (.d (.str "\"'"))) (aNil)))) (aCons (e1 dToTup (eVar 3)) (aNil)))))) (aNil)))) (r6_law)
def r8_law : MS := sSeq (sSet 4 (eN dList (aCons (eN dTup (aCons (eC (.d (.str "whole"))) (aNil))) (aCons (eN dTup (aCons (eC (.d (.str "amount"))) (aCons (e2 dAdd (eC (.d (.int 1))) (eN (fCall 2 F_l_take) (aCons (eVar 2) (aCons (eC (.d (.int 4))) (aNil))))) (aNil)))) (aCons (eN dTup (aCons (eC (.d (.str "day"))) (aCons (eN (fCall 2 F_l_pick) (aCons (eVar 2) (aCons (eN dList (aCons (eC (.d (.str "ymd"))) (aCons (eC (.d (.str "dmy"))) (aCons (eC (.d (.str "mdy"))) (aNil))))) (aNil)))) (aNil)))) (aNil)))))) (r7_law)
def r9_law : MS := sSeq (sSet 3 (eSl (eN (fCall 2 F_l_words) (aCons (eVar 2) (aCons (eC (.d (.int 6))) (aNil)))) (oNone) (oSome (e2 dAdd (eC (.d (.int 1))) (eN (fCall 2 F_l_take) (aCons (eVar 2) (aCons (eC (.d (.int 6))) (aNil)))))))) (r8_law)
def r10_law : MS := sSeq (sIf (tNotM (tV (eN (fCall 1 F_l_ranks_right) (aCons (eVar 2) (aNil))))) (sRet (eC (.d (.bool false)))) (sNext)) (r9_law)
def w2_law : MS := sSeq (sSet 2 (eN (fCall 2 F_l_hand) (aCons (eVar 0) (aCons (eVar 1) (aNil))))) (r10_law)
def r11_law : MS := sRet (eC (.d (.bool true)))
def B_law : MS := sSeq (sFor (iRng rng1 (aCons (eN dMax (aCons (eC (.d (.int 1))) (aCons (eN dMin (aCons (eC (.d (.int 4))) (aCons (eN dLen (aCons (eVar 0) (aNil))) (aNil)))) (aNil)))) (aNil))) (gN 1) (w2_law)) (r11_law)
def F_law : OpN := runB 10 B_law
/-! ### 2. Each def keeps its data form -/
abbrev GG (K : PySem.W.Frag) : GT := ⟨K, fun _ => none⟩
structure Tx (K : PySem.W.Frag) (mg : Str → Option Value) : Prop where
  b_abs : mg "abs" = none
  b_all : mg "all" = none
  b_bool : mg "bool" = none
  b_int : mg "int" = none
  b_isinstance : mg "isinstance" = none
  b_len : mg "len" = none
  b_list : mg "list" = none
  b_max : mg "max" = none
  b_min : mg "min" = none
  b_range : mg "range" = none
  b_repr : mg "repr" = none
  b_set : mg "set" = none
  b_sorted : mg "sorted" = none
  b_str : mg "str" = none
  b_tuple : mg "tuple" = none
  c_LETTERS : ∃ t, mg "LETTERS" = some (.str "abcdefghijklmnopqrstuvwxyz" t)
  c_MOST_COLUMNS : ∃ t, mg "MOST_COLUMNS" = some (.int 6 t)
  c_MOST_LETTERS : ∃ t, mg "MOST_LETTERS" = some (.int 8 t)
  c_MOST_PLACES : ∃ t, mg "MOST_PLACES" = some (.int 4 t)
  c_MOST_WIDTH : ∃ t, mg "MOST_WIDTH" = some (.int 20 t)
  c_NAMED_SIGNS : ∃ a, mg "NAMED_SIGNS" = some (.ref a) ∧ ∀ I : Hp, Rp K I (.ref a) (.tuple [.str ",", .str ";", .str "|"])
  c_ORDERS : ∃ a, mg "ORDERS" = some (.ref a) ∧ ∀ I : Hp, Rp K I (.ref a) (.tuple [.str "ymd", .str "dmy", .str "mdy"])
  c_QUOTES : ∃ a, mg "QUOTES" = some (.ref a) ∧ ∀ I : Hp, Rp K I (.ref a) (.tuple [.str "\"", .str "'"])
  c_SIGNS : ∃ a, mg "SIGNS" = some (.ref a) ∧ ∀ I : Hp, Rp K I (.ref a) (.tuple [.str ",", .str ";", .str "|", .str ":"])
section
variable {P : Program} {w : World} {K : PySem.W.Frag} {mg : Str → Option Value} {base : Heap}
theorem sc_l_hand : FnScope N_l_hand ["_law_script", "_law_k"] (defScope s_l_hand) := ⟨rfl, rfl, rfl, by decide +kernel, rfl, by decide +kernel, by decide +kernel⟩
theorem ok_l_hand {f : Addr} {fd : FuncData} (F : Fun K "_law_hand" "_law_hand" s_l_hand f fd) (T : Tx K mg) : FnG P w K mg base 1 f fd ["_law_script", "_law_k"] (spD (GG K) 2 F_l_hand) := by
  have sc := sc_l_hand
  refine fn_okG (G := GG K) F sc fun cdv A outer s H E g hr tk po => ?_
  exact dss_cons (ds_set (i := 2) sc.nd (de_ifExp (dt_cmp op_ltA ok_cmp (de_var 1) (de_callB call_len ok_len (by rfl) T.b_len (by decide +kernel) (da_cons (de_var 0) (da_nil)))) (de_ix ix_seq ok_ix (de_var 0) (de_var 1)) (de_int))) (dss_cons (ds_set (i := 3) sc.nd (de_ifExp (dt_cmp op_geA ok_cmp (de_callB call_abs ok_abs (by rfl) T.b_abs (by decide +kernel) (da_cons (de_var 2) (da_nil))) (de_op op_pow ok_pow (de_int) (de_int))) (de_op op_mod ok_mod (de_callB call_abs ok_abs (by rfl) T.b_abs (by decide +kernel) (da_cons (de_var 2) (da_nil))) (de_op op_mulA ok_mulA (de_op op_mulA ok_mulA (de_op op_pow ok_pow (de_int) (de_int)) (de_op op_pow ok_pow (de_int) (de_int))) (de_op op_pow ok_pow (de_int) (de_int)))) (de_int))) (dss_one (ds_ret (de_lstC (da_cons (de_var 3) (da_cons (de_op op_mod ok_mod (de_op op_addA ok_add (de_op op_addA ok_add (de_op op_mulA ok_mulA (de_op op_mod ok_mod (de_var 2) (de_int)) (de_int)) (de_op op_mulA ok_mulA (de_int) (de_var 1))) (de_int)) (de_int)) (da_cons (de_int) (da_nil))))))))
theorem sc_l_take : FnScope N_l_take ["_law_hand_here", "_law_many"] (defScope s_l_take) := ⟨rfl, rfl, rfl, by decide +kernel, rfl, by decide +kernel, by decide +kernel⟩
theorem ok_l_take {f : Addr} {fd : FuncData} (F : Fun K "_law_take" "_law_take" s_l_take f fd) (T : Tx K mg) : FnG P w K mg base 1 f fd ["_law_hand_here", "_law_many"] (spD (GG K) 2 F_l_take) := by
  have sc := sc_l_take
  refine fn_okG (G := GG K) F sc fun cdv A outer s H E g hr tk po => ?_
  exact dss_cons (ds_if (dt_cmp op_gtA ok_cmp (de_ix ix_seq ok_ix (de_var 0) (de_int)) (de_int)) (dss_cons (ds_set (i := 2) sc.nd (de_op op_mod ok_mod (de_ix ix_seq ok_ix (de_var 0) (de_int)) (de_var 1))) (dss_cons (ds_setIx (de_op op_fdivW ok_div (de_ix ix_seq ok_ix (de_var 0) (de_int)) (de_var 1)) (de_var 0) (de_int)) (dss_one (ds_ret (de_var 2))))) (dss_nil)) (dss_cons (ds_set (i := 3) sc.nd (de_op op_addA ok_add (de_ix ix_seq ok_ix (de_var 0) (de_int)) (de_int))) (dss_cons (ds_setIx (de_var 3) (de_var 0) (de_int)) (dss_cons (ds_set (i := 4) sc.nd (de_op op_addA ok_add (de_ix ix_seq ok_ix (de_var 0) (de_int)) (de_op op_mulA ok_mulA (de_int) (de_var 3)))) (dss_cons (ds_set (i := 5) sc.nd (de_op op_addA ok_add (de_op op_addA ok_add (de_op op_mod ok_mod (de_ix ix_seq ok_ix (de_var 0) (de_int)) (de_int)) (de_op op_mulA ok_mulA (de_int) (de_var 3))) (de_int))) (dss_cons (ds_set (i := 6) sc.nd (de_op op_mod ok_mod (de_op op_mulA ok_mulA (de_var 4) (de_var 5)) (de_int))) (dss_cons (ds_set (i := 7) sc.nd (de_op op_addA ok_add (de_op op_addA ok_add (de_op op_mod ok_mod (de_var 6) (de_int)) (de_op op_mulA ok_mulA (de_int) (de_var 3))) (de_int))) (dss_one (ds_ret (de_op op_mod ok_mod (de_op op_fdivW ok_div (de_op op_mod ok_mod (de_op op_mulA ok_mulA (de_op op_addA ok_add (de_var 6) (de_int)) (de_var 7)) (de_int)) (de_int)) (de_var 1))))))))))
theorem sc_l_pick : FnScope N_l_pick ["_law_hand_here", "_law_some"] (defScope s_l_pick) := ⟨rfl, rfl, rfl, by decide +kernel, rfl, by decide +kernel, by decide +kernel⟩
theorem ok_l_pick {f : Addr} {fd : FuncData} (F : Fun K "_law_pick" "_law_pick" s_l_pick f fd) (T : Tx K mg) (C_l_take : Cal P w (GG K) mg base "_law_take" 1 ["_law_hand_here", "_law_many"] [] F_l_take) : FnG P w K mg base 2 f fd ["_law_hand_here", "_law_some"] (spD (GG K) 2 F_l_pick) := by
  have sc := sc_l_pick
  refine fn_okG (G := GG K) F sc fun cdv A outer s H E g hr tk po => ?_
  exact dss_one (ds_ret (de_ix ix_seq ok_ix (de_var 1) (de_calC rfl C_l_take (by exact g) (by exact hr.mono (by decide)) tk (by rfl) (da_cons (de_var 0) (da_cons (de_callB call_len ok_len (by rfl) T.b_len (by decide +kernel) (da_cons (de_var 1) (da_nil))) (da_nil))))))
theorem sc_rank : FnScope N_rank ["worth"] (defScope s_rank) := ⟨rfl, rfl, rfl, by decide +kernel, rfl, by decide +kernel, by decide +kernel⟩
theorem ok_rank {f : Addr} {fd : FuncData} (F : Fun K "rank" "rank" s_rank f fd) (T : Tx K mg) : FnG P w K mg base 1 f fd ["worth"] (spD (GG K) 1 F_rank) := by
  have sc := sc_rank
  refine fn_okG (G := GG K) F sc fun cdv A outer s H E g hr tk po => ?_
  exact dss_one (ds_ret (de_ifExp (dt_isN (de_var 0)) (de_tup (da_cons (de_int) (da_cons (de_int) (da_nil)))) (de_tup (da_cons (de_int) (da_cons (de_var 0) (da_nil))))))
theorem sc_l_ranks_right : FnScope N_l_ranks_right ["_law_hand_here"] (defScope s_l_ranks_right) := ⟨rfl, rfl, rfl, by decide +kernel, rfl, by decide +kernel, by decide +kernel⟩
theorem ok_l_ranks_right {f : Addr} {fd : FuncData} (F : Fun K "_law_ranks_right" "_law_ranks_right" s_l_ranks_right f fd) (T : Tx K mg) (C_l_take : Cal P w (GG K) mg base "_law_take" 1 ["_law_hand_here", "_law_many"] [] F_l_take) (C_l_pick : Cal P w (GG K) mg base "_law_pick" 2 ["_law_hand_here", "_law_some"] [] F_l_pick) (C_rank : Cal P w (GG K) mg base "rank" 1 ["worth"] [(["worth"], [0])] F_rank) (KF_rank : KeyF P w K mg "rank") : FnG P w K mg base 3 f fd ["_law_hand_here"] (spD (GG K) 1 F_l_ranks_right) := by
  have sc := sc_l_ranks_right
  refine fn_okG (G := GG K) F sc fun cdv A outer s H E g hr tk po => ?_
  exact dss_cons (ds_set (i := 1) sc.nd (de_op op_addA ok_add (de_lc [("_law_k", 5)] fin_list rfl sc.nd (di_range1 (by rfl) T.b_range (da_cons (de_int) (da_nil))) (blkOk_by (N := N_l_ranks_right) (sc := defScope s_l_ranks_right) (by decide +kernel)) (fun _ _ _ _ _ => dg_name (i := 5) sc.nd) (fun _ _ _ _ _ => dts_nil) (fun _ _ _ _ _ => de_op op_sub ok_sub (de_calC rfl C_l_take (by exact g) (by exact hr.mono (by decide)) takes0 (by rfl) (da_cons (de_var 0) (da_cons (de_int) (da_nil)))) (de_int))) (de_lst (da_cons (de_non) (da_nil))))) (dss_cons (ds_set (i := 2) sc.nd (de_op op_addA ok_add (de_lc [("_law_k", 5)] fin_list rfl sc.nd (di_range1 (by rfl) T.b_range (da_cons (de_int) (da_nil))) (blkOk_by (N := N_l_ranks_right) (sc := defScope s_l_ranks_right) (by decide +kernel)) (fun _ _ _ _ _ => dg_name (i := 5) sc.nd) (fun _ _ _ _ _ => dts_nil) (fun _ _ _ _ _ => de_calC rfl C_l_pick (by exact g) (by exact hr.mono (by decide)) takes0 (by rfl) (da_cons (de_var 0) (da_cons (de_lst (da_cons (de_str) (da_cons (de_str) (da_cons (de_str) (da_cons (de_str) (da_cons (de_str) (da_cons (de_str) (da_cons (de_str) (da_cons (de_str) (da_cons (de_str) (da_nil))))))))))) (da_nil))))) (de_lst (da_cons (de_non) (da_nil))))) (dss_cons (ds_for po rfl (di_seq rfl (de_tup (da_cons (de_var 1) (da_cons (de_var 2) (da_nil))))) (dg_name (i := 3) sc.nd) (dss_cons (ds_set (i := 4) sc.nd (de_op op_addA ok_add (de_lst (da_cons (de_non) (da_nil))) (de_callB (cr_sortD (by exact hr.units)) ok_sortD (by rfl) T.b_sorted (by decide +kernel) (da_cons (de_lc [("_law_one", 6)] fin_list rfl sc.nd (di_seq rfl (de_var 3)) (blkOk_by (N := N_l_ranks_right) (sc := defScope s_l_ranks_right) (by decide +kernel)) (fun _ _ _ _ _ => dg_name (i := 6) sc.nd) (fun _ _ _ _ _ => dts_one (dt_notN (de_var 6))) (fun _ _ _ _ _ => de_var 6)) (da_nil))))) (dss_cons (ds_if (dw_pt (dw_or (dt_cmp (op_neA (by exact hr.units)) ok_ne (de_sortK rfl KF_rank (by exact hr.depth) (by exact hr.units) (by rfl) T.b_sorted (by rfl) (de_var 3)) (de_var 4)) (dw_or1 (dt_cmp (op_neA (by exact hr.units)) ok_ne (de_lc [("_law_one", 6)] fin_list rfl sc.nd (di_seq rfl (de_var 3)) (blkOk_by (N := N_l_ranks_right) (sc := defScope s_l_ranks_right) (by decide +kernel)) (fun _ _ _ _ _ => dg_name (i := 6) sc.nd) (fun _ _ _ _ _ => dts_nil) (fun _ _ _ _ _ => de_calK ["worth"] [0] rfl C_rank (by exact g) (by exact hr.mono (by decide)) takes0 (by rfl) (dk_cons (de_var 6) (dk_nil)) (by simp))) (de_lc [("_law_one", 6)] fin_list rfl sc.nd (di_seq rfl (de_var 3)) (blkOk_by (N := N_l_ranks_right) (sc := defScope s_l_ranks_right) (by decide +kernel)) (fun _ _ _ _ _ => dg_name (i := 6) sc.nd) (fun _ _ _ _ _ => dts_nil) (fun _ _ _ _ _ => de_calC rfl C_rank (by exact g) (by exact hr.mono (by decide)) takes0 (by rfl) (da_cons (de_var 6) (da_nil)))))))) (dss_one (ds_ret (de_bl))) (dss_nil)) (dss_one (ds_if (dt_cmp (op_neA (by exact hr.units)) ok_ne (de_lc [("_law_one", 6)] fin_list rfl sc.nd (di_seq rfl (de_var 4)) (blkOk_by (N := N_l_ranks_right) (sc := defScope s_l_ranks_right) (by decide +kernel)) (fun _ _ _ _ _ => dg_name (i := 6) sc.nd) (fun _ _ _ _ _ => dts_nil) (fun _ _ _ _ _ => de_calC rfl C_rank (by exact g) (by exact hr.mono (by decide)) takes0 (by rfl) (da_cons (de_var 6) (da_nil)))) (de_op op_addA ok_add (de_lst (da_cons (de_tup (da_cons (de_int) (da_cons (de_int) (da_nil)))) (da_nil))) (de_lc [("_law_one", 6)] fin_list rfl sc.nd (di_seq rfl (de_slice rfl (de_var 4) (do_some (de_int)) (do_none))) (blkOk_by (N := N_l_ranks_right) (sc := defScope s_l_ranks_right) (by decide +kernel)) (fun _ _ _ _ _ => dg_name (i := 6) sc.nd) (fun _ _ _ _ _ => dts_nil) (fun _ _ _ _ _ => de_tup (da_cons (de_int) (da_cons (de_var 6) (da_nil))))))) (dss_one (ds_ret (de_bl))) (dss_nil)))))) (dss_one (ds_ret (de_bl)))))
theorem sc_l_words : FnScope N_l_words ["_law_hand_here", "_law_many"] (defScope s_l_words) := ⟨rfl, rfl, rfl, by decide +kernel, rfl, by decide +kernel, by decide +kernel⟩
theorem ok_l_words {f : Addr} {fd : FuncData} (F : Fun K "_law_words" "_law_words" s_l_words f fd) (T : Tx K mg) (C_l_take : Cal P w (GG K) mg base "_law_take" 1 ["_law_hand_here", "_law_many"] [] F_l_take) (C_l_pick : Cal P w (GG K) mg base "_law_pick" 2 ["_law_hand_here", "_law_some"] [] F_l_pick) : FnG P w K mg base 3 f fd ["_law_hand_here", "_law_many"] (spD (GG K) 2 F_l_words) := by
  have sc := sc_l_words
  refine fn_okG (G := GG K) F sc fun cdv A outer s H E g hr tk po => ?_
  exact dss_cons (ds_set (i := 2) sc.nd (de_str)) (dss_cons (ds_par (i := 3) (j := 4) rfl sc.nd (da_cons (de_calC rfl C_l_take (by exact g) (by exact hr.mono (by decide)) tk (by rfl) (da_cons (de_var 0) (da_cons (de_int) (da_nil)))) (da_cons (de_calC rfl C_l_pick (by exact g) (by exact hr.mono (by decide)) tk (by rfl) (da_cons (de_var 0) (da_cons (de_lst (da_cons (de_int) (da_cons (de_int) (da_cons (de_int) (da_cons (de_int) (da_cons (de_int) (da_nil))))))) (da_nil)))) (da_nil)))) (dss_cons (ds_set (i := 5) sc.nd (de_bm PySem.F.plainAttrs_str PySem.F.slot_str_join PySem.F.type_str_join mt_join ok_join ty_str rfl (de_str) (da_cons (de_lc [("_law_k", 8)] fin_list rfl sc.nd (di_range1 (by rfl) T.b_range (da_cons (de_calC rfl C_l_pick (by exact g) (by exact hr.mono (by decide)) tk (by rfl) (da_cons (de_var 0) (da_cons (de_lst (da_cons (de_int) (da_cons (de_int) (da_cons (de_int) (da_cons (de_int) (da_cons (de_int) (da_nil))))))) (da_nil)))) (da_nil))) (blkOk_by (N := N_l_words) (sc := defScope s_l_words) (by decide +kernel)) (fun _ _ _ _ _ => dg_name (i := 8) sc.nd) (fun _ _ _ _ _ => dts_nil) (fun _ _ _ _ _ => de_calC rfl C_l_pick (by exact g) (by exact hr.mono (by decide)) takes0 (by rfl) (da_cons (de_var 0) (da_cons (de_var 2) (da_nil))))) (da_nil)))) (dss_cons (ds_par (i := 6) (j := 7) rfl sc.nd (da_cons (de_calC rfl C_l_take (by exact g) (by exact hr.mono (by decide)) tk (by rfl) (da_cons (de_var 0) (da_cons (de_op op_addA ok_add (de_callB call_len ok_len (by rfl) T.b_len (by decide +kernel) (da_cons (de_var 5) (da_nil))) (de_int)) (da_nil)))) (da_cons (de_lstC (da_nil)) (da_nil)))) (dss_cons (ds_for po rfl (di_range1 (by rfl) T.b_range (da_cons (de_var 1) (da_nil))) (dg_name (i := 8) sc.nd) (dss_cons (ds_set (i := 9) sc.nd (de_op op_mod ok_mod (de_op op_addA ok_add (de_var 3) (de_op op_mulA ok_mulA (de_var 4) (de_var 8))) (de_int))) (dss_cons (ds_set (i := 10) sc.nd (de_op op_addA ok_add (de_ix ix_seq ok_ix (de_var 2) (de_op op_fdivW ok_div (de_var 9) (de_int))) (de_ix ix_seq ok_ix (de_var 2) (de_op op_mod ok_mod (de_var 9) (de_int))))) (dss_one (ds_expr (de_bm PySem.F.plainAttrs_list PySem.F.slot_list_append PySem.F.type_list_append mt_append ok_append ty_lst rfl (de_var 7) (da_cons (de_op op_addA ok_add (de_op op_addA ok_add (de_slice rfl (de_var 5) (do_none) (do_some (de_var 6))) (de_var 10)) (de_slice rfl (de_var 5) (do_some (de_var 6)) (do_none))) (da_nil)))))))) (dss_one (ds_ret (de_var 7)))))))
theorem sc_l_odd_one : FnScope N_l_odd_one ["_law_hand_here"] (defScope s_l_odd_one) := ⟨rfl, rfl, rfl, by decide +kernel, rfl, by decide +kernel, by decide +kernel⟩
theorem ok_l_odd_one {f : Addr} {fd : FuncData} (F : Fun K "_law_odd_one" "_law_odd_one" s_l_odd_one f fd) (T : Tx K mg) (C_l_pick : Cal P w (GG K) mg base "_law_pick" 2 ["_law_hand_here", "_law_some"] [] F_l_pick) : FnG P w K mg base 3 f fd ["_law_hand_here"] (spD (GG K) 1 F_l_odd_one) := by
  have sc := sc_l_odd_one
  refine fn_okG (G := GG K) F sc fun cdv A outer s H E g hr tk po => ?_
  exact dss_cons (ds_set (i := 1) sc.nd (de_lst (da_cons (de_non) (da_cons (de_bl) (da_cons (de_bl) (da_cons (de_int) (da_cons (de_int) (da_cons (de_int) (da_cons (de_int) (da_cons (de_int) (da_cons (de_int) (da_cons (de_un un_neg ok_neg (de_int)) (da_cons (de_int) (da_cons (de_str) (da_cons (de_str) (da_cons (de_str) (da_cons (de_str) (da_cons (de_str) (da_cons (de_str) (da_cons (de_str) (da_cons (de_str) (da_cons (de_str) (da_nil))))))))))))))))))))))) (dss_cons (ds_set (i := 1) sc.nd (de_op op_addA ok_add (de_var 1) (de_lst (da_cons (de_str) (da_cons (de_str) (da_cons (de_str) (da_cons (de_str) (da_cons (de_str) (da_cons (de_str) (da_cons (de_str) (da_cons (de_str) (da_cons (de_str) (da_cons (de_str) (da_cons (de_str) (da_cons (de_str) (da_cons (de_str) (da_nil))))))))))))))))) (dss_cons (ds_set (i := 1) sc.nd (de_op op_addA ok_add (de_var 1) (de_lst (da_cons (de_str) (da_cons (de_str) (da_nil)))))) (dss_cons (ds_set (i := 1) sc.nd (de_op op_addA ok_add (de_var 1) (de_lst (da_cons (de_str) (da_cons (de_op op_mulA ok_mulA (de_str) (de_int)) (da_cons (de_tup (da_nil)) (da_cons (de_lst (da_nil)) (da_cons (de_dic0) (da_cons (de_tup (da_cons (de_str) (da_nil))) (da_cons (de_lst (da_cons (de_str) (da_nil))) (da_cons (de_tup (da_cons (de_str) (da_cons (de_int) (da_nil)))) (da_cons (de_tup (da_cons (de_str) (da_nil))) (da_cons (de_tup (da_cons (de_str) (da_cons (de_str) (da_nil)))) (da_cons (de_tup (da_cons (de_int) (da_nil))) (da_cons (de_tup (da_cons (de_tup (da_nil)) (da_nil))) (da_nil)))))))))))))))) (dss_one (ds_ret (de_calC rfl C_l_pick (by exact g) (by exact hr.mono (by decide)) tk (by rfl) (da_cons (de_var 0) (da_cons (de_var 1) (da_nil)))))))))
theorem sc_is_whole : FnScope N_is_whole ["thing"] (defScope s_is_whole) := ⟨rfl, rfl, rfl, by decide +kernel, rfl, by decide +kernel, by decide +kernel⟩
theorem ok_is_whole {f : Addr} {fd : FuncData} (F : Fun K "is_whole" "is_whole" s_is_whole f fd) (T : Tx K mg) : FnG P w K mg base 1 f fd ["thing"] (spD (GG K) 1 F_is_whole) := by
  have sc := sc_is_whole
  refine fn_okG (G := GG K) F sc fun cdv A outer s H E g hr tk po => ?_
  exact dss_one (ds_ret (de_and (de_isi (T := "int") rfl (by decide) (by rfl) T.b_isinstance (by rfl) T.b_int (by decide +kernel) (de_var 0)) (de_one (de_not (de_isi (T := "bool") rfl (by decide) (by rfl) T.b_isinstance (by rfl) T.b_bool (by decide +kernel) (de_var 0))))))
theorem sc_is_worth : FnScope N_is_worth ["thing"] (defScope s_is_worth) := ⟨rfl, rfl, rfl, by decide +kernel, rfl, by decide +kernel, by decide +kernel⟩
theorem ok_is_worth {f : Addr} {fd : FuncData} (F : Fun K "is_worth" "is_worth" s_is_worth f fd) (T : Tx K mg) (C_is_whole : Cal P w (GG K) mg base "is_whole" 1 ["thing"] [] F_is_whole) : FnG P w K mg base 2 f fd ["thing"] (spD (GG K) 1 F_is_worth) := by
  have sc := sc_is_worth
  refine fn_okG (G := GG K) F sc fun cdv A outer s H E g hr tk po => ?_
  exact dss_cons (ds_if (dt_not (dt_val (de_isi (T := "str") rfl (by decide) (by rfl) T.b_isinstance (by rfl) T.b_str (by decide +kernel) (de_var 0)))) (dss_one (ds_ret (de_or (de_isN (de_var 0)) (de_one (de_calC rfl C_is_whole (by exact g) (by exact hr.mono (by decide)) tk (by rfl) (da_cons (de_var 0) (da_nil))))))) (dss_nil)) (dss_one (ds_ret (de_and (de_cmp (op_neA (by exact hr.units)) ok_ne (de_var 0) (de_str)) (de_and (de_cmp (op_eqA (by exact hr.units)) ok_eq (de_bm PySem.F.plainAttrs_str PySem.F.slot_str_strip PySem.F.type_str_strip mt_stripChars ok_stripC ty_str rfl (de_var 0) (da_cons (de_str) (da_nil))) (de_var 0)) (de_one (de_cmp op_notInA ok_in (de_str) (de_var 0)))))))
theorem sc_is_form : FnScope N_is_form ["thing"] (defScope s_is_form) := ⟨rfl, rfl, rfl, by decide +kernel, rfl, by decide +kernel, by decide +kernel⟩
theorem ok_is_form {f : Addr} {fd : FuncData} (F : Fun K "is_form" "is_form" s_is_form f fd) (T : Tx K mg) (C_is_whole : Cal P w (GG K) mg base "is_whole" 1 ["thing"] [] F_is_whole) : FnG P w K mg base 2 f fd ["thing"] (spD (GG K) 1 F_is_form) := by
  have sc := sc_is_form
  obtain ⟨t_MOST_PLACES, c_MOST_PLACES⟩ := T.c_MOST_PLACES
  obtain ⟨a_ORDERS, c_ORDERS, r_ORDERS⟩ := T.c_ORDERS
  refine fn_okG (G := GG K) F sc fun cdv A outer s H E g hr tk po => ?_
  exact dss_cons (ds_if (dw_pt (dw_or (dt_not (dt_val (de_isi (T := "tuple") rfl (by decide) (by rfl) T.b_isinstance (by rfl) T.b_tuple (by decide +kernel) (de_var 0)))) (dw_or (dt_cmp op_notInA ok_in (de_callB call_len ok_len (by rfl) T.b_len (by decide +kernel) (da_cons (de_var 0) (da_nil))) (de_tup (da_cons (de_int) (da_cons (de_int) (da_nil))))) (dw_or1 (dt_not (dt_val (de_isi (T := "str") rfl (by decide) (by rfl) T.b_isinstance (by rfl) T.b_str (by decide +kernel) (de_ix ix_seq ok_ix (de_var 0) (de_int))))))))) (dss_one (ds_ret (de_bl))) (dss_nil)) (dss_cons (ds_asg (de_var 0) (dg_star rfl rfl (dgs_cons (dg_name (i := 1) sc.nd) (dgs_star (dg_name (i := 2) sc.nd) (dgs_nil))))) (dss_cons (ds_if (dt_cmp (op_eqA (by exact hr.units)) ok_eq (de_var 1) (de_str)) (dss_one (ds_ret (de_cmp (op_eqX (by exact hr.units)) ok_eqX (de_var 2) (de_lst (da_nil))))) (dss_nil)) (dss_cons (ds_if (dt_cmp (op_neA (by exact hr.units)) ok_ne (de_callB call_len ok_len (by rfl) T.b_len (by decide +kernel) (da_cons (de_var 2) (da_nil))) (de_int)) (dss_one (ds_ret (de_bl))) (dss_nil)) (dss_cons (ds_if (dt_cmp (op_eqA (by exact hr.units)) ok_eq (de_var 1) (de_str)) (dss_one (ds_ret (de_and (de_calC rfl C_is_whole (by exact g) (by exact hr.mono (by decide)) tk (by rfl) (da_cons (de_ix ix_seq ok_ix (de_var 2) (de_int)) (da_nil))) (de_one (de_chain op_leA ok_cmp op_leA ok_cmp (de_int) (de_ix ix_seq ok_ix (de_var 2) (de_int)) (de_glob (v := V.int 4) (by rfl) c_MOST_PLACES (by exact ⟨_, rfl⟩) (fun _ => Rp.int _))))))) (dss_nil)) (dss_one (ds_ret (de_and (de_cmp (op_eqA (by exact hr.units)) ok_eq (de_var 1) (de_str)) (de_and (de_isi (T := "str") rfl (by decide) (by rfl) T.b_isinstance (by rfl) T.b_str (by decide +kernel) (de_ix ix_seq ok_ix (de_var 2) (de_int))) (de_one (de_cmp op_inA ok_in (de_ix ix_seq ok_ix (de_var 2) (de_int)) (de_glob (v := V.ref a_ORDERS) (by rfl) c_ORDERS rfl (fun w => r_ORDERS w.I))))))))))))
theorem sc_is_name : FnScope N_is_name ["thing"] (defScope s_is_name) := ⟨rfl, rfl, rfl, by decide +kernel, rfl, by decide +kernel, by decide +kernel⟩
theorem ok_is_name {f : Addr} {fd : FuncData} (F : Fun K "is_name" "is_name" s_is_name f fd) (T : Tx K mg) : FnG P w K mg base 1 f fd ["thing"] (spD (GG K) 1 F_is_name) := by
  have sc := sc_is_name
  obtain ⟨t_LETTERS, c_LETTERS⟩ := T.c_LETTERS
  obtain ⟨t_MOST_LETTERS, c_MOST_LETTERS⟩ := T.c_MOST_LETTERS
  refine fn_okG (G := GG K) F sc fun cdv A outer s H E g hr tk po => ?_
  exact dss_one (ds_ret (de_and (de_isi (T := "str") rfl (by decide) (by rfl) T.b_isinstance (by rfl) T.b_str (by decide +kernel) (de_var 0)) (de_and (de_chain op_leA ok_cmp op_leA ok_cmp (de_int) (de_callB call_len ok_len (by rfl) T.b_len (by decide +kernel) (da_cons (de_var 0) (da_nil))) (de_glob (v := V.int 8) (by rfl) c_MOST_LETTERS (by exact ⟨_, rfl⟩) (fun _ => Rp.int _))) (de_one (de_callB (cr_all rfl) ok_all (by rfl) T.b_all (by decide +kernel) (da_cons (de_lc [("sign", 1)] fin_list rfl sc.nd (di_seq rfl (de_var 0)) (blkOk_by (N := N_is_name) (sc := defScope s_is_name) (by decide +kernel)) (fun _ _ _ _ _ => dg_name (i := 1) sc.nd) (fun _ _ _ _ _ => dts_nil) (fun _ _ _ _ _ => de_cmp op_inA ok_in (de_var 1) (de_glob (v := V.str "abcdefghijklmnopqrstuvwxyz") (by rfl) c_LETTERS (by exact ⟨_, rfl⟩) (fun _ => Rp.str _)))) (da_nil)))))))
theorem sc_are_names : FnScope N_are_names ["thing", "most"] (defScope s_are_names) := ⟨rfl, rfl, rfl, by decide +kernel, rfl, by decide +kernel, by decide +kernel⟩
theorem ok_are_names {f : Addr} {fd : FuncData} (F : Fun K "are_names" "are_names" s_are_names f fd) (T : Tx K mg) (C_is_name : Cal P w (GG K) mg base "is_name" 1 ["thing"] [] F_is_name) : FnG P w K mg base 2 f fd ["thing", "most"] (spD (GG K) 2 F_are_names) := by
  have sc := sc_are_names
  refine fn_okG (G := GG K) F sc fun cdv A outer s H E g hr tk po => ?_
  exact dss_cons (ds_if (dw_pt (dw_or (dt_not (dt_val (de_isi (T := "tuple") rfl (by decide) (by rfl) T.b_isinstance (by rfl) T.b_tuple (by decide +kernel) (de_var 0)))) (dw_or (dt_not (dt_chain op_leA ok_cmp op_leA ok_cmp (de_int) (de_callB call_len ok_len (by rfl) T.b_len (by decide +kernel) (da_cons (de_var 0) (da_nil))) (de_var 1))) (dw_or1 (dt_not (dt_val (de_callB (cr_all rfl) ok_all (by rfl) T.b_all (by decide +kernel) (da_cons (de_lc [("name", 2)] fin_list rfl sc.nd (di_seq rfl (de_var 0)) (blkOk_by (N := N_are_names) (sc := defScope s_are_names) (by decide +kernel)) (fun _ _ _ _ _ => dg_name (i := 2) sc.nd) (fun _ _ _ _ _ => dts_nil) (fun _ _ _ _ _ => de_calC rfl C_is_name (by exact g) (by exact hr.mono (by decide)) takes0 (by rfl) (da_cons (de_var 2) (da_nil)))) (da_nil))))))))) (dss_one (ds_ret (de_bl))) (dss_nil)) (dss_one (ds_ret (de_cmp (op_eqA (by exact hr.units)) ok_eq (de_lenSetT rfl (by rfl) T.b_len (by rfl) T.b_set (de_var 0)) (de_callB call_len ok_len (by rfl) T.b_len (by decide +kernel) (da_cons (de_var 0) (da_nil))))))
theorem sc_are_widths : FnScope N_are_widths ["thing", "many"] (defScope s_are_widths) := ⟨rfl, rfl, rfl, by decide +kernel, rfl, by decide +kernel, by decide +kernel⟩
theorem ok_are_widths {f : Addr} {fd : FuncData} (F : Fun K "are_widths" "are_widths" s_are_widths f fd) (T : Tx K mg) (C_is_whole : Cal P w (GG K) mg base "is_whole" 1 ["thing"] [] F_is_whole) : FnG P w K mg base 2 f fd ["thing", "many"] (spD (GG K) 2 F_are_widths) := by
  have sc := sc_are_widths
  obtain ⟨t_MOST_WIDTH, c_MOST_WIDTH⟩ := T.c_MOST_WIDTH
  refine fn_okG (G := GG K) F sc fun cdv A outer s H E g hr tk po => ?_
  exact dss_cons (ds_if (dw_pt (dw_or (dt_not (dt_val (de_isi (T := "tuple") rfl (by decide) (by rfl) T.b_isinstance (by rfl) T.b_tuple (by decide +kernel) (de_var 0)))) (dw_or1 (dt_cmp (op_neA (by exact hr.units)) ok_ne (de_callB call_len ok_len (by rfl) T.b_len (by decide +kernel) (da_cons (de_var 0) (da_nil))) (de_var 1))))) (dss_one (ds_ret (de_bl))) (dss_nil)) (dss_one (ds_ret (de_callB (cr_all rfl) ok_all (by rfl) T.b_all (by decide +kernel) (da_cons (de_lc [("width", 2)] fin_list rfl sc.nd (di_seq rfl (de_var 0)) (blkOk_by (N := N_are_widths) (sc := defScope s_are_widths) (by decide +kernel)) (fun _ _ _ _ _ => dg_name (i := 2) sc.nd) (fun _ _ _ _ _ => dts_nil) (fun _ _ _ _ _ => de_and (de_calC rfl C_is_whole (by exact g) (by exact hr.mono (by decide)) takes0 (by rfl) (da_cons (de_var 2) (da_nil))) (de_one (de_chain op_leA ok_cmp op_leA ok_cmp (de_int) (de_var 2) (de_glob (v := V.int 20) (by rfl) c_MOST_WIDTH (by exact ⟨_, rfl⟩) (fun _ => Rp.int _)))))) (da_nil)))))
theorem sc_is_shape : FnScope N_is_shape ["thing"] (defScope s_is_shape) := ⟨rfl, rfl, rfl, by decide +kernel, rfl, by decide +kernel, by decide +kernel⟩
theorem ok_is_shape {f : Addr} {fd : FuncData} (F : Fun K "is_shape" "is_shape" s_is_shape f fd) (T : Tx K mg) (C_are_names : Cal P w (GG K) mg base "are_names" 2 ["thing", "most"] [] F_are_names) (C_are_widths : Cal P w (GG K) mg base "are_widths" 2 ["thing", "many"] [] F_are_widths) (KT_LONG : ∃ a, mg "LONG" = some (.ref a) ∧ KTab K w a [("signs", 4), ("places", 3), ("named", 3)]) : FnG P w K mg base 3 f fd ["thing"] (spD (GG K) 1 F_is_shape) := by
  have sc := sc_is_shape
  obtain ⟨t_MOST_COLUMNS, c_MOST_COLUMNS⟩ := T.c_MOST_COLUMNS
  obtain ⟨a_NAMED_SIGNS, c_NAMED_SIGNS, r_NAMED_SIGNS⟩ := T.c_NAMED_SIGNS
  obtain ⟨a_QUOTES, c_QUOTES, r_QUOTES⟩ := T.c_QUOTES
  obtain ⟨a_SIGNS, c_SIGNS, r_SIGNS⟩ := T.c_SIGNS
  refine fn_okG (G := GG K) F sc fun cdv A outer s H E g hr tk po => ?_
  exact dss_cons (ds_if (dw_pt (dw_or (dt_not (dt_val (de_isi (T := "tuple") rfl (by decide) (by rfl) T.b_isinstance (by rfl) T.b_tuple (by decide +kernel) (de_var 0)))) (dw_or (dt_cmp (op_eqA (by exact hr.units)) ok_eq (de_callB call_len ok_len (by rfl) T.b_len (by decide +kernel) (da_cons (de_var 0) (da_nil))) (de_int)) (dw_or1 (dt_not (dt_val (de_isi (T := "str") rfl (by decide) (by rfl) T.b_isinstance (by rfl) T.b_str (by decide +kernel) (de_ix ix_seq ok_ix (de_var 0) (de_int))))))))) (dss_one (ds_ret (de_bl))) (dss_nil)) (dss_cons (ds_asg (de_var 0) (dg_star rfl rfl (dgs_cons (dg_name (i := 1) sc.nd) (dgs_star (dg_name (i := 2) sc.nd) (dgs_nil))))) (dss_cons (ds_if (dw_pt (dw_or (dt_cmp (op_neA (by exact hr.units)) ok_ne (de_kget KT_LONG (by rfl) (de_var 1)) (de_callB call_len ok_len (by rfl) T.b_len (by decide +kernel) (da_cons (de_var 0) (da_nil)))) (dw_or1 (dt_not (dt_val (de_calC rfl C_are_names (by exact g) (by exact hr.mono (by decide)) tk (by rfl) (da_cons (de_ix ix_seq ok_ix (de_var 2) (de_un un_neg ok_neg (de_int))) (da_cons (de_glob (v := V.int 6) (by rfl) c_MOST_COLUMNS (by exact ⟨_, rfl⟩) (fun _ => Rp.int _)) (da_nil))))))))) (dss_one (ds_ret (de_bl))) (dss_nil)) (dss_cons (ds_if (dt_cmp (op_eqA (by exact hr.units)) ok_eq (de_var 1) (de_str)) (dss_one (ds_ret (de_and (de_cmp (op_inX (by exact hr.units)) ok_inX (de_ix ix_seq ok_ix (de_var 2) (de_int)) (de_glob (v := V.ref a_SIGNS) (by rfl) c_SIGNS rfl (fun w => r_SIGNS w.I))) (de_one (de_cmp (op_inX (by exact hr.units)) ok_inX (de_ix ix_seq ok_ix (de_var 2) (de_int)) (de_glob (v := V.ref a_QUOTES) (by rfl) c_QUOTES rfl (fun w => r_QUOTES w.I))))))) (dss_nil)) (dss_one (ds_ret (de_ifExp (dt_cmp (op_eqA (by exact hr.units)) ok_eq (de_var 1) (de_str)) (de_cmp (op_inX (by exact hr.units)) ok_inX (de_ix ix_seq ok_ix (de_var 2) (de_int)) (de_glob (v := V.ref a_NAMED_SIGNS) (by rfl) c_NAMED_SIGNS rfl (fun w => r_NAMED_SIGNS w.I))) (de_calC rfl C_are_widths (by exact g) (by exact hr.mono (by decide)) tk (by rfl) (da_cons (de_ix ix_seq ok_ix (de_var 2) (de_int)) (da_cons (de_callB call_len ok_len (by rfl) T.b_len (by decide +kernel) (da_cons (de_ix ix_seq ok_ix (de_var 2) (de_int)) (da_nil))) (da_nil))))))))))
theorem sc_l_is_worth : FnScope N_l_is_worth ["_law_what"] (defScope s_l_is_worth) := ⟨rfl, rfl, rfl, by decide +kernel, rfl, by decide +kernel, by decide +kernel⟩
theorem ok_l_is_worth {f : Addr} {fd : FuncData} (F : Fun K "_law_is_worth" "_law_is_worth" s_l_is_worth f fd) (T : Tx K mg) : FnG P w K mg base 1 f fd ["_law_what"] (spD (GG K) 1 F_l_is_worth) := by
  have sc := sc_l_is_worth
  refine fn_okG (G := GG K) F sc fun cdv A outer s H E g hr tk po => ?_
  exact dss_cons (ds_if (dt_isN (de_var 0)) (dss_one (ds_ret (de_bl))) (dss_nil)) (dss_cons (ds_if (dt_val (de_isi (T := "str") rfl (by decide) (by rfl) T.b_isinstance (by rfl) T.b_str (by decide +kernel) (de_var 0))) (dss_one (ds_ret (de_and (de_cmp (op_neA (by exact hr.units)) ok_ne (de_var 0) (de_str)) (de_and (de_cmp (op_neA (by exact hr.units)) ok_ne (de_ix ix_seq ok_ix (de_var 0) (de_int)) (de_str)) (de_and (de_cmp (op_neA (by exact hr.units)) ok_ne (de_ix ix_seq ok_ix (de_var 0) (de_un un_neg ok_neg (de_int))) (de_str)) (de_one (de_cmp op_notInA ok_in (de_str) (de_var 0)))))))) (dss_nil)) (dss_one (ds_ret (de_and (de_isi (T := "int") rfl (by decide) (by rfl) T.b_isinstance (by rfl) T.b_int (by decide +kernel) (de_var 0)) (de_one (de_not (de_isi (T := "bool") rfl (by decide) (by rfl) T.b_isinstance (by rfl) T.b_bool (by decide +kernel) (de_var 0))))))))
theorem sc_l_is_form : FnScope N_l_is_form ["_law_what"] (defScope s_l_is_form) := ⟨rfl, rfl, rfl, by decide +kernel, rfl, by decide +kernel, by decide +kernel⟩
theorem ok_l_is_form {f : Addr} {fd : FuncData} (F : Fun K "_law_is_form" "_law_is_form" s_l_is_form f fd) (T : Tx K mg) : FnG P w K mg base 1 f fd ["_law_what"] (spD (GG K) 1 F_l_is_form) := by
  have sc := sc_l_is_form
  refine fn_okG (G := GG K) F sc fun cdv A outer s H E g hr tk po => ?_
  exact dss_cons (ds_set (i := 1) sc.nd (de_lst (da_cons (de_tup (da_cons (de_str) (da_nil))) (da_cons (de_tup (da_cons (de_str) (da_cons (de_int) (da_nil)))) (da_cons (de_tup (da_cons (de_str) (da_cons (de_int) (da_nil)))) (da_cons (de_tup (da_cons (de_str) (da_cons (de_int) (da_nil)))) (da_cons (de_tup (da_cons (de_str) (da_cons (de_int) (da_nil)))) (da_nil)))))))) (dss_cons (ds_set (i := 1) sc.nd (de_op op_addA ok_add (de_var 1) (de_lst (da_cons (de_tup (da_cons (de_str) (da_cons (de_str) (da_nil)))) (da_cons (de_tup (da_cons (de_str) (da_cons (de_str) (da_nil)))) (da_cons (de_tup (da_cons (de_str) (da_cons (de_str) (da_nil)))) (da_nil))))))) (dss_one (ds_ret (de_cmp op_inA ok_in (de_callB (call_reprE (by exact g) (by exact hr.units)) ok_reprE (by rfl) T.b_repr (by decide +kernel) (da_cons (de_var 0) (da_nil))) (de_lc [("_law_one", 2)] fin_list rfl sc.nd (di_seq rfl (de_var 1)) (blkOk_by (N := N_l_is_form) (sc := defScope s_l_is_form) (by decide +kernel)) (fun _ _ _ _ _ => dg_name (i := 2) sc.nd) (fun _ _ _ _ _ => dts_nil) (fun _ _ _ _ _ => de_callB (call_reprE (by exact g) (by exact hr.units)) ok_reprE (by rfl) T.b_repr (by decide +kernel) (da_cons (de_var 2) (da_nil))))))))
theorem sc_l_is_word : FnScope N_l_is_word ["_law_what"] (defScope s_l_is_word) := ⟨rfl, rfl, rfl, by decide +kernel, rfl, by decide +kernel, by decide +kernel⟩
theorem ok_l_is_word {f : Addr} {fd : FuncData} (F : Fun K "_law_is_word" "_law_is_word" s_l_is_word f fd) (T : Tx K mg) : FnG P w K mg base 1 f fd ["_law_what"] (spD (GG K) 1 F_l_is_word) := by
  have sc := sc_l_is_word
  refine fn_okG (G := GG K) F sc fun cdv A outer s H E g hr tk po => ?_
  exact dss_one (ds_ret (de_and (de_isi (T := "str") rfl (by decide) (by rfl) T.b_isinstance (by rfl) T.b_str (by decide +kernel) (de_var 0)) (de_and (de_chain op_ltA ok_cmp op_ltA ok_cmp (de_int) (de_callB call_len ok_len (by rfl) T.b_len (by decide +kernel) (da_cons (de_var 0) (da_nil))) (de_int)) (de_one (de_callB (cr_all rfl) ok_all (by rfl) T.b_all (by decide +kernel) (da_cons (de_lc [("_law_one", 1)] fin_list rfl sc.nd (di_seq rfl (de_var 0)) (blkOk_by (N := N_l_is_word) (sc := defScope s_l_is_word) (by decide +kernel)) (fun _ _ _ _ _ => dg_name (i := 1) sc.nd) (fun _ _ _ _ _ => dts_nil) (fun _ _ _ _ _ => de_chain op_leA ok_cmp op_leA ok_cmp (de_str) (de_var 1) (de_str))) (da_nil)))))))
theorem sc_l_are_cols : FnScope N_l_are_cols ["_law_what"] (defScope s_l_are_cols) := ⟨rfl, rfl, rfl, by decide +kernel, rfl, by decide +kernel, by decide +kernel⟩
theorem ok_l_are_cols {f : Addr} {fd : FuncData} (F : Fun K "_law_are_cols" "_law_are_cols" s_l_are_cols f fd) (T : Tx K mg) (C_l_is_word : Cal P w (GG K) mg base "_law_is_word" 1 ["_law_what"] [] F_l_is_word) : FnG P w K mg base 2 f fd ["_law_what"] (spD (GG K) 1 F_l_are_cols) := by
  have sc := sc_l_are_cols
  refine fn_okG (G := GG K) F sc fun cdv A outer s H E g hr tk po => ?_
  exact dss_cons (ds_if (dw_pt (dw_or (dt_not (dt_val (de_isi (T := "tuple") rfl (by decide) (by rfl) T.b_isinstance (by rfl) T.b_tuple (by decide +kernel) (de_var 0)))) (dw_or (dt_not (dt_chain op_ltA ok_cmp op_ltA ok_cmp (de_int) (de_callB call_len ok_len (by rfl) T.b_len (by decide +kernel) (da_cons (de_var 0) (da_nil))) (de_int))) (dw_or1 (dt_not (dt_val (de_callB (cr_all rfl) ok_all (by rfl) T.b_all (by decide +kernel) (da_cons (de_lc [("_law_one", 1)] fin_list rfl sc.nd (di_seq rfl (de_var 0)) (blkOk_by (N := N_l_are_cols) (sc := defScope s_l_are_cols) (by decide +kernel)) (fun _ _ _ _ _ => dg_name (i := 1) sc.nd) (fun _ _ _ _ _ => dts_nil) (fun _ _ _ _ _ => de_calC rfl C_l_is_word (by exact g) (by exact hr.mono (by decide)) takes0 (by rfl) (da_cons (de_var 1) (da_nil)))) (da_nil))))))))) (dss_one (ds_ret (de_bl))) (dss_nil)) (dss_one (ds_ret (de_callB (cr_all rfl) ok_all (by rfl) T.b_all (by decide +kernel) (da_cons (de_lc [("_law_one", 1)] fin_list rfl sc.nd (di_seq rfl (de_var 0)) (blkOk_by (N := N_l_are_cols) (sc := defScope s_l_are_cols) (by decide +kernel)) (fun _ _ _ _ _ => dg_name (i := 1) sc.nd) (fun _ _ _ _ _ => dts_nil) (fun _ _ _ _ _ => de_cmp (op_eqA (by exact hr.units)) ok_eq (de_tcount rfl (by exact hr.units) (de_var 0) (de_var 1)) (de_int))) (da_nil)))))
theorem sc_l_is_shape : FnScope N_l_is_shape ["_law_what"] (defScope s_l_is_shape) := ⟨rfl, rfl, rfl, by decide +kernel, rfl, by decide +kernel, by decide +kernel⟩
theorem ok_l_is_shape {f : Addr} {fd : FuncData} (F : Fun K "_law_is_shape" "_law_is_shape" s_l_is_shape f fd) (T : Tx K mg) (C_l_are_cols : Cal P w (GG K) mg base "_law_are_cols" 2 ["_law_what"] [] F_l_are_cols) : FnG P w K mg base 3 f fd ["_law_what"] (spD (GG K) 1 F_l_is_shape) := by
  have sc := sc_l_is_shape
  refine fn_okG (G := GG K) F sc fun cdv A outer s H E g hr tk po => ?_
  exact dss_cons (ds_if (dw_pt (dw_or (dt_not (dt_val (de_isi (T := "tuple") rfl (by decide) (by rfl) T.b_isinstance (by rfl) T.b_tuple (by decide +kernel) (de_var 0)))) (dw_or (dt_not (dt_chain op_ltA ok_cmp op_ltA ok_cmp (de_int) (de_callB call_len ok_len (by rfl) T.b_len (by decide +kernel) (da_cons (de_var 0) (da_nil))) (de_int))) (dw_or1 (dt_not (dt_val (de_calC rfl C_l_are_cols (by exact g) (by exact hr.mono (by decide)) tk (by rfl) (da_cons (de_ix ix_seq ok_ix (de_var 0) (de_un un_neg ok_neg (de_int))) (da_nil))))))))) (dss_one (ds_ret (de_bl))) (dss_nil)) (dss_cons (ds_if (dt_cmp (op_eqA (by exact hr.units)) ok_eq (de_callB (call_reprE (by exact g) (by exact hr.units)) ok_reprE (by rfl) T.b_repr (by decide +kernel) (da_cons (de_ix ix_seq ok_ix (de_var 0) (de_int)) (da_nil))) (de_str)) (dss_cons (ds_setLc (i := 1) [("_law_one", 3)] fin_list rfl sc.nd (di_seq rfl (de_lst (da_cons (de_str) (da_cons (de_str) (da_cons (de_str) (da_cons (de_str) (da_nil))))))) (blkOk_by (N := N_l_is_shape) (sc := defScope s_l_is_shape) (by decide +kernel)) (fun _ _ _ _ _ => dg_name (i := 3) sc.nd) (fun _ _ _ _ _ => dts_nil) (fun _ _ _ _ _ => de_callB (call_reprE (by exact g) (by exact hr.units)) ok_reprE (by rfl) T.b_repr (by decide +kernel) (da_cons (de_var 3) (da_nil)))) (dss_one (ds_ret (de_and (de_cmp (op_eqA (by exact hr.units)) ok_eq (de_callB call_len ok_len (by rfl) T.b_len (by decide +kernel) (da_cons (de_var 0) (da_nil))) (de_int)) (de_and (de_cmp op_inA ok_in (de_callB (call_reprE (by exact g) (by exact hr.units)) ok_reprE (by rfl) T.b_repr (by decide +kernel) (da_cons (de_ix ix_seq ok_ix (de_var 0) (de_int)) (da_nil))) (de_var 1)) (de_one (de_cmp op_inA ok_in (de_callB (call_reprE (by exact g) (by exact hr.units)) ok_reprE (by rfl) T.b_repr (by decide +kernel) (da_cons (de_ix ix_seq ok_ix (de_var 0) (de_int)) (da_nil))) (de_lst (da_cons (de_callB (call_reprE (by exact g) (by exact hr.units)) ok_reprE (by rfl) T.b_repr (by decide +kernel) (da_cons (de_str) (da_nil))) (da_cons (de_callB (call_reprE (by exact g) (by exact hr.units)) ok_reprE (by rfl) T.b_repr (by decide +kernel) (da_cons (de_str) (da_nil))) (da_nil))))))))))) (dss_nil)) (dss_cons (ds_if (dt_cmp (op_eqA (by exact hr.units)) ok_eq (de_callB (call_reprE (by exact g) (by exact hr.units)) ok_reprE (by rfl) T.b_repr (by decide +kernel) (da_cons (de_ix ix_seq ok_ix (de_var 0) (de_int)) (da_nil))) (de_str)) (dss_one (ds_ret (de_and (de_cmp (op_eqA (by exact hr.units)) ok_eq (de_callB call_len ok_len (by rfl) T.b_len (by decide +kernel) (da_cons (de_var 0) (da_nil))) (de_int)) (de_one (de_cmp op_inA ok_in (de_callB (call_reprE (by exact g) (by exact hr.units)) ok_reprE (by rfl) T.b_repr (by decide +kernel) (da_cons (de_ix ix_seq ok_ix (de_var 0) (de_int)) (da_nil))) (de_lc [("_law_one", 3)] fin_list rfl sc.nd (di_seq rfl (de_lst (da_cons (de_str) (da_cons (de_str) (da_cons (de_str) (da_nil)))))) (blkOk_by (N := N_l_is_shape) (sc := defScope s_l_is_shape) (by decide +kernel)) (fun _ _ _ _ _ => dg_name (i := 3) sc.nd) (fun _ _ _ _ _ => dts_nil) (fun _ _ _ _ _ => de_callB (call_reprE (by exact g) (by exact hr.units)) ok_reprE (by rfl) T.b_repr (by decide +kernel) (da_cons (de_var 3) (da_nil))))))))) (dss_nil)) (dss_cons (ds_if (dw_pt (dw_or (dt_cmp (op_neA (by exact hr.units)) ok_ne (de_callB (call_reprE (by exact g) (by exact hr.units)) ok_reprE (by rfl) T.b_repr (by decide +kernel) (da_cons (de_ix ix_seq ok_ix (de_var 0) (de_int)) (da_nil))) (de_str)) (dw_or (dt_cmp (op_neA (by exact hr.units)) ok_ne (de_callB call_len ok_len (by rfl) T.b_len (by decide +kernel) (da_cons (de_var 0) (da_nil))) (de_int)) (dw_or1 (dt_not (dt_val (de_isi (T := "tuple") rfl (by decide) (by rfl) T.b_isinstance (by rfl) T.b_tuple (by decide +kernel) (de_ix ix_seq ok_ix (de_var 0) (de_int))))))))) (dss_one (ds_ret (de_bl))) (dss_nil)) (dss_cons (ds_set (i := 2) sc.nd (de_lc [("_law_wide", 4)] fin_list rfl sc.nd (di_range2 (by rfl) T.b_range (da_cons (de_int) (da_cons (de_int) (da_nil)))) (blkOk_by (N := N_l_is_shape) (sc := defScope s_l_is_shape) (by decide +kernel)) (fun _ _ _ _ _ => dg_name (i := 4) sc.nd) (fun _ _ _ _ _ => dts_nil) (fun _ _ _ _ _ => de_callB (call_reprE (by exact g) (by exact hr.units)) ok_reprE (by rfl) T.b_repr (by decide +kernel) (da_cons (de_var 4) (da_nil))))) (dss_one (ds_ret (de_and (de_cmp (op_eqA (by exact hr.units)) ok_eq (de_callB call_len ok_len (by rfl) T.b_len (by decide +kernel) (da_cons (de_ix ix_seq ok_ix (de_var 0) (de_int)) (da_nil))) (de_callB call_len ok_len (by rfl) T.b_len (by decide +kernel) (da_cons (de_ix ix_seq ok_ix (de_var 0) (de_int)) (da_nil)))) (de_one (de_callB (cr_all rfl) ok_all (by rfl) T.b_all (by decide +kernel) (da_cons (de_lc [("_law_wide", 4)] fin_list rfl sc.nd (di_seq rfl (de_ix ix_seq ok_ix (de_var 0) (de_int))) (blkOk_by (N := N_l_is_shape) (sc := defScope s_l_is_shape) (by decide +kernel)) (fun _ _ _ _ _ => dg_name (i := 4) sc.nd) (fun _ _ _ _ _ => dts_nil) (fun _ _ _ _ _ => de_cmp op_inA ok_in (de_callB (call_reprE (by exact g) (by exact hr.units)) ok_reprE (by rfl) T.b_repr (by decide +kernel) (da_cons (de_var 4) (da_nil))) (de_var 2))) (da_nil)))))))))))
theorem sc_l_told_right : FnScope N_l_told_right ["_law_item"] (defScope s_l_told_right) := ⟨rfl, rfl, rfl, by decide +kernel, rfl, by decide +kernel, by decide +kernel⟩
theorem ok_l_told_right {f : Addr} {fd : FuncData} (F : Fun K "_law_told_right" "_law_told_right" s_l_told_right f fd) (T : Tx K mg) (C_is_worth : Cal P w (GG K) mg base "is_worth" 2 ["thing"] [(["thing"], [0])] F_is_worth) (C_is_form : Cal P w (GG K) mg base "is_form" 2 ["thing"] [(["thing"], [0])] F_is_form) (C_is_shape : Cal P w (GG K) mg base "is_shape" 3 ["thing"] [(["thing"], [0])] F_is_shape) (C_l_is_worth : Cal P w (GG K) mg base "_law_is_worth" 1 ["_law_what"] [] F_l_is_worth) (C_l_is_form : Cal P w (GG K) mg base "_law_is_form" 1 ["_law_what"] [] F_l_is_form) (C_l_is_shape : Cal P w (GG K) mg base "_law_is_shape" 3 ["_law_what"] [] F_l_is_shape) : FnG P w K mg base 4 f fd ["_law_item"] (spD (GG K) 1 F_l_told_right) := by
  have sc := sc_l_told_right
  refine fn_okG (G := GG K) F sc fun cdv A outer s H E g hr tk po => ?_
  exact dss_cons (ds_set (i := 1) sc.nd (de_callB (call_reprE (by exact g) (by exact hr.units)) ok_reprE (by rfl) T.b_repr (by decide +kernel) (da_cons (de_var 0) (da_nil)))) (dss_cons (ds_set (i := 2) sc.nd (de_lst (da_cons (de_calC rfl C_is_worth (by exact g) (by exact hr.mono (by decide)) tk (by rfl) (da_cons (de_var 0) (da_nil))) (da_cons (de_calK ["thing"] [0] rfl C_is_worth (by exact g) (by exact hr.mono (by decide)) tk (by rfl) (dk_cons (de_var 0) (dk_nil)) (by simp)) (da_cons (de_calC rfl C_is_form (by exact g) (by exact hr.mono (by decide)) tk (by rfl) (da_cons (de_var 0) (da_nil))) (da_cons (de_calK ["thing"] [0] rfl C_is_form (by exact g) (by exact hr.mono (by decide)) tk (by rfl) (dk_cons (de_var 0) (dk_nil)) (by simp)) (da_nil))))))) (dss_cons (ds_set (i := 2) sc.nd (de_op op_addA ok_add (de_var 2) (de_lst (da_cons (de_calC rfl C_is_shape (by exact g) (by exact hr.mono (by decide)) tk (by rfl) (da_cons (de_var 0) (da_nil))) (da_cons (de_calK ["thing"] [0] rfl C_is_shape (by exact g) (by exact hr.mono (by decide)) tk (by rfl) (dk_cons (de_var 0) (dk_nil)) (by simp)) (da_nil)))))) (dss_cons (ds_set (i := 3) sc.nd (de_op op_addA ok_add (de_op op_addA ok_add (de_rep 2 (by decide) (by decide) (da_cons (de_calC rfl C_l_is_worth (by exact g) (by exact hr.mono (by decide)) tk (by rfl) (da_cons (de_var 0) (da_nil))) (da_nil))) (de_rep 2 (by decide) (by decide) (da_cons (de_calC rfl C_l_is_form (by exact g) (by exact hr.mono (by decide)) tk (by rfl) (da_cons (de_var 0) (da_nil))) (da_nil)))) (de_rep 2 (by decide) (by decide) (da_cons (de_calC rfl C_l_is_shape (by exact g) (by exact hr.mono (by decide)) tk (by rfl) (da_cons (de_var 0) (da_nil))) (da_nil))))) (dss_one (ds_ret (de_and (de_cmp (op_eqA (by exact hr.units)) ok_eq (de_callB (call_reprE (by exact g) (by exact hr.units)) ok_reprE (by rfl) T.b_repr (by decide +kernel) (da_cons (de_var 2) (da_nil))) (de_callB (call_reprE (by exact g) (by exact hr.units)) ok_reprE (by rfl) T.b_repr (by decide +kernel) (da_cons (de_var 3) (da_nil)))) (de_one (de_cmp (op_eqA (by exact hr.units)) ok_eq (de_callB (call_reprE (by exact g) (by exact hr.units)) ok_reprE (by rfl) T.b_repr (by decide +kernel) (da_cons (de_var 0) (da_nil))) (de_var 1)))))))))
theorem sc_l_bent : FnScope N_l_bent ["_law_hand_here", "_law_item", "_law_deep"] (defScope s_l_bent) := ⟨rfl, rfl, rfl, by decide +kernel, rfl, by decide +kernel, by decide +kernel⟩
theorem ok_l_bent0 {f : Addr} {fd : FuncData} : FnG P w K mg base 4 f fd ["_law_hand_here", "_law_item", "_law_deep"] (spD (GG K) 3 F_l_bent0) := ⟨fun vs H Q E h => h.1, fun A outer s H args us vs Q E _ _ _ _ _ h => by obtain ⟨_, w, μ, bs, _, _, p⟩ := h; exact p.elim⟩



theorem ok_l_bent1 {f : Addr} {fd : FuncData} (F : Fun K "_law_bent" "_law_bent" s_l_bent f fd) (T : Tx K mg) (C_l_take : Cal P w (GG K) mg base "_law_take" 1 ["_law_hand_here", "_law_many"] [] F_l_take) (C_l_odd_one : Cal P w (GG K) mg base "_law_odd_one" 3 ["_law_hand_here"] [] F_l_odd_one) (C_l_bent : Cal P w (GG K) mg base "_law_bent" 4 ["_law_hand_here", "_law_item", "_law_deep"] [] F_l_bent0) : FnG P w K mg base 5 f fd ["_law_hand_here", "_law_item", "_law_deep"] (spD (GG K) 3 F_l_bent1) := by
  have sc := sc_l_bent
  refine fn_okG (G := GG K) F sc fun cdv A outer s H E g hr tk po => ?_
  exact dss_cons (ds_par (i := 3) (j := 4) rfl sc.nd (da_cons (de_calC rfl C_l_take (by exact g) (by exact hr.mono (by decide)) tk (by rfl) (da_cons (de_var 0) (da_cons (de_int) (da_nil)))) (da_cons (de_calC rfl C_l_take (by exact g) (by exact hr.mono (by decide)) tk (by rfl) (da_cons (de_var 0) (da_cons (de_callB (call_max2 rfl) ok_max (by rfl) T.b_max (by decide +kernel) (da_cons (de_int) (da_cons (de_callB call_len ok_len (by rfl) T.b_len (by decide +kernel) (da_cons (de_var 1) (da_nil))) (da_nil)))) (da_nil)))) (da_nil)))) (dss_cons (ds_set (i := 5) sc.nd (de_calC rfl C_l_odd_one (by exact g) (by exact hr.mono (by decide)) tk (by rfl) (da_cons (de_var 0) (da_nil)))) (dss_cons (ds_if (dw_pt (dw_and (dt_cmp op_ltA ok_cmp (de_var 3) (de_int)) (dw_and (dt_cmp op_gtA ok_cmp (de_var 2) (de_int)) (dw_and (dt_cmp (op_neX (by exact hr.units)) ok_neX (de_var 1) (de_tup (da_nil))) (dw_and1 (dt_val (de_isi (T := "tuple") rfl (by decide) (by rfl) T.b_isinstance (by rfl) T.b_tuple (by decide +kernel) (de_ix ix_seq ok_ix (de_var 1) (de_var 4))))))))) (dss_one (ds_ret (de_op op_addA ok_add (de_op op_addA ok_add (de_slice rfl (de_var 1) (do_none) (do_some (de_var 4))) (de_tup (da_cons (de_calC rfl C_l_bent (by exact g) (by exact hr.mono (by decide)) tk (by rfl) (da_cons (de_var 0) (da_cons (de_ix ix_seq ok_ix (de_var 1) (de_var 4)) (da_cons (de_op op_sub ok_sub (de_var 2) (de_int)) (da_nil))))) (da_nil)))) (de_slice rfl (de_var 1) (do_some (de_op op_addA ok_add (de_var 4) (de_int))) (do_none))))) (dss_nil)) (dss_cons (ds_if (dw_pt (dw_or (dt_cmp op_ltA ok_cmp (de_var 3) (de_int)) (dw_or1 (dt_cmp (op_eqX (by exact hr.units)) ok_eqX (de_var 1) (de_tup (da_nil)))))) (dss_one (ds_ret (de_op op_addA ok_add (de_op op_addA ok_add (de_slice rfl (de_var 1) (do_none) (do_some (de_var 4))) (de_tup (da_cons (de_var 5) (da_nil)))) (de_slice rfl (de_var 1) (do_some (de_op op_addA ok_add (de_var 4) (de_int))) (do_none))))) (dss_nil)) (dss_cons (ds_if (dt_cmp (op_eqA (by exact hr.units)) ok_eq (de_var 3) (de_int)) (dss_one (ds_ret (de_ix ix_seq ok_ix (de_lst (da_cons (de_callTy call_listOf ok_listOf (by rfl) T.b_list (by decide +kernel) (da_cons (de_var 1) (da_nil))) (da_cons (de_op op_addA ok_add (de_op op_addA ok_add (de_slice rfl (de_var 1) (do_none) (do_some (de_var 4))) (de_tup (da_cons (de_var 5) (da_nil)))) (de_slice rfl (de_var 1) (do_some (de_var 4)) (do_none))) (da_nil)))) (de_calC rfl C_l_take (by exact g) (by exact hr.mono (by decide)) tk (by rfl) (da_cons (de_var 0) (da_cons (de_int) (da_nil))))))) (dss_nil)) (dss_one (ds_ret (de_ix ix_seq ok_ix (de_lst (da_cons (de_op op_addA ok_add (de_slice rfl (de_var 1) (do_none) (do_some (de_var 4))) (de_slice rfl (de_var 1) (do_some (de_op op_addA ok_add (de_var 4) (de_int))) (do_none))) (da_cons (de_op op_addA ok_add (de_slice rfl (de_var 1) (do_none) (do_some (de_op op_addA ok_add (de_var 4) (de_int)))) (de_slice rfl (de_var 1) (do_some (de_var 4)) (do_none))) (da_nil)))) (de_op op_sub ok_sub (de_var 3) (de_int)))))))))
theorem ok_l_bent2 {f : Addr} {fd : FuncData} (F : Fun K "_law_bent" "_law_bent" s_l_bent f fd) (T : Tx K mg) (C_l_take : Cal P w (GG K) mg base "_law_take" 1 ["_law_hand_here", "_law_many"] [] F_l_take) (C_l_odd_one : Cal P w (GG K) mg base "_law_odd_one" 3 ["_law_hand_here"] [] F_l_odd_one) (C_l_bent : Cal P w (GG K) mg base "_law_bent" 5 ["_law_hand_here", "_law_item", "_law_deep"] [] F_l_bent1) : FnG P w K mg base 6 f fd ["_law_hand_here", "_law_item", "_law_deep"] (spD (GG K) 3 F_l_bent2) := by
  have sc := sc_l_bent
  refine fn_okG (G := GG K) F sc fun cdv A outer s H E g hr tk po => ?_
  exact dss_cons (ds_par (i := 3) (j := 4) rfl sc.nd (da_cons (de_calC rfl C_l_take (by exact g) (by exact hr.mono (by decide)) tk (by rfl) (da_cons (de_var 0) (da_cons (de_int) (da_nil)))) (da_cons (de_calC rfl C_l_take (by exact g) (by exact hr.mono (by decide)) tk (by rfl) (da_cons (de_var 0) (da_cons (de_callB (call_max2 rfl) ok_max (by rfl) T.b_max (by decide +kernel) (da_cons (de_int) (da_cons (de_callB call_len ok_len (by rfl) T.b_len (by decide +kernel) (da_cons (de_var 1) (da_nil))) (da_nil)))) (da_nil)))) (da_nil)))) (dss_cons (ds_set (i := 5) sc.nd (de_calC rfl C_l_odd_one (by exact g) (by exact hr.mono (by decide)) tk (by rfl) (da_cons (de_var 0) (da_nil)))) (dss_cons (ds_if (dw_pt (dw_and (dt_cmp op_ltA ok_cmp (de_var 3) (de_int)) (dw_and (dt_cmp op_gtA ok_cmp (de_var 2) (de_int)) (dw_and (dt_cmp (op_neX (by exact hr.units)) ok_neX (de_var 1) (de_tup (da_nil))) (dw_and1 (dt_val (de_isi (T := "tuple") rfl (by decide) (by rfl) T.b_isinstance (by rfl) T.b_tuple (by decide +kernel) (de_ix ix_seq ok_ix (de_var 1) (de_var 4))))))))) (dss_one (ds_ret (de_op op_addA ok_add (de_op op_addA ok_add (de_slice rfl (de_var 1) (do_none) (do_some (de_var 4))) (de_tup (da_cons (de_calC rfl C_l_bent (by exact g) (by exact hr.mono (by decide)) tk (by rfl) (da_cons (de_var 0) (da_cons (de_ix ix_seq ok_ix (de_var 1) (de_var 4)) (da_cons (de_op op_sub ok_sub (de_var 2) (de_int)) (da_nil))))) (da_nil)))) (de_slice rfl (de_var 1) (do_some (de_op op_addA ok_add (de_var 4) (de_int))) (do_none))))) (dss_nil)) (dss_cons (ds_if (dw_pt (dw_or (dt_cmp op_ltA ok_cmp (de_var 3) (de_int)) (dw_or1 (dt_cmp (op_eqX (by exact hr.units)) ok_eqX (de_var 1) (de_tup (da_nil)))))) (dss_one (ds_ret (de_op op_addA ok_add (de_op op_addA ok_add (de_slice rfl (de_var 1) (do_none) (do_some (de_var 4))) (de_tup (da_cons (de_var 5) (da_nil)))) (de_slice rfl (de_var 1) (do_some (de_op op_addA ok_add (de_var 4) (de_int))) (do_none))))) (dss_nil)) (dss_cons (ds_if (dt_cmp (op_eqA (by exact hr.units)) ok_eq (de_var 3) (de_int)) (dss_one (ds_ret (de_ix ix_seq ok_ix (de_lst (da_cons (de_callTy call_listOf ok_listOf (by rfl) T.b_list (by decide +kernel) (da_cons (de_var 1) (da_nil))) (da_cons (de_op op_addA ok_add (de_op op_addA ok_add (de_slice rfl (de_var 1) (do_none) (do_some (de_var 4))) (de_tup (da_cons (de_var 5) (da_nil)))) (de_slice rfl (de_var 1) (do_some (de_var 4)) (do_none))) (da_nil)))) (de_calC rfl C_l_take (by exact g) (by exact hr.mono (by decide)) tk (by rfl) (da_cons (de_var 0) (da_cons (de_int) (da_nil))))))) (dss_nil)) (dss_one (ds_ret (de_ix ix_seq ok_ix (de_lst (da_cons (de_op op_addA ok_add (de_slice rfl (de_var 1) (do_none) (do_some (de_var 4))) (de_slice rfl (de_var 1) (do_some (de_op op_addA ok_add (de_var 4) (de_int))) (do_none))) (da_cons (de_op op_addA ok_add (de_slice rfl (de_var 1) (do_none) (do_some (de_op op_addA ok_add (de_var 4) (de_int)))) (de_slice rfl (de_var 1) (do_some (de_var 4)) (do_none))) (da_nil)))) (de_op op_sub ok_sub (de_var 3) (de_int)))))))))
theorem ok_l_bent {f : Addr} {fd : FuncData} (F : Fun K "_law_bent" "_law_bent" s_l_bent f fd) (T : Tx K mg) (C_l_take : Cal P w (GG K) mg base "_law_take" 1 ["_law_hand_here", "_law_many"] [] F_l_take) (C_l_odd_one : Cal P w (GG K) mg base "_law_odd_one" 3 ["_law_hand_here"] [] F_l_odd_one) (C_l_bent : Cal P w (GG K) mg base "_law_bent" 6 ["_law_hand_here", "_law_item", "_law_deep"] [] F_l_bent2) : FnG P w K mg base 7 f fd ["_law_hand_here", "_law_item", "_law_deep"] (spD (GG K) 3 F_l_bent) := by
  have sc := sc_l_bent
  refine fn_okG (G := GG K) F sc fun cdv A outer s H E g hr tk po => ?_
  exact dss_cons (ds_par (i := 3) (j := 4) rfl sc.nd (da_cons (de_calC rfl C_l_take (by exact g) (by exact hr.mono (by decide)) tk (by rfl) (da_cons (de_var 0) (da_cons (de_int) (da_nil)))) (da_cons (de_calC rfl C_l_take (by exact g) (by exact hr.mono (by decide)) tk (by rfl) (da_cons (de_var 0) (da_cons (de_callB (call_max2 rfl) ok_max (by rfl) T.b_max (by decide +kernel) (da_cons (de_int) (da_cons (de_callB call_len ok_len (by rfl) T.b_len (by decide +kernel) (da_cons (de_var 1) (da_nil))) (da_nil)))) (da_nil)))) (da_nil)))) (dss_cons (ds_set (i := 5) sc.nd (de_calC rfl C_l_odd_one (by exact g) (by exact hr.mono (by decide)) tk (by rfl) (da_cons (de_var 0) (da_nil)))) (dss_cons (ds_if (dw_pt (dw_and (dt_cmp op_ltA ok_cmp (de_var 3) (de_int)) (dw_and (dt_cmp op_gtA ok_cmp (de_var 2) (de_int)) (dw_and (dt_cmp (op_neX (by exact hr.units)) ok_neX (de_var 1) (de_tup (da_nil))) (dw_and1 (dt_val (de_isi (T := "tuple") rfl (by decide) (by rfl) T.b_isinstance (by rfl) T.b_tuple (by decide +kernel) (de_ix ix_seq ok_ix (de_var 1) (de_var 4))))))))) (dss_one (ds_ret (de_op op_addA ok_add (de_op op_addA ok_add (de_slice rfl (de_var 1) (do_none) (do_some (de_var 4))) (de_tup (da_cons (de_calC rfl C_l_bent (by exact g) (by exact hr.mono (by decide)) tk (by rfl) (da_cons (de_var 0) (da_cons (de_ix ix_seq ok_ix (de_var 1) (de_var 4)) (da_cons (de_op op_sub ok_sub (de_var 2) (de_int)) (da_nil))))) (da_nil)))) (de_slice rfl (de_var 1) (do_some (de_op op_addA ok_add (de_var 4) (de_int))) (do_none))))) (dss_nil)) (dss_cons (ds_if (dw_pt (dw_or (dt_cmp op_ltA ok_cmp (de_var 3) (de_int)) (dw_or1 (dt_cmp (op_eqX (by exact hr.units)) ok_eqX (de_var 1) (de_tup (da_nil)))))) (dss_one (ds_ret (de_op op_addA ok_add (de_op op_addA ok_add (de_slice rfl (de_var 1) (do_none) (do_some (de_var 4))) (de_tup (da_cons (de_var 5) (da_nil)))) (de_slice rfl (de_var 1) (do_some (de_op op_addA ok_add (de_var 4) (de_int))) (do_none))))) (dss_nil)) (dss_cons (ds_if (dt_cmp (op_eqA (by exact hr.units)) ok_eq (de_var 3) (de_int)) (dss_one (ds_ret (de_ix ix_seq ok_ix (de_lst (da_cons (de_callTy call_listOf ok_listOf (by rfl) T.b_list (by decide +kernel) (da_cons (de_var 1) (da_nil))) (da_cons (de_op op_addA ok_add (de_op op_addA ok_add (de_slice rfl (de_var 1) (do_none) (do_some (de_var 4))) (de_tup (da_cons (de_var 5) (da_nil)))) (de_slice rfl (de_var 1) (do_some (de_var 4)) (do_none))) (da_nil)))) (de_calC rfl C_l_take (by exact g) (by exact hr.mono (by decide)) tk (by rfl) (da_cons (de_var 0) (da_cons (de_int) (da_nil))))))) (dss_nil)) (dss_one (ds_ret (de_ix ix_seq ok_ix (de_lst (da_cons (de_op op_addA ok_add (de_slice rfl (de_var 1) (do_none) (do_some (de_var 4))) (de_slice rfl (de_var 1) (do_some (de_op op_addA ok_add (de_var 4) (de_int))) (do_none))) (da_cons (de_op op_addA ok_add (de_slice rfl (de_var 1) (do_none) (do_some (de_op op_addA ok_add (de_var 4) (de_int)))) (de_slice rfl (de_var 1) (do_some (de_var 4)) (do_none))) (da_nil)))) (de_op op_sub ok_sub (de_var 3) (de_int)))))))))
theorem sc_law : FnScope N_law ["_law_script"] (defScope s_law) := ⟨rfl, rfl, rfl, by decide +kernel, rfl, by decide +kernel, by decide +kernel⟩
theorem ok_law {f : Addr} {fd : FuncData} (F : Fun K "law" "law" s_law f fd) (T : Tx K mg) (C_l_hand : Cal P w (GG K) mg base "_law_hand" 1 ["_law_script", "_law_k"] [] F_l_hand) (C_l_ranks_right : Cal P w (GG K) mg base "_law_ranks_right" 3 ["_law_hand_here"] [] F_l_ranks_right) (C_l_words : Cal P w (GG K) mg base "_law_words" 3 ["_law_hand_here", "_law_many"] [] F_l_words) (C_l_take : Cal P w (GG K) mg base "_law_take" 1 ["_law_hand_here", "_law_many"] [] F_l_take) (C_l_pick : Cal P w (GG K) mg base "_law_pick" 2 ["_law_hand_here", "_law_some"] [] F_l_pick) (C_l_odd_one : Cal P w (GG K) mg base "_law_odd_one" 3 ["_law_hand_here"] [] F_l_odd_one) (C_l_told_right : Cal P w (GG K) mg base "_law_told_right" 4 ["_law_item"] [] F_l_told_right) (C_l_bent : Cal P w (GG K) mg base "_law_bent" 7 ["_law_hand_here", "_law_item", "_law_deep"] [] F_l_bent) : FnG P w K mg base 8 f fd ["_law_script"] (spD (GG K) 1 F_law) := by
  have sc := sc_law
  refine fn_okG (G := GG K) F sc fun cdv A outer s H E g hr tk po => ?_
  exact dss_cons (ds_for po rfl (di_range1 (by rfl) T.b_range (da_cons (de_callB (call_max2 rfl) ok_max (by rfl) T.b_max (by decide +kernel) (da_cons (de_int) (da_cons (de_callB (call_min2 rfl) ok_min (by rfl) T.b_min (by decide +kernel) (da_cons (de_int) (da_cons (de_callB call_len ok_len (by rfl) T.b_len (by decide +kernel) (da_cons (de_var 0) (da_nil))) (da_nil)))) (da_nil)))) (da_nil))) (dg_name (i := 1) sc.nd) (dss_cons (ds_set (i := 2) sc.nd (de_calC rfl C_l_hand (by exact g) (by exact hr.mono (by decide)) tk (by rfl) (da_cons (de_var 0) (da_cons (de_var 1) (da_nil))))) (dss_cons (ds_if (dt_not (dt_val (de_calC rfl C_l_ranks_right (by exact g) (by exact hr.mono (by decide)) tk (by rfl) (da_cons (de_var 2) (da_nil))))) (dss_one (ds_ret (de_bl))) (dss_nil)) (dss_cons (ds_set (i := 3) sc.nd (de_slice rfl (de_calC rfl C_l_words (by exact g) (by exact hr.mono (by decide)) tk (by rfl) (da_cons (de_var 2) (da_cons (de_int) (da_nil)))) (do_none) (do_some (de_op op_addA ok_add (de_int) (de_calC rfl C_l_take (by exact g) (by exact hr.mono (by decide)) tk (by rfl) (da_cons (de_var 2) (da_cons (de_int) (da_nil)))))))) (dss_cons (ds_set (i := 4) sc.nd (de_lst (da_cons (de_tup (da_cons (de_str) (da_nil))) (da_cons (de_tup (da_cons (de_str) (da_cons (de_op op_addA ok_add (de_int) (de_calC rfl C_l_take (by exact g) (by exact hr.mono (by decide)) tk (by rfl) (da_cons (de_var 2) (da_cons (de_int) (da_nil))))) (da_nil)))) (da_cons (de_tup (da_cons (de_str) (da_cons (de_calC rfl C_l_pick (by exact g) (by exact hr.mono (by decide)) tk (by rfl) (da_cons (de_var 2) (da_cons (de_lst (da_cons (de_str) (da_cons (de_str) (da_cons (de_str) (da_nil))))) (da_nil)))) (da_nil)))) (da_nil)))))) (dss_cons (ds_set (i := 5) sc.nd (de_lstC (da_cons (de_tup (da_cons (de_str) (da_cons (de_calC rfl C_l_pick (by exact g) (by exact hr.mono (by decide)) tk (by rfl) (da_cons (de_var 2) (da_cons (de_str) (da_nil)))) (da_cons (de_calC rfl C_l_pick (by exact g) (by exact hr.mono (by decide)) tk (by rfl) (da_cons (de_var 2) (da_cons (de_str) (da_nil)))) (da_cons (de_tupleOf rfl (by rfl) T.b_tuple (de_var 3)) (da_nil)))))) (da_nil)))) (dss_cons (ds_expr (de_bm PySem.F.plainAttrs_list PySem.F.slot_list_append PySem.F.type_list_append mt_append ok_append ty_lst rfl (de_var 5) (da_cons (de_tup (da_cons (de_str) (da_cons (de_tupleOf rfl (by rfl) T.b_tuple (de_lc [("_law_col", 8)] fin_list rfl sc.nd (di_seq rfl (de_var 3)) (blkOk_by (N := N_law) (sc := defScope s_law) (by decide +kernel)) (fun _ _ _ _ _ => dg_name (i := 8) sc.nd) (fun _ _ _ _ _ => dts_nil) (fun _ _ _ _ _ => de_calC rfl C_l_pick (by exact g) (by exact hr.mono (by decide)) takes0 (by rfl) (da_cons (de_var 2) (da_cons (de_lst (da_cons (de_int) (da_cons (de_int) (da_cons (de_int) (da_nil))))) (da_nil)))))) (da_cons (de_tupleOf rfl (by rfl) T.b_tuple (de_var 3)) (da_nil))))) (da_nil)))) (dss_cons (ds_expr (de_bm PySem.F.plainAttrs_list PySem.F.slot_list_append PySem.F.type_list_append mt_append ok_append ty_lst rfl (de_var 5) (da_cons (de_tup (da_cons (de_str) (da_cons (de_calC rfl C_l_pick (by exact g) (by exact hr.mono (by decide)) tk (by rfl) (da_cons (de_var 2) (da_cons (de_str) (da_nil)))) (da_cons (de_tupleOf rfl (by rfl) T.b_tuple (de_var 3)) (da_nil))))) (da_nil)))) (dss_cons (ds_if (dt_not (dt_val (de_callB (cr_all rfl) ok_all (by rfl) T.b_all (by decide +kernel) (da_cons (de_lc [("_law_one", 9)] fin_list rfl sc.nd (di_seq rfl (de_op op_addA ok_add (de_op op_addA ok_add (de_var 4) (de_var 5)) (de_lc [("_law_turn", 6)] fin_list rfl sc.nd (di_range1 (by rfl) T.b_range (da_cons (de_int) (da_nil))) (blkOk_by (N := N_law) (sc := defScope s_law) (by decide +kernel)) (fun _ _ _ _ _ => dg_name (i := 6) sc.nd) (fun _ _ _ _ _ => dts_nil) (fun _ _ _ _ _ => de_calC rfl C_l_odd_one (by exact g) (by exact hr.mono (by decide)) takes0 (by rfl) (da_cons (de_var 2) (da_nil)))))) (blkOk_by (N := N_law) (sc := defScope s_law) (by decide +kernel)) (fun _ _ _ _ _ => dg_name (i := 9) sc.nd) (fun _ _ _ _ _ => dts_nil) (fun _ _ _ _ _ => de_calC rfl C_l_told_right (by exact g) (by exact hr.mono (by decide)) takes0 (by rfl) (da_cons (de_var 9) (da_nil)))) (da_nil))))) (dss_one (ds_ret (de_bl))) (dss_nil)) (dss_one (ds_for po rfl (di_range1 (by rfl) T.b_range (da_cons (de_int) (da_nil))) (dg_name (i := 6) sc.nd) (dss_cons (ds_set (i := 7) sc.nd (de_calC rfl C_l_bent (by exact g) (by exact hr.mono (by decide)) tk (by rfl) (da_cons (de_var 2) (da_cons (de_calC rfl C_l_pick (by exact g) (by exact hr.mono (by decide)) tk (by rfl) (da_cons (de_var 2) (da_cons (de_op op_addA ok_add (de_op op_addA ok_add (de_var 4) (de_var 5)) (de_var 5)) (da_nil)))) (da_cons (de_int) (da_nil)))))) (dss_cons (ds_if (dw_pt (dw_and (dt_cmp (op_eqA (by exact hr.units)) ok_eq (de_op op_mod ok_mod (de_var 6) (de_int)) (de_int)) (dw_and1 (dt_val (de_isi (T := "tuple") rfl (by decide) (by rfl) T.b_isinstance (by rfl) T.b_tuple (by decide +kernel) (de_var 7)))))) (dss_one (ds_set (i := 7) sc.nd (de_calC rfl C_l_bent (by exact g) (by exact hr.mono (by decide)) tk (by rfl) (da_cons (de_var 2) (da_cons (de_var 7) (da_cons (de_int) (da_nil))))))) (dss_nil)) (dss_one (ds_if (dt_not (dt_val (de_calC rfl C_l_told_right (by exact g) (by exact hr.mono (by decide)) tk (by rfl) (da_cons (de_var 7) (da_nil))))) (dss_one (ds_ret (de_bl))) (dss_nil)))))))))))))))) (dss_one (ds_ret (de_bl)))
end
end LW

namespace LW
open PySem PySem.Spec PyProof.Rows L2 DL
theorem ediv_le (a n : Int) (h0 : 0 ≤ a) (hn : 0 < n) : (a / n).natAbs ≤ a.natAbs := by
  have h1 : 0 ≤ a / n := Int.ediv_nonneg h0 (by omega)
  have h2 : a / n ≤ a := Int.ediv_le_self _ h0
  omega
/-- the box: three numbers in bounds; m: how many draws at most so far -/
def Bx (h m : Nat) (μ : Store) : Prop := ∃ a b c : Int, μ[h]? = some (.lst [.d (.int a), .d (.int b), .d (.int c)]) ∧ 0 ≤ a ∧ 0 ≤ b ∧ b < 2 ^ 62 ∧ 0 ≤ c ∧ c ≤ m
theorem Bx.mono {h m n : Nat} {μ : Store} (x : Bx h m μ) (l : m ≤ n) : Bx h n μ := by
  obtain ⟨a, b, c, e, h1, h3, h4, h5, h6⟩ := x
  exact ⟨a, b, c, e, h1, h3, h4, h5, by omega⟩
theorem w_take {h m : Nat} {μ : Store} {P : Dv → Store → Prop} (H : Bx h m μ) (hm : m ≤ 10 ^ 9) {n : Int} (h0 : 0 < n) (h1 : n < 2 ^ 60) (fin : ∀ (r : Nat) μ', (r : Int) < n → Bx h (m + 1) μ' → Oth h μ μ' → P (.d (.int r)) μ') : Wp (F_l_take [.c h, .d (.int n)] μ) P := by
  obtain ⟨a, b, c, e, a0, b0, b1, c0, c1⟩ := H
  have hh := lt_of_get e
  have i0 : L2.atI [Dv.d (.int a), Dv.d (.int b), Dv.d (.int c)] 0 = some (.d (.int a)) := rfl
  have i2 : L2.atI [Dv.d (.int a), Dv.d (.int b), Dv.d (.int c)] 2 = some (.d (.int c)) := rfl
  have nn : ∀ x : Int, ∃ r : Nat, x % n = (r : Int) ∧ (r : Int) < n := fun x => ⟨(x % n).toNat, (Int.toNat_of_nonneg (Int.emod_nonneg _ (by omega))).symm, by rw [Int.toNat_of_nonneg (Int.emod_nonneg _ (by omega))]; exact Int.emod_lt_of_pos _ h0⟩
  unfold F_l_take B_l_take
  apply Wp_run
  by_cases ha : 0 < a
  · obtain ⟨r, er, hr⟩ := nn a
    simp -implicitDefEqProofs (disch := first | (with_reducible assumption) | ((with_reducible show List.length _ = _); rfl) | (simp only [allD_cons, allD_nil, Option.map_some, Option.isSome_some]; done) | (simp only [List.length_cons, List.length_nil, List.length_map]; done) | ((with_reducible refine cMod_of ?_); omega) | ((with_reducible refine cDiv_of ?_ ?_) <;> omega) | ((with_reducible refine okR_of ?_ ?_) <;> omega) | omega | (simp only [List.length_take, List.length_drop, List.length_append, List.length_cons, List.length_nil, List.length_map, List.length_range, List.length_replicate]; omega)) [-sSeq_r, -sRet_r, -sDrop_r, -sSet_r, -sIf_r, -sPar_r, -sAsg_r, -sSetIx_r, -sFor_r, -gsCons_r, -gT_r, -e1_r, -e2_r, -tV_r, -tAndM_r, -tOrM_r, -tNotM_r, -eAnd_r, -eOr_r, -eNot_r, -eIf_r, -aCons_r, -eN_r, -fCall_r, -eCallK_r, -eM_r, -eSl_r, -oSome_r, -eIsN_r, -eLc_r, -iSeq_r, -iRng_r, r1_l_take, r2_l_take, r3_l_take, r4_l_take, r5_l_take, r6_l_take, r7_l_take, r8_l_take, r9_l_take, dIx_c e i0, ha, dSetIx_c e (show L2.ixN _ 0 = some 0 from rfl), er]
    exact fin r _ hr ⟨a / n, b, c, by rw [List.getElem?_set_self hh], Int.ediv_nonneg a0 (by omega), b0, b1, c0, by omega⟩ (Oth.set _ _ _)
  · have e' : (μ.set h (.lst [.d (.int a), .d (.int b), .d (.int (c + 1))]))[h]? = some (.lst [.d (.int a), .d (.int b), .d (.int (c + 1))]) := by rw [List.getElem?_set_self hh]
    have i1' : L2.atI [Dv.d (.int a), Dv.d (.int b), Dv.d (.int (c + 1))] 1 = some (.d (.int b)) := rfl
    have cT : c + 1 < 2 ^ 40 := by omega
    have m1 : cMul 104729 (c + 1) = true := cMul_ok (a := 20) (b := 41) (by decide) (by omega) (by decide) (by decide) (by decide)
    have m2 : cMul 15485863 (c + 1) = true := cMul_ok (a := 30) (b := 41) (by decide) (by omega) (by decide) (by decide) (by decide)
    have b7 : 0 ≤ b % 7919 ∧ b % 7919 < 7919 := ⟨Int.emod_nonneg _ (by decide), Int.emod_lt_of_pos _ (by decide)⟩
    have m3 : cMul (b + 104729 * (c + 1)) (b % 7919 + 15485863 * (c + 1) + 17) = true := cMul_ok (a := 70) (b := 70) (by omega) (by omega) (by decide) (by decide) (by decide)
    generalize hx : (b + 104729 * (c + 1)) * (b % 7919 + 15485863 * (c + 1) + 17) % 2305843009213693951 = x
    have x0 : 0 ≤ x ∧ x < 2305843009213693951 := by rw [← hx]; exact ⟨Int.emod_nonneg _ (by decide), Int.emod_lt_of_pos _ (by decide)⟩
    have m4 : cMul 6700417 (c + 1) = true := cMul_ok (a := 30) (b := 41) (by decide) (by omega) (by decide) (by decide) (by decide)
    have x1 : 0 ≤ x % 1000003 ∧ x % 1000003 < 1000003 := ⟨Int.emod_nonneg _ (by decide), Int.emod_lt_of_pos _ (by decide)⟩
    have m5 : cMul (x + 13) (x % 1000003 + 6700417 * (c + 1) + 5) = true := cMul_ok (a := 70) (b := 70) (by omega) (by omega) (by decide) (by decide) (by decide)
    generalize hz : (x + 13) * (x % 1000003 + 6700417 * (c + 1) + 5) % 2305843009213693907 = z
    obtain ⟨r, er, hr⟩ := nn (z / 64)
    simp -implicitDefEqProofs (disch := first | (with_reducible assumption) | ((with_reducible show List.length _ = _); rfl) | (simp only [allD_cons, allD_nil, Option.map_some, Option.isSome_some]; done) | (simp only [List.length_cons, List.length_nil, List.length_map]; done) | ((with_reducible refine cMod_of ?_); omega) | ((with_reducible refine cDiv_of ?_ ?_) <;> omega) | ((with_reducible refine okR_of ?_ ?_) <;> omega) | omega | (simp only [List.length_take, List.length_drop, List.length_append, List.length_cons, List.length_nil, List.length_map, List.length_range, List.length_replicate]; omega)) [-sSeq_r, -sRet_r, -sDrop_r, -sSet_r, -sIf_r, -sPar_r, -sAsg_r, -sSetIx_r, -sFor_r, -gsCons_r, -gT_r, -e1_r, -e2_r, -tV_r, -tAndM_r, -tOrM_r, -tNotM_r, -eAnd_r, -eOr_r, -eNot_r, -eIf_r, -aCons_r, -eN_r, -fCall_r, -eCallK_r, -eM_r, -eSl_r, -oSome_r, -eIsN_r, -eLc_r, -iSeq_r, -iRng_r, r1_l_take, r2_l_take, r3_l_take, r4_l_take, r5_l_take, r6_l_take, r7_l_take, r8_l_take, r9_l_take, dIx_c e i0, dIx_c e i2, ha, dSetIx_c e (show L2.ixN _ 2 = some 2 from rfl), dIx_c e' i1', hx, hz, er]
    exact fin r _ hr ⟨a, b, c + 1, e', a0, b0, b1, by omega, by omega⟩ (Oth.set _ _ _)
end LW

namespace LW
open PySem PySem.Spec PyProof.Rows L2 DL
/-- what stood there before stands there still, but the box -/
def Ext (h : Nat) (μ μ' : Store) : Prop := μ.length ≤ μ'.length ∧ ∀ i, i < μ.length → i ≠ h → μ'[i]? = μ[i]?
theorem Ext.refl (h : Nat) (μ : Store) : Ext h μ μ := ⟨Nat.le_refl _, fun _ _ _ => rfl⟩
theorem Ext.trans {h : Nat} {a b c : Store} (x : Ext h a b) (y : Ext h b c) : Ext h a c := ⟨Nat.le_trans x.1 y.1, fun i hi hn => (y.2 i (Nat.lt_of_lt_of_le hi x.1) hn).trans (x.2 i hi hn)⟩
theorem Ext.oth {h : Nat} {a b : Store} (x : Oth h a b) : Ext h a b := ⟨Nat.le_of_eq x.1.symm, fun i _ hn => x.2 i hn⟩
theorem Ext.app (h : Nat) (a b : Store) : Ext h a (a ++ b) := ⟨by simp, fun i hi _ => List.getElem?_append_left hi⟩
theorem Ext.at {h n : Nat} {a b : Store} {c : Cell} (x : Ext h a b) (hn : n ≠ h) (e : a[n]? = some c) : b[n]? = some c := by
  rw [x.2 n (lt_of_get e) hn]
  exact e
/-- a text in bounds -/
def Sx (d : D) : Prop := ∃ l : List Nat, d = .str (T l) ∧ l.length ≤ 20 ∧ ∀ c ∈ l, c < 128
theorem Sx.sm {d : D} (h : Sx d) : Sm 0 202 d := by
  obtain ⟨l, rfl, h1, h2⟩ := h
  exact (Sm.str fun c hc => Nat.lt_trans (h2 c hc) (by decide)).mono (Nat.le_refl _) (by omega)
theorem Sx.of {l : List Nat} (h : (decide (l.length ≤ 20) && l.all fun c => decide (c < 128)) = true) : Sx (.str (T l)) := by
  simp only [Bool.and_eq_true, decide_eq_true_eq, List.all_eq_true] at h
  exact ⟨l, rfl, h.1, h.2⟩
theorem Sx.str {d : D} (h : Sx d) : ∃ x, d = .str x := by
  obtain ⟨l, rfl, _⟩ := h
  exact ⟨_, rfl⟩
section
variable {h m : Nat} {μ : Store} {P : Dv → Store → Prop}
theorem w_pick (H : Bx h m μ) (hm : m ≤ 10 ^ 9) {ds : List D} (h0 : 0 < ds.length) (h1 : ds.length < 10 ^ 6) (fin : ∀ c μ', c ∈ ds → Bx h (m + 1) μ' → Oth h μ μ' → P (.d c) μ') : Wp (F_l_pick [.c h, .d (.list ds)] μ) P := by
  unfold F_l_pick B_l_pick
  apply Wp_run
  simp -implicitDefEqProofs (disch := first | (with_reducible assumption) | ((with_reducible show List.length _ = _); rfl) | (simp only [allD_cons, allD_nil, Option.map_some, Option.isSome_some]; done) | (simp only [List.length_cons, List.length_nil, List.length_map]; done) | ((with_reducible refine cMod_of ?_); omega) | ((with_reducible refine cDiv_of ?_ ?_) <;> omega) | ((with_reducible refine okR_of ?_ ?_) <;> omega) | omega | (simp only [List.length_take, List.length_drop, List.length_append, List.length_cons, List.length_nil, List.length_map, List.length_range, List.length_replicate]; omega)) [-sSeq_r, -sRet_r, -sDrop_r, -sSet_r, -sIf_r, -sPar_r, -sAsg_r, -sSetIx_r, -sFor_r, -gsCons_r, -gT_r, -e1_r, -e2_r, -tV_r, -tAndM_r, -tOrM_r, -tNotM_r, -eAnd_r, -eOr_r, -eNot_r, -eIf_r, -aCons_r, -eN_r, -fCall_r, -eCallK_r, -eM_r, -eSl_r, -oSome_r, -eIsN_r, -eLc_r, -iSeq_r, -iRng_r, ]
  refine w_take H hm (by omega) (by omega) fun r μ' hr H' O => ?_
  have hi : r < ds.length := by omega
  simp -implicitDefEqProofs (disch := first | (with_reducible assumption) | ((with_reducible show List.length _ = _); rfl) | (simp only [allD_cons, allD_nil, Option.map_some, Option.isSome_some]; done) | (simp only [List.length_cons, List.length_nil, List.length_map]; done) | ((with_reducible refine cMod_of ?_); omega) | ((with_reducible refine cDiv_of ?_ ?_) <;> omega) | ((with_reducible refine okR_of ?_ ?_) <;> omega) | omega | (simp only [List.length_take, List.length_drop, List.length_append, List.length_cons, List.length_nil, List.length_map, List.length_range, List.length_replicate]; omega)) [-sSeq_r, -sRet_r, -sDrop_r, -sSet_r, -sIf_r, -sPar_r, -sAsg_r, -sSetIx_r, -sFor_r, -gsCons_r, -gT_r, -e1_r, -e2_r, -tV_r, -tAndM_r, -tOrM_r, -tNotM_r, -eAnd_r, -eOr_r, -eNot_r, -eIf_r, -aCons_r, -eN_r, -fCall_r, -eCallK_r, -eM_r, -eSl_r, -oSome_r, -eIsN_r, -eLc_r, -iSeq_r, -iRng_r, dIx_l (atI_nn (show ds[r]? = some ds[r] by simp [hi]))]
  exact fin _ μ' (List.getElem_mem hi) H' O
theorem w_pickS (H : Bx h m μ) (hm : m ≤ 10 ^ 9) {l : List Nat} (h0 : 0 < l.length) (h1 : l.length < 10 ^ 6) (fin : ∀ c μ', c ∈ l → Bx h (m + 1) μ' → Oth h μ μ' → P (.d (.str (T [c]))) μ') : Wp (F_l_pick [.c h, .d (.str (T l))] μ) P := by
  unfold F_l_pick B_l_pick
  apply Wp_run
  simp -implicitDefEqProofs (disch := first | (with_reducible assumption) | ((with_reducible show List.length _ = _); rfl) | (simp only [allD_cons, allD_nil, Option.map_some, Option.isSome_some]; done) | (simp only [List.length_cons, List.length_nil, List.length_map]; done) | ((with_reducible refine cMod_of ?_); omega) | ((with_reducible refine cDiv_of ?_ ?_) <;> omega) | ((with_reducible refine okR_of ?_ ?_) <;> omega) | omega | (simp only [List.length_take, List.length_drop, List.length_append, List.length_cons, List.length_nil, List.length_map, List.length_range, List.length_replicate]; omega)) [-sSeq_r, -sRet_r, -sDrop_r, -sSet_r, -sIf_r, -sPar_r, -sAsg_r, -sSetIx_r, -sFor_r, -gsCons_r, -gT_r, -e1_r, -e2_r, -tV_r, -tAndM_r, -tOrM_r, -tNotM_r, -eAnd_r, -eOr_r, -eNot_r, -eIf_r, -aCons_r, -eN_r, -fCall_r, -eCallK_r, -eM_r, -eSl_r, -oSome_r, -eIsN_r, -eLc_r, -iSeq_r, -iRng_r, ]
  refine w_take H hm (by omega) (by omega) fun r μ' hr H' O => ?_
  have hi : r < l.length := by omega
  simp -implicitDefEqProofs (disch := first | (with_reducible assumption) | ((with_reducible show List.length _ = _); rfl) | (simp only [allD_cons, allD_nil, Option.map_some, Option.isSome_some]; done) | (simp only [List.length_cons, List.length_nil, List.length_map]; done) | ((with_reducible refine cMod_of ?_); omega) | ((with_reducible refine cDiv_of ?_ ?_) <;> omega) | ((with_reducible refine okR_of ?_ ?_) <;> omega) | omega | (simp only [List.length_take, List.length_drop, List.length_append, List.length_cons, List.length_nil, List.length_map, List.length_range, List.length_replicate]; omega)) [-sSeq_r, -sRet_r, -sDrop_r, -sSet_r, -sIf_r, -sPar_r, -sAsg_r, -sSetIx_r, -sFor_r, -gsCons_r, -gT_r, -e1_r, -e2_r, -tV_r, -tAndM_r, -tOrM_r, -tNotM_r, -eAnd_r, -eOr_r, -eNot_r, -eIf_r, -aCons_r, -eN_r, -fCall_r, -eCallK_r, -eM_r, -eSl_r, -oSome_r, -eIsN_r, -eLc_r, -iSeq_r, -iRng_r, dIx_s (show l.length ≤ 16000000 by omega) (atI_nn (show l[r]? = some l[r] by simp [hi]))]
  exact fin _ μ' (List.getElem_mem hi) H' O
theorem dLen_c {n : Nat} {xs : List Dv} (e : μ[n]? = some (.lst xs)) : dLen [.c n] μ = .ok (.d (.int xs.length)) μ := by
  show (match itemsA (.c n) μ with | some xs => Out.ok (Dv.d (.int xs.length)) μ | none => .bad) = _
  have : itemsA (.c n) μ = some xs := by
    unfold itemsA itemsT items
    simp only [e]
  rw [this]
theorem w_pickC (H : Bx h m μ) (hm : m ≤ 10 ^ 9) {n : Nat} {ds : List D} (e : μ[n]? = some (.lst (ds.map .d))) (hn : n ≠ h) (h0 : 0 < ds.length) (h1 : ds.length < 10 ^ 6) (fin : ∀ c μ', c ∈ ds → Bx h (m + 1) μ' → Oth h μ μ' → P (.d c) μ') : Wp (F_l_pick [.c h, .c n] μ) P := by
  unfold F_l_pick B_l_pick
  apply Wp_run
  simp -implicitDefEqProofs (disch := first | (with_reducible assumption) | ((with_reducible show List.length _ = _); rfl) | (simp only [allD_cons, allD_nil, Option.map_some, Option.isSome_some]; done) | (simp only [List.length_cons, List.length_nil, List.length_map]; done) | ((with_reducible refine cMod_of ?_); omega) | ((with_reducible refine cDiv_of ?_ ?_) <;> omega) | ((with_reducible refine okR_of ?_ ?_) <;> omega) | omega | (simp only [List.length_take, List.length_drop, List.length_append, List.length_cons, List.length_nil, List.length_map, List.length_range, List.length_replicate]; omega)) [-sSeq_r, -sRet_r, -sDrop_r, -sSet_r, -sIf_r, -sPar_r, -sAsg_r, -sSetIx_r, -sFor_r, -gsCons_r, -gT_r, -e1_r, -e2_r, -tV_r, -tAndM_r, -tOrM_r, -tNotM_r, -eAnd_r, -eOr_r, -eNot_r, -eIf_r, -aCons_r, -eN_r, -fCall_r, -eCallK_r, -eM_r, -eSl_r, -oSome_r, -eIsN_r, -eLc_r, -iSeq_r, -iRng_r, dLen_c e]
  refine w_take H hm (by omega) (by omega) fun r μ' hr H' O => ?_
  have hi : r < ds.length := by omega
  have e' : μ'[n]? = some (.lst (ds.map .d)) := by rw [O.2 n hn]; exact e
  simp -implicitDefEqProofs (disch := first | (with_reducible assumption) | ((with_reducible show List.length _ = _); rfl) | (simp only [allD_cons, allD_nil, Option.map_some, Option.isSome_some]; done) | (simp only [List.length_cons, List.length_nil, List.length_map]; done) | ((with_reducible refine cMod_of ?_); omega) | ((with_reducible refine cDiv_of ?_ ?_) <;> omega) | ((with_reducible refine okR_of ?_ ?_) <;> omega) | omega | (simp only [List.length_take, List.length_drop, List.length_append, List.length_cons, List.length_nil, List.length_map, List.length_range, List.length_replicate]; omega)) [-sSeq_r, -sRet_r, -sDrop_r, -sSet_r, -sIf_r, -sPar_r, -sAsg_r, -sSetIx_r, -sFor_r, -gsCons_r, -gT_r, -e1_r, -e2_r, -tV_r, -tAndM_r, -tOrM_r, -tNotM_r, -eAnd_r, -eOr_r, -eNot_r, -eIf_r, -aCons_r, -eN_r, -fCall_r, -eCallK_r, -eM_r, -eSl_r, -oSome_r, -eIsN_r, -eLc_r, -iSeq_r, -iRng_r, dIx_c e' (atI_nn (show (ds.map Dv.d)[r]? = some (.d ds[r]) by simp [hi]))]
  exact fin _ μ' (List.getElem_mem hi) H' O

theorem cList_c (h : xs.length ≤ 16000000) : cList xs μ = .ok (.c μ.length) (μ ++ [.lst xs]) := by
  unfold cList
  rw [if_pos (Nat.le_trans h line_big)]
theorem cPow_ok {j : Int} (h0 : 0 ≤ j) (h1 : j ≤ 1000000) : cPow 10 j = true := by
  unfold cPow
  rw [decide_eq_true h0, decide_eq_true h1]
  decide
theorem w_hand {ns : List Int} {k : Nat} (hn : ns.length ≤ 63) (hk : k ≤ 100) (hb : ∀ i ∈ ns, Builtin.Int.intBits i ≤ 1048576) (fin : ∀ n μ', μ.length ≤ n → Bx n 1 μ' → P (.c n) μ') : Wp (F_l_hand [.d (.list (ns.map PyData.int)), .d (.int k)] μ) P := by
  have main : ∀ cell : Int, Builtin.Int.intBits cell ≤ 1048576 → Wp (r2_l_hand [some (.d (.list (ns.map PyData.int))), some (.d (.int k)), some (.d (.int cell)), none] μ) (finP P) := by
    intro cell hc
    have q1 : (cell % 2305843009213693951).natAbs < 2 ^ 62 := by omega
    have c1 : cMul (cell % 2305843009213693951) 1000003 = true := cMul_ok (a := 62) (b := 20) (by omega) (by decide) (by decide) (by decide) (by decide)
    have c2 : cMul 7919 (k : Int) = true := cMul_ok (a := 40) (b := 20) (by decide) (by omega) (by decide) (by decide) (by decide)
    have p18 : dPow (.d (.int 10)) (.d (.int 18)) μ = .ok (.d (.int (10 ^ 18))) μ := dNum_ii (cPow_ok (by decide) (by decide))
    have p60 : dPow (.d (.int 10)) (.d (.int 60)) μ = .ok (.d (.int (10 ^ 60))) μ := dNum_ii (cPow_ok (by decide) (by decide))
    have u1 : cMul (10 ^ 60) (10 ^ 60) = true := cMul_ok (a := 200) (b := 200) (by decide) (by decide) (by decide) (by decide) (by decide)
    have u2 : cMul (10 ^ 60 * 10 ^ 60) (10 ^ 60) = true := cMul_ok (a := 400) (b := 200) (by decide) (by decide) (by decide) (by decide) (by decide)
    have ab : dAbs [.d (.int cell)] μ = .ok (.d (.int cell.natAbs)) μ := by
      rw [dAbs_i]
      have : (if cell < 0 then -cell else cell) = (cell.natAbs : Int) := by split <;> omega
      rw [this]
    generalize hA : (cell.natAbs : Int) = A
    have A0 : 0 ≤ A := by omega
    rw [hA] at ab
    generalize hM : (cell % 2305843009213693951 * 1000003 + 7919 * (k : Int) + 29) % 2305843009213693921 = M
    have M0 : 0 ≤ M ∧ M < 2 ^ 62 := by omega
    generalize hT : (10 : Int) ^ 18 = t at p18
    have hU0 : (0 : Int) < 10 ^ 60 * 10 ^ 60 * 10 ^ 60 := by decide
    generalize hu : (10 : Int) ^ 60 = u at p60 u1 u2 hU0
    generalize hv : u * u * u = v at hU0
    have last : ∀ b : Int, 0 ≤ b → Wp (r1_l_hand [some (.d (.list (ns.map PyData.int))), some (.d (.int k)), some (.d (.int cell)), some (.d (.int b))] μ) (finP P) := fun b h0 => by
      simp -implicitDefEqProofs (disch := first | (with_reducible assumption) | ((with_reducible show List.length _ = _); rfl) | (simp only [allD_cons, allD_nil, Option.map_some, Option.isSome_some]; done) | (simp only [List.length_cons, List.length_nil, List.length_map]; done) | ((with_reducible refine cMod_of ?_); omega) | ((with_reducible refine cDiv_of ?_ ?_) <;> omega) | ((with_reducible refine okR_of ?_ ?_) <;> omega) | omega | (simp only [List.length_take, List.length_drop, List.length_append, List.length_cons, List.length_nil, List.length_map, List.length_range, List.length_replicate]; omega)) [-sSeq_r, -sRet_r, -sDrop_r, -sSet_r, -sIf_r, -sPar_r, -sAsg_r, -sSetIx_r, -sFor_r, -gsCons_r, -gT_r, -e1_r, -e2_r, -tV_r, -tAndM_r, -tOrM_r, -tNotM_r, -eAnd_r, -eOr_r, -eNot_r, -eIf_r, -aCons_r, -eN_r, -fCall_r, -eCallK_r, -eM_r, -eSl_r, -oSome_r, -eIsN_r, -eLc_r, -iSeq_r, -iRng_r, r1_l_hand, hM]
      rw [cList_c (by simp), Wp_ok]
      exact fin μ.length _ (Nat.le_refl _) ⟨b, M, 0, by simp, h0, M0.1, M0.2, by decide, by decide⟩
    by_cases g : t ≤ A
    · have dec : dGe (.d (.int A)) (.d (.int t)) μ = .ok (.d (.bool true)) μ := by
        show Out.ok (Dv.d (PyData.bool (decide (A ≥ t)))) μ = _
        rw [decide_eq_true g]
      have l1 := last (A % v) (Int.emod_nonneg _ (by omega))
      simp -implicitDefEqProofs (disch := first | (with_reducible assumption) | ((with_reducible show List.length _ = _); rfl) | (simp only [allD_cons, allD_nil, Option.map_some, Option.isSome_some]; done) | (simp only [List.length_cons, List.length_nil, List.length_map]; done) | ((with_reducible refine cMod_of ?_); omega) | ((with_reducible refine cDiv_of ?_ ?_) <;> omega) | ((with_reducible refine okR_of ?_ ?_) <;> omega) | omega | (simp only [List.length_take, List.length_drop, List.length_append, List.length_cons, List.length_nil, List.length_map, List.length_range, List.length_replicate]; omega)) [-sSeq_r, -sRet_r, -sDrop_r, -sSet_r, -sIf_r, -sPar_r, -sAsg_r, -sSetIx_r, -sFor_r, -gsCons_r, -gT_r, -e1_r, -e2_r, -tV_r, -tAndM_r, -tOrM_r, -tNotM_r, -eAnd_r, -eOr_r, -eNot_r, -eIf_r, -aCons_r, -eN_r, -fCall_r, -eCallK_r, -eM_r, -eSl_r, -oSome_r, -eIsN_r, -eLc_r, -iSeq_r, -iRng_r, -dAbs_i, r2_l_hand, ab, p18, p60, dec, hv]
      exact l1
    · have dec : dGe (.d (.int A)) (.d (.int t)) μ = .ok (.d (.bool false)) μ := by
        show Out.ok (Dv.d (PyData.bool (decide (A ≥ t)))) μ = _
        rw [decide_eq_false g]
      have l0 := last 0 (by simp)
      simp -implicitDefEqProofs (disch := first | (with_reducible assumption) | ((with_reducible show List.length _ = _); rfl) | (simp only [allD_cons, allD_nil, Option.map_some, Option.isSome_some]; done) | (simp only [List.length_cons, List.length_nil, List.length_map]; done) | ((with_reducible refine cMod_of ?_); omega) | ((with_reducible refine cDiv_of ?_ ?_) <;> omega) | ((with_reducible refine okR_of ?_ ?_) <;> omega) | omega | (simp only [List.length_take, List.length_drop, List.length_append, List.length_cons, List.length_nil, List.length_map, List.length_range, List.length_replicate]; omega)) [-sSeq_r, -sRet_r, -sDrop_r, -sSet_r, -sIf_r, -sPar_r, -sAsg_r, -sSetIx_r, -sFor_r, -gsCons_r, -gT_r, -e1_r, -e2_r, -tV_r, -tAndM_r, -tOrM_r, -tNotM_r, -eAnd_r, -eOr_r, -eNot_r, -eIf_r, -aCons_r, -eN_r, -fCall_r, -eCallK_r, -eM_r, -eSl_r, -oSome_r, -eIsN_r, -eLc_r, -iSeq_r, -iRng_r, -dAbs_i, r2_l_hand, ab, p18, p60, dec]
      exact l0
  unfold F_l_hand B_l_hand
  apply Wp_run
  simp -implicitDefEqProofs (disch := first | (with_reducible assumption) | ((with_reducible show List.length _ = _); rfl) | (simp only [allD_cons, allD_nil, Option.map_some, Option.isSome_some]; done) | (simp only [List.length_cons, List.length_nil, List.length_map]; done) | ((with_reducible refine cMod_of ?_); omega) | ((with_reducible refine cDiv_of ?_ ?_) <;> omega) | ((with_reducible refine okR_of ?_ ?_) <;> omega) | omega | (simp only [List.length_take, List.length_drop, List.length_append, List.length_cons, List.length_nil, List.length_map, List.length_range, List.length_replicate]; omega)) [-sSeq_r, -sRet_r, -sDrop_r, -sSet_r, -sIf_r, -sPar_r, -sAsg_r, -sSetIx_r, -sFor_r, -gsCons_r, -gT_r, -e1_r, -e2_r, -tV_r, -tAndM_r, -tOrM_r, -tNotM_r, -eAnd_r, -eOr_r, -eNot_r, -eIf_r, -aCons_r, -eN_r, -fCall_r, -eCallK_r, -eM_r, -eSl_r, -oSome_r, -eIsN_r, -eLc_r, -iSeq_r, -iRng_r, ]
  refine kEI_s (fun q => ?_) fun q => ?_
  · have hk2 : k < ns.length := by simpa using q
    have e : (ns.map PyData.int)[k]? = some (.int ns[k]) := by simp [hk2]
    simp -implicitDefEqProofs (disch := first | (with_reducible assumption) | ((with_reducible show List.length _ = _); rfl) | (simp only [allD_cons, allD_nil, Option.map_some, Option.isSome_some]; done) | (simp only [List.length_cons, List.length_nil, List.length_map]; done) | ((with_reducible refine cMod_of ?_); omega) | ((with_reducible refine cDiv_of ?_ ?_) <;> omega) | ((with_reducible refine okR_of ?_ ?_) <;> omega) | omega | (simp only [List.length_take, List.length_drop, List.length_append, List.length_cons, List.length_nil, List.length_map, List.length_range, List.length_replicate]; omega)) [-sSeq_r, -sRet_r, -sDrop_r, -sSet_r, -sIf_r, -sPar_r, -sAsg_r, -sSetIx_r, -sFor_r, -gsCons_r, -gT_r, -e1_r, -e2_r, -tV_r, -tAndM_r, -tOrM_r, -tNotM_r, -eAnd_r, -eOr_r, -eNot_r, -eIf_r, -aCons_r, -eN_r, -fCall_r, -eCallK_r, -eM_r, -eSl_r, -oSome_r, -eIsN_r, -eLc_r, -iSeq_r, -iRng_r, dIx_l (atI_nn e)]
    exact main _ (hb _ (List.getElem_mem hk2))
  · simp -implicitDefEqProofs (disch := first | (with_reducible assumption) | ((with_reducible show List.length _ = _); rfl) | (simp only [allD_cons, allD_nil, Option.map_some, Option.isSome_some]; done) | (simp only [List.length_cons, List.length_nil, List.length_map]; done) | ((with_reducible refine cMod_of ?_); omega) | ((with_reducible refine cDiv_of ?_ ?_) <;> omega) | ((with_reducible refine okR_of ?_ ?_) <;> omega) | omega | (simp only [List.length_take, List.length_drop, List.length_append, List.length_cons, List.length_nil, List.length_map, List.length_range, List.length_replicate]; omega)) [-sSeq_r, -sRet_r, -sDrop_r, -sSet_r, -sIf_r, -sPar_r, -sAsg_r, -sSetIx_r, -sFor_r, -gsCons_r, -gT_r, -e1_r, -e2_r, -tV_r, -tAndM_r, -tOrM_r, -tNotM_r, -eAnd_r, -eOr_r, -eNot_r, -eIf_r, -aCons_r, -eN_r, -fCall_r, -eCallK_r, -eM_r, -eSl_r, -oSome_r, -eIsN_r, -eLc_r, -iSeq_r, -iRng_r, ]
    exact main 0 (by decide)
end
end LW

namespace LW
open PySem PySem.Spec PyProof.Rows L2 DL
section
variable {h m : Nat} {μ : Store} {P : Dv → Store → Prop}
@[simp ↓] theorem kM_str {f : Dv → OpN} {ma : MA} {ρ : DEnv} {Q : Dv → Store → Prop} {z : Str} : kM isStr f ma ρ Q (.d (.str z)) μ = Wp (ma ρ μ) (kM2 f (.d (.str z)) Q) := kM_r rfl
theorem dAppend_c {n : Nat} {xs : List Dv} {b : Dv} (e : μ[n]? = some (.lst xs)) (h : xs.length < 16000000) : dAppend (.c n) [b] μ = .ok (.d .none) (μ.set n (.lst (xs ++ [b]))) := by
  have hb := line_big
  show (match (μ[n]?) with | some (.lst ys) => (if ys.length < sizeLine then Out.ok (Dv.d PyData.none) (μ.set n (.lst (ys ++ [b]))) else .bad) | _ => .bad) = _
  rw [e]
  show (if _ then _ else _) = _
  rw [if_pos (by omega)]
theorem isLst_c {n : Nat} {xs : List Dv} (e : μ[n]? = some (.lst xs)) : isLst (.c n) μ = true := by
  show (match μ[n]? with | some (.lst _) => true | _ => false) = true
  rw [e]
theorem ones : ∀ ys : List Dv, (∀ y ∈ ys, ∃ c, y = .d (.str (T [c])) ∧ c < 128) → ∃ cs : List Nat, ys = (cs.map fun c => (PyData.str (T [c]))).map .d ∧ ∀ c ∈ cs, c < 128
  | [], _ => ⟨[], rfl, fun c h => by cases h⟩
  | y :: ys, h => by
    obtain ⟨c, rfl, hc⟩ := h y List.mem_cons_self
    obtain ⟨cs, rfl, hcs⟩ := ones ys fun z hz => h z (List.mem_cons_of_mem _ hz)
    refine ⟨c :: cs, rfl, fun x hx => ?_⟩
    rcases List.mem_cons.mp hx with e | hx
    · rw [e]; exact hc
    · exact hcs x hx
theorem flat_ones (cs : List Nat) : (cs.map fun c => [c]).flatten = cs := by
  induction cs with
  | nil => rfl
  | cons c cs ih => rw [List.map_cons, List.flatten_cons, ih]; rfl
theorem join_ones {cs : List Nat} (hn : cs.length ≤ 100) : dJoin (.d (.str (T []))) [.d (.list (cs.map fun c => PyData.str (T [c])))] μ = .ok (.d (.str (T cs))) μ := by
  have := dJoin_s (l := []) (ls := cs.map fun c => [c]) (μ := μ) (by
    have : (((cs.map fun c => [c]).map (·.length)).sum) = cs.length := by
      clear hn
      induction cs with
      | nil => rfl
      | cons c cs ih => simp only [List.map_cons, List.sum_cons, ih, List.length_cons, List.length_nil]; omega
    rw [this]
    simp
    omega)
  rw [joinL_nil, flat_ones, List.map_map] at this
  exact this
/-- how words are put together -/
theorem w_words1 {nn f j k a : Nat} {l t : List Nat} {μ4 : Store} (ht : t.length = 26) (ht2 : ∀ x ∈ t, x < 128) (hk : k ≤ 100) (hf : f < 676) (hj : j ≤ 105) (l1 : l.length ≤ 6) (l2 : ∀ x ∈ l, x < 128) (hm : m + 20 ≤ 10 ^ 9)
    (n0 : μ.length ≤ nn) (nh : nn ≠ h) (e0 : μ4[nn]? = some (.lst [])) (H4 : Bx h (m + 20) μ4) (E4 : Ext h μ μ4)
    (fin : ∀ n μ' (ds : List D), μ.length ≤ n → n ≠ h → ds.length = k → (∀ d ∈ ds, Sx d) → μ'[n]? = some (.lst (ds.map .d)) → Bx h (m + 20) μ' → Ext h μ μ' → P (.c n) μ') :
    Wp (r4_l_words [some (.c h), some (.d (.int k)), some (.d (.str (T t))), some (.d (.int f)), some (.d (.int j)), some (.d (.str (T l))), some (.d (.int a)), some (.c nn), none, none, none] μ4) (finP P) := by
  simp -implicitDefEqProofs (disch := first | (with_reducible assumption) | ((with_reducible show List.length _ = _); rfl) | (simp only [allD_cons, allD_nil, Option.map_some, Option.isSome_some]; done) | (simp only [List.length_cons, List.length_nil, List.length_map]; done) | ((with_reducible refine cMod_of ?_); omega) | ((with_reducible refine cDiv_of ?_ ?_) <;> omega) | ((with_reducible refine okR_of ?_ ?_) <;> omega) | omega | (simp only [List.length_take, List.length_drop, List.length_append, List.length_cons, List.length_nil, List.length_map, List.length_range, List.length_replicate]; omega)) [-sSeq_r, -sRet_r, -sDrop_r, -sSet_r, -sIf_r, -sPar_r, -sAsg_r, -sSetIx_r, -sFor_r, -gsCons_r, -gT_r, -e1_r, -e2_r, -tV_r, -tAndM_r, -tOrM_r, -tNotM_r, -eAnd_r, -eOr_r, -eNot_r, -eIf_r, -aCons_r, -eN_r, -fCall_r, -eCallK_r, -eM_r, -eSl_r, -oSome_r, -eIsN_r, -eLc_r, -iSeq_r, -iRng_r, r4_l_words]
  refine Wp_forL (fun i ρ μ' => (∃ a8 a9 a10, ρ = [some (.c h), some (.d (.int k)), some (.d (.str (T t))), some (.d (.int f)), some (.d (.int j)), some (.d (.str (T l))), some (.d (.int a)), some (.c nn), a8, a9, a10]) ∧ Bx h (m + 20) μ' ∧ Ext h μ μ' ∧ ∃ ds : List D, ds.length = i ∧ (∀ d ∈ ds, Sx d) ∧ μ'[nn]? = some (.lst (ds.map .d))) (i := 0)
    ⟨⟨_, _, _, rfl⟩, H4, E4, [], rfl, (fun d hd => by cases hd), e0⟩ (fun i b ρ μ' hb I => ?_) fun ρ' μ' I => ?_
  · obtain ⟨⟨a8, a9, a10, rfl⟩, Hb, E, ds, dl, dx, e⟩ := I
    obtain ⟨i', hi, rfl⟩ : ∃ i' : Nat, i' < k ∧ b = .d (.int i') := by
      rw [List.getElem?_map] at hb
      obtain ⟨x, hx, rfl⟩ := Option.map_eq_some_iff.mp hb
      have := List.mem_of_getElem? hx
      exact ⟨x, by simpa using this, rfl⟩
    have hil : i < k := by
      have := (List.getElem?_eq_some_iff.mp hb).1
      simpa using this
    have c1 : cMul (j : Int) (i' : Int) = true := cMul_ok (a := 10) (b := 10) (by omega) (by omega) (by decide) (by decide) (by decide)
    generalize hs : ((f : Int) + (j : Int) * (i' : Int)) % 676 = s
    have s0 : 0 ≤ s ∧ s < 676 := by rw [← hs]; exact ⟨Int.emod_nonneg _ (by decide), Int.emod_lt_of_pos _ (by decide)⟩
    obtain ⟨q, eq, hq⟩ : ∃ q : Nat, s / 26 = (q : Int) ∧ q < 26 := ⟨(s / 26).toNat, by omega, by omega⟩
    obtain ⟨r, er, hr⟩ : ∃ r : Nat, s % 26 = (r : Int) ∧ r < 26 := ⟨(s % 26).toNat, by omega, by omega⟩
    obtain ⟨c, hc⟩ : ∃ c, t[q]? = some c := ⟨_, List.getElem?_eq_getElem (by rw [ht]; exact hq)⟩
    obtain ⟨d, hd⟩ : ∃ d, t[r]? = some d := ⟨_, List.getElem?_eq_getElem (by rw [ht]; exact hr)⟩
    have c2 : c < 128 := ht2 _ (List.mem_of_getElem? hc)
    have d2 : d < 128 := ht2 _ (List.mem_of_getElem? hd)
    have cl : ∀ i j : Option Int, (cutL l i j).length ≤ 6 := fun i j => by unfold cutL; simp; omega
    have cm : ∀ (i j : Option Int), ∀ x ∈ cutL l i j, x < 128 := fun i j x hx => l2 x (by unfold cutL at hx; exact List.mem_of_mem_drop (List.mem_of_mem_take hx))
    have a1 := cl none (some (a : Int))
    have a2 := cl (some (a : Int)) none
    have iL := isLst_c e
    simp -implicitDefEqProofs (disch := first | (with_reducible assumption) | ((with_reducible show List.length _ = _); rfl) | (simp only [allD_cons, allD_nil, Option.map_some, Option.isSome_some]; done) | (simp only [List.length_cons, List.length_nil, List.length_map]; done) | ((with_reducible refine cMod_of ?_); omega) | ((with_reducible refine cDiv_of ?_ ?_) <;> omega) | ((with_reducible refine okR_of ?_ ?_) <;> omega) | omega | (simp only [List.length_take, List.length_drop, List.length_append, List.length_cons, List.length_nil, List.length_map, List.length_range, List.length_replicate]; omega)) [-sSeq_r, -sRet_r, -sDrop_r, -sSet_r, -sIf_r, -sPar_r, -sAsg_r, -sSetIx_r, -sFor_r, -gsCons_r, -gT_r, -e1_r, -e2_r, -tV_r, -tAndM_r, -tOrM_r, -tNotM_r, -eAnd_r, -eOr_r, -eNot_r, -eIf_r, -aCons_r, -eN_r, -fCall_r, -eCallK_r, -eM_r, -eSl_r, -oSome_r, -eIsN_r, -eLc_r, -iSeq_r, -iRng_r, w1_l_words, r2_l_words, r1_l_words, hs, eq, er, dIx_s (show t.length ≤ 16000000 by omega) (atI_nn hc), dIx_s (show t.length ≤ 16000000 by omega) (atI_nn hd), dSl_s (show l.length ≤ 16000000 by omega)]
    have um := cm none (some (a : Int))
    have vm := cm (some (a : Int)) none
    clear cl cm
    generalize cutL l none (some (a : Int)) = u at a1 um ⊢
    generalize cutL l (some (a : Int)) none = v at a2 vm ⊢
    have hl := lt_of_get e
    rw [dAppend_c e (by simp; omega)]
    simp -implicitDefEqProofs (disch := first | (with_reducible assumption) | ((with_reducible show List.length _ = _); rfl) | (simp only [allD_cons, allD_nil, Option.map_some, Option.isSome_some]; done) | (simp only [List.length_cons, List.length_nil, List.length_map]; done) | ((with_reducible refine cMod_of ?_); omega) | ((with_reducible refine cDiv_of ?_ ?_) <;> omega) | ((with_reducible refine okR_of ?_ ?_) <;> omega) | omega | (simp only [List.length_take, List.length_drop, List.length_append, List.length_cons, List.length_nil, List.length_map, List.length_range, List.length_replicate]; omega)) [-sSeq_r, -sRet_r, -sDrop_r, -sSet_r, -sIf_r, -sPar_r, -sAsg_r, -sSetIx_r, -sFor_r, -gsCons_r, -gT_r, -e1_r, -e2_r, -tV_r, -tAndM_r, -tOrM_r, -tNotM_r, -eAnd_r, -eOr_r, -eNot_r, -eIf_r, -aCons_r, -eN_r, -fCall_r, -eCallK_r, -eM_r, -eSl_r, -oSome_r, -eIsN_r, -eLc_r, -iSeq_r, -iRng_r, ]
    obtain ⟨x1, x2, x3, ex, xr⟩ := Hb
    refine ⟨⟨_, _, _, rfl⟩, ⟨x1, x2, x3, by rw [List.getElem?_set_ne nh]; exact ex, xr⟩, ⟨by rw [List.length_set]; exact E.1, fun z hz hn => ?_⟩, ds ++ [.str (T (u ++ c :: d :: v))], by simp [dl], fun y hy => ?_, ?_⟩
    · rw [List.getElem?_set_ne (by omega)]
      exact E.2 z hz hn
    · rcases List.mem_append.mp hy with hy | hy
      · exact dx y hy
      · rw [List.mem_singleton] at hy
        refine ⟨_, hy, by simp; omega, fun x hx => ?_⟩
        simp only [List.mem_append, List.mem_cons] at hx
        rcases hx with hx | hx | hx | hx
        · exact um x hx
        · omega
        · omega
        · exact vm x hx
    · rw [List.getElem?_set_self hl, List.map_append]
      rfl
  · obtain ⟨⟨a8, a9, a10, rfl⟩, Hb, E, ds, dl, dx, e⟩ := I
    simp -implicitDefEqProofs (disch := first | (with_reducible assumption) | ((with_reducible show List.length _ = _); rfl) | (simp only [allD_cons, allD_nil, Option.map_some, Option.isSome_some]; done) | (simp only [List.length_cons, List.length_nil, List.length_map]; done) | ((with_reducible refine cMod_of ?_); omega) | ((with_reducible refine cDiv_of ?_ ?_) <;> omega) | ((with_reducible refine okR_of ?_ ?_) <;> omega) | omega | (simp only [List.length_take, List.length_drop, List.length_append, List.length_cons, List.length_nil, List.length_map, List.length_range, List.length_replicate]; omega)) [-sSeq_r, -sRet_r, -sDrop_r, -sSet_r, -sIf_r, -sPar_r, -sAsg_r, -sSetIx_r, -sFor_r, -gsCons_r, -gT_r, -e1_r, -e2_r, -tV_r, -tAndM_r, -tOrM_r, -tNotM_r, -eAnd_r, -eOr_r, -eNot_r, -eIf_r, -aCons_r, -eN_r, -fCall_r, -eCallK_r, -eM_r, -eSl_r, -oSome_r, -eIsN_r, -eLc_r, -iSeq_r, -iRng_r, r3_l_words]
    exact fin nn μ' ds n0 nh (by simpa using dl) dx e Hb E
theorem w_words (H : Bx h m μ) (hm : m + 20 ≤ 10 ^ 9) {k : Nat} (hk : k ≤ 100) (fin : ∀ n μ' (ds : List D), μ.length ≤ n → n ≠ h → ds.length = k → (∀ d ∈ ds, Sx d) → μ'[n]? = some (.lst (ds.map .d)) → Bx h (m + 20) μ' → Ext h μ μ' → P (.c n) μ') : Wp (F_l_words [.c h, .d (.int k)] μ) P := by
  unfold F_l_words B_l_words
  apply Wp_run
  simp -implicitDefEqProofs (disch := first | (with_reducible assumption) | ((with_reducible show List.length _ = _); rfl) | (simp only [allD_cons, allD_nil, Option.map_some, Option.isSome_some]; done) | (simp only [List.length_cons, List.length_nil, List.length_map]; done) | ((with_reducible refine cMod_of ?_); omega) | ((with_reducible refine cDiv_of ?_ ?_) <;> omega) | ((with_reducible refine okR_of ?_ ?_) <;> omega) | omega | (simp only [List.length_take, List.length_drop, List.length_append, List.length_cons, List.length_nil, List.length_map, List.length_range, List.length_replicate]; omega)) [-sSeq_r, -sRet_r, -sDrop_r, -sSet_r, -sIf_r, -sPar_r, -sAsg_r, -sSetIx_r, -sFor_r, -gsCons_r, -gT_r, -e1_r, -e2_r, -tV_r, -tAndM_r, -tOrM_r, -tNotM_r, -eAnd_r, -eOr_r, -eNot_r, -eIf_r, -aCons_r, -eN_r, -fCall_r, -eCallK_r, -eM_r, -eSl_r, -oSome_r, -eIsN_r, -eLc_r, -iSeq_r, -iRng_r, r7_l_words]
  refine w_take H (by omega) (by decide) (by decide) fun f μ1 hf H1 O1 => ?_
  simp -implicitDefEqProofs (disch := first | (with_reducible assumption) | ((with_reducible show List.length _ = _); rfl) | (simp only [allD_cons, allD_nil, Option.map_some, Option.isSome_some]; done) | (simp only [List.length_cons, List.length_nil, List.length_map]; done) | ((with_reducible refine cMod_of ?_); omega) | ((with_reducible refine cDiv_of ?_ ?_) <;> omega) | ((with_reducible refine okR_of ?_ ?_) <;> omega) | omega | (simp only [List.length_take, List.length_drop, List.length_append, List.length_cons, List.length_nil, List.length_map, List.length_range, List.length_replicate]; omega)) [-sSeq_r, -sRet_r, -sDrop_r, -sSet_r, -sIf_r, -sPar_r, -sAsg_r, -sSetIx_r, -sFor_r, -gsCons_r, -gT_r, -e1_r, -e2_r, -tV_r, -tAndM_r, -tOrM_r, -tNotM_r, -eAnd_r, -eOr_r, -eNot_r, -eIf_r, -aCons_r, -eN_r, -fCall_r, -eCallK_r, -eM_r, -eSl_r, -oSome_r, -eIsN_r, -eLc_r, -iSeq_r, -iRng_r, ]
  refine w_pick H1 (by omega) (by decide) (by decide) fun b μ2 hb H2 O2 => ?_
  obtain ⟨j, rfl, hj⟩ : ∃ j : Nat, b = .int j ∧ j ≤ 105 := by
    simp only [List.mem_cons, List.not_mem_nil, or_false] at hb
    rcases hb with rfl | rfl | rfl | rfl | rfl
    · exact ⟨1, rfl, by decide⟩
    · exact ⟨3, rfl, by decide⟩
    · exact ⟨27, rfl, by decide⟩
    · exact ⟨51, rfl, by decide⟩
    · exact ⟨105, rfl, by decide⟩
  simp -implicitDefEqProofs (disch := first | (with_reducible assumption) | ((with_reducible show List.length _ = _); rfl) | (simp only [allD_cons, allD_nil, Option.map_some, Option.isSome_some]; done) | (simp only [List.length_cons, List.length_nil, List.length_map]; done) | ((with_reducible refine cMod_of ?_); omega) | ((with_reducible refine cDiv_of ?_ ?_) <;> omega) | ((with_reducible refine okR_of ?_ ?_) <;> omega) | omega | (simp only [List.length_take, List.length_drop, List.length_append, List.length_cons, List.length_nil, List.length_map, List.length_range, List.length_replicate]; omega)) [-sSeq_r, -sRet_r, -sDrop_r, -sSet_r, -sIf_r, -sPar_r, -sAsg_r, -sSetIx_r, -sFor_r, -gsCons_r, -gT_r, -e1_r, -e2_r, -tV_r, -tAndM_r, -tOrM_r, -tNotM_r, -eAnd_r, -eOr_r, -eNot_r, -eIf_r, -aCons_r, -eN_r, -fCall_r, -eCallK_r, -eM_r, -eSl_r, -oSome_r, -eIsN_r, -eLc_r, -iSeq_r, -iRng_r, r6_l_words]
  refine w_pick H2 (by omega) (by decide) (by decide) fun q μ3 hq H3 O3 => ?_
  obtain ⟨n, rfl, hn⟩ : ∃ n : Nat, q = .int n ∧ n ≤ 6 := by
    simp only [List.mem_cons, List.not_mem_nil, or_false] at hq
    rcases hq with rfl | rfl | rfl | rfl | rfl
    · exact ⟨0, rfl, by decide⟩
    · exact ⟨0, rfl, by decide⟩
    · exact ⟨1, rfl, by decide⟩
    · exact ⟨3, rfl, by decide⟩
    · exact ⟨6, rfl, by decide⟩
  simp -implicitDefEqProofs (disch := first | (with_reducible assumption) | ((with_reducible show List.length _ = _); rfl) | (simp only [allD_cons, allD_nil, Option.map_some, Option.isSome_some]; done) | (simp only [List.length_cons, List.length_nil, List.length_map]; done) | ((with_reducible refine cMod_of ?_); omega) | ((with_reducible refine cDiv_of ?_ ?_) <;> omega) | ((with_reducible refine okR_of ?_ ?_) <;> omega) | omega | (simp only [List.length_take, List.length_drop, List.length_append, List.length_cons, List.length_nil, List.length_map, List.length_range, List.length_replicate]; omega)) [-sSeq_r, -sRet_r, -sDrop_r, -sSet_r, -sIf_r, -sPar_r, -sAsg_r, -sSetIx_r, -sFor_r, -gsCons_r, -gT_r, -e1_r, -e2_r, -tV_r, -tAndM_r, -tOrM_r, -tNotM_r, -eAnd_r, -eOr_r, -eNot_r, -eIf_r, -aCons_r, -eN_r, -fCall_r, -eCallK_r, -eM_r, -eSl_r, -oSome_r, -eIsN_r, -eLc_r, -iSeq_r, -iRng_r, ]
  refine Wp_lcF (by simp; omega) ?_
  have O123 := (O1.trans O2).trans O3
  refine Wp_lcM_y (fun i μ' => i ≤ 6 → Bx h (m + 3 + i) μ' ∧ Oth h μ μ') (fun y => ∃ c, y = .d (.str (T [c])) ∧ c < 128) (i := 0) (fun _ => ⟨H3, O123⟩) (fun i b μ' hb I => ?_) fun ys μ4 hl hy I => ?_
  · have hil : i < n := by
      have := (List.getElem?_eq_some_iff.mp hb).1
      simpa using this
    obtain ⟨Hi, Oi⟩ := I (by omega)
    simp -implicitDefEqProofs (disch := first | (with_reducible assumption) | ((with_reducible show List.length _ = _); rfl) | (simp only [allD_cons, allD_nil, Option.map_some, Option.isSome_some]; done) | (simp only [List.length_cons, List.length_nil, List.length_map]; done) | ((with_reducible refine cMod_of ?_); omega) | ((with_reducible refine cDiv_of ?_ ?_) <;> omega) | ((with_reducible refine okR_of ?_ ?_) <;> omega) | omega | (simp only [List.length_take, List.length_drop, List.length_append, List.length_cons, List.length_nil, List.length_map, List.length_range, List.length_replicate]; omega)) [-sSeq_r, -sRet_r, -sDrop_r, -sSet_r, -sIf_r, -sPar_r, -sAsg_r, -sSetIx_r, -sFor_r, -gsCons_r, -gT_r, -e1_r, -e2_r, -tV_r, -tAndM_r, -tOrM_r, -tNotM_r, -eAnd_r, -eOr_r, -eNot_r, -eIf_r, -aCons_r, -eN_r, -fCall_r, -eCallK_r, -eM_r, -eSl_r, -oSome_r, -eIsN_r, -eLc_r, -iSeq_r, -iRng_r, wipeD, c1_l_words]
    refine w_pickS Hi (by omega) (by decide) (by decide) fun c μ5 hc H5 O5 => ?_
    refine ⟨⟨c, rfl, ?_⟩, fun _ => ⟨H5.mono (by omega), Oi.trans O5⟩⟩
    have : ∀ x ∈ [97, 98, 99, 100, 101, 102, 103, 104, 105, 106, 107, 108, 109, 110, 111, 112, 113, 114, 115, 116, 117, 118, 119, 120, 121, 122], x < 128 := by decide
    exact this c hc
  · have hl' : ys.length = n := by simpa using hl
    obtain ⟨H4, O4⟩ := I (by simp; omega)
    obtain ⟨cs, rfl, hcs⟩ := ones ys hy
    have cl : cs.length = n := by simpa using hl'
    have H4 : Bx h (m + 9) μ4 := H4.mono (by simp; omega)
    rw [dList_map (by simp; omega)]
    simp -implicitDefEqProofs (disch := first | (with_reducible assumption) | ((with_reducible show List.length _ = _); rfl) | (simp only [allD_cons, allD_nil, Option.map_some, Option.isSome_some]; done) | (simp only [List.length_cons, List.length_nil, List.length_map]; done) | ((with_reducible refine cMod_of ?_); omega) | ((with_reducible refine cDiv_of ?_ ?_) <;> omega) | ((with_reducible refine okR_of ?_ ?_) <;> omega) | omega | (simp only [List.length_take, List.length_drop, List.length_append, List.length_cons, List.length_nil, List.length_map, List.length_range, List.length_replicate]; omega)) [-sSeq_r, -sRet_r, -sDrop_r, -sSet_r, -sIf_r, -sPar_r, -sAsg_r, -sSetIx_r, -sFor_r, -gsCons_r, -gT_r, -e1_r, -e2_r, -tV_r, -tAndM_r, -tOrM_r, -tNotM_r, -eAnd_r, -eOr_r, -eNot_r, -eIf_r, -aCons_r, -eN_r, -fCall_r, -eCallK_r, -eM_r, -eSl_r, -oSome_r, -eIsN_r, -eLc_r, -iSeq_r, -iRng_r, join_ones (show cs.length ≤ 100 by omega), r5_l_words]
    refine w_take H4 (by omega) (by omega) (by omega) fun a μ5 ha H5 O5 => ?_
    simp -implicitDefEqProofs (disch := first | (with_reducible assumption) | ((with_reducible show List.length _ = _); rfl) | (simp only [allD_cons, allD_nil, Option.map_some, Option.isSome_some]; done) | (simp only [List.length_cons, List.length_nil, List.length_map]; done) | ((with_reducible refine cMod_of ?_); omega) | ((with_reducible refine cDiv_of ?_ ?_) <;> omega) | ((with_reducible refine okR_of ?_ ?_) <;> omega) | omega | (simp only [List.length_take, List.length_drop, List.length_append, List.length_cons, List.length_nil, List.length_map, List.length_range, List.length_replicate]; omega)) [-sSeq_r, -sRet_r, -sDrop_r, -sSet_r, -sIf_r, -sPar_r, -sAsg_r, -sSetIx_r, -sFor_r, -gsCons_r, -gT_r, -e1_r, -e2_r, -tV_r, -tAndM_r, -tOrM_r, -tNotM_r, -eAnd_r, -eOr_r, -eNot_r, -eIf_r, -aCons_r, -eN_r, -fCall_r, -eCallK_r, -eM_r, -eSl_r, -oSome_r, -eIsN_r, -eLc_r, -iSeq_r, -iRng_r, ]
    rw [cList_c (by simp)]
    simp -implicitDefEqProofs (disch := first | (with_reducible assumption) | ((with_reducible show List.length _ = _); rfl) | (simp only [allD_cons, allD_nil, Option.map_some, Option.isSome_some]; done) | (simp only [List.length_cons, List.length_nil, List.length_map]; done) | ((with_reducible refine cMod_of ?_); omega) | ((with_reducible refine cDiv_of ?_ ?_) <;> omega) | ((with_reducible refine okR_of ?_ ?_) <;> omega) | omega | (simp only [List.length_take, List.length_drop, List.length_append, List.length_cons, List.length_nil, List.length_map, List.length_range, List.length_replicate]; omega)) [-sSeq_r, -sRet_r, -sDrop_r, -sSet_r, -sIf_r, -sPar_r, -sAsg_r, -sSetIx_r, -sFor_r, -gsCons_r, -gT_r, -e1_r, -e2_r, -tV_r, -tAndM_r, -tOrM_r, -tNotM_r, -eAnd_r, -eOr_r, -eNot_r, -eIf_r, -aCons_r, -eN_r, -fCall_r, -eCallK_r, -eM_r, -eSl_r, -oSome_r, -eIsN_r, -eLc_r, -iSeq_r, -iRng_r, ]
    have E5 := Ext.oth (O4.trans O5)
    have hh : h < μ5.length := by obtain ⟨_, _, _, e, _⟩ := H5; exact lt_of_get e
    obtain ⟨x1, x2, x3, ex, x4, x5, x6, x7, x8⟩ := H5
    refine w_words1 (by decide) (by decide) hk (by omega) hj (by omega) hcs hm (E5.1) (by omega) (by simp) ⟨x1, x2, x3, by rw [List.getElem?_append_left hh]; exact ex, x4, x5, x6, x7, by omega⟩ (E5.trans (Ext.app h _ _)) fin
end
end LW

namespace LW
open PySem PySem.Spec PyProof.Rows L2 DL
mutual
/-- how long the repr is at most -/
def wt : D → Nat
  | .none => 4
  | .bool _ => 5
  | .int _ => 41
  | .str z => 10 * z.length + 2
  | .list ds => 3 + wts ds
  | .tuple ds => 3 + wts ds
  | .dict _ => 2
def wts : List D → Nat
  | [] => 0
  | d :: ds => wt d + 2 + wts ds
end
mutual
/-- data of this law's kinds -/
def okD : D → Bool
  | .none => true
  | .bool _ => true
  | .int i => decide (i.natAbs < 10 ^ 40)
  | .str z => z.cps.toList.all fun c => decide (c < 128)
  | .list ds => okDs ds
  | .tuple ds => okDs ds
  | .dict ps => ps.isEmpty
def okDs : List D → Bool
  | [] => true
  | d :: ds => okD d && okDs ds
end
theorem T_cps (z : Str) : T z.cps.toList = z := by
  obtain ⟨⟨l⟩⟩ := z
  rfl
mutual
theorem ok_show : ∀ d : D, okD d = true → d.showable = true ∧ dic0 d = true ∧ d.shown.length ≤ wt d
  | .none, _ => ⟨rfl, rfl, by decide +kernel⟩
  | .bool b, _ => ⟨rfl, rfl, by cases b <;> decide +kernel⟩
  | .int i, h => by
    have q := Sm.int (i := i) (by simpa [okD] using h)
    exact ⟨q.sh, rfl, q.ln⟩
  | .str z, h => by
    have q := Sm.str (l := z.cps.toList) (by
      intro c hc
      have := List.all_eq_true.mp (show (z.cps.toList.all fun c => decide (c < 128)) = true from h) c hc
      have := of_decide_eq_true this
      exact Nat.lt_trans this (by decide))
    rw [T_cps] at q
    refine ⟨q.sh, rfl, ?_⟩
    have := q.ln
    have e : z.cps.toList.length = z.length := by simp [Str.length]
    rw [e] at this
    exact this
  | .list ds, h => by
    obtain ⟨a, b, c, e⟩ := oks_show ds (by simpa [okD] using h)
    refine ⟨by simpa [PyData.showable] using a, by simpa [dic0] using b, ?_⟩
    have := listText_le (PyData.shownAll ds)
    rw [PyData.shown, wt]
    omega
  | .tuple ds, h => by
    obtain ⟨a, b, c, e⟩ := oks_show ds (by simpa [okD] using h)
    refine ⟨by simpa [PyData.showable] using a, by simpa [dic0] using b, ?_⟩
    have := tupleText_le (PyData.shownAll ds)
    rw [PyData.shown, wt]
    omega
  | .dict ps, h => by
    cases ps with
    | nil => exact ⟨rfl, rfl, by decide +kernel⟩
    | cons _ _ => simp [okD] at h
theorem oks_show : ∀ ds : List D, okDs ds = true → PyData.showableAll ds = true ∧ dic0s ds = true ∧ piled (PyData.shownAll ds) ≤ wts ds ∧ (PyData.shownAll ds).length = ds.length
  | [], _ => ⟨rfl, rfl, Nat.le_refl _, rfl⟩
  | d :: ds, h => by
    rw [okDs, Bool.and_eq_true] at h
    obtain ⟨a1, a2, a3⟩ := ok_show d h.1
    obtain ⟨b1, b2, b3, b4⟩ := oks_show ds h.2
    refine ⟨by simp [PyData.showableAll, a1, b1], by simp [dic0s, a2, b2], ?_, ?_⟩
    · rw [PyData.shownAll, piled_cons, wts]; omega
    · rw [PyData.shownAll, List.length_cons, List.length_cons, b4]
end
theorem okDs_all : ∀ ds : List D, okDs ds = ds.all okD
  | [] => rfl
  | d :: ds => by rw [okDs, List.all_cons, okDs_all ds]
theorem wts_app : ∀ a b : List D, wts (a ++ b) = wts a + wts b
  | [], b => by simp [wts]
  | d :: a, b => by rw [List.cons_append, wts, wts, wts_app a b]; omega
theorem depth_app : ∀ a b : List D, PyData.depthAll (a ++ b) = max (PyData.depthAll a) (PyData.depthAll b)
  | [], b => by simp [PyData.depthAll]
  | d :: a, b => by rw [List.cons_append, PyData.depthAll, PyData.depthAll, depth_app a b]; omega
/-- k: how deep, c: how long at most -/
structure Gd (k c : Nat) (d : D) : Prop where
  ok : okD d = true
  dp : d.depth ≤ k
  ln : wt d ≤ c
theorem Gd.mono {k c k' c' : Nat} {d : D} (h : Gd k c d) (hk : k ≤ k') (hc : c ≤ c') : Gd k' c' d := ⟨h.ok, Nat.le_trans h.dp hk, Nat.le_trans h.ln hc⟩
theorem dReprE_gd {d : D} {μ : Store} (h : Gd 40 16000000 d) : dReprE [.d d] μ = .ok (.d (.str d.shown)) μ := by
  obtain ⟨a, b, c⟩ := ok_show d h.ok
  have hb := line_big
  have := h.dp
  have := h.ln
  show (if (d.showable && dic0 d && decide (d.depth ≤ 40) && decide (d.shown.length ≤ sizeLine)) = true then Out.ok (Dv.d (.str d.shown)) μ else .bad) = _
  rw [if_pos]
  simp only [a, b, Bool.true_and, Bool.and_eq_true, decide_eq_true_eq]
  exact ⟨by omega, by omega⟩
/-! ### a thing of any kind -/
def xs200 : Str := Txt.mul (T [120]) 200
theorem mul200 {μ : Store} : dMulA (.d (.str (T [120]))) (.d (.int 200)) μ = .ok (.d (.str xs200)) μ := by
  show (if (decide (-(2 ^ 31) ≤ (200 : Int)) && decide ((200 : Int) < 2 ^ 31) && decide ((T [120]).length * (200 : Int).toNat ≤ sizeLine) && decide ((200 : Int) < 1 ∨ ((T [120]).length : Int) ≤ (2 ^ 63 - 1) / 200)) = true then Out.ok (Dv.d (PyData.str (Txt.mul (T [120]) 200))) μ else Out.bad) = _
  rw [if_pos (by decide +kernel)]
  rfl
def oddL : List D := [.none, .bool true, .bool false, .int 0, .int 1, .int 4, .int 5, .int 20, .int 21, .int (-1), .int 999999999, .str (T []), .str (T [32]), .str (T [97]), .str (T [32, 97]), .str (T [97, 32]), .str (T [97, 32, 98]), .str (T [10]), .str (T [97, 10]), .str (T [10, 97])] ++
  [.str (T [121, 109, 100]), .str (T [109, 121, 100]), .str (T [119, 104, 111, 108, 101]), .str (T [97, 109, 111, 117, 110, 116]), .str (T [115, 105, 103, 110, 115]), .str (T [65]), .str (T [97, 98, 99, 100, 101, 102, 103, 104]), .str (T [97, 98, 99, 100, 101, 102, 103, 104, 105]), .str (T [97, 49]), .str (T [44]), .str (T [59]), .str (T [58]), .str (T [46])] ++
  [.str (T [126]), .str (T [34])] ++ [.str (T [39]), .str xs200, .tuple [], .list [], .dict [], .tuple [.str (T [119, 104, 111, 108, 101])], .list [.str (T [119, 104, 111, 108, 101])], .tuple [.str (T [97, 109, 111, 117, 110, 116]), .int 2], .tuple [.str (T [97])], .tuple [.str (T [97]), .str (T [97])], .tuple [.int 1], .tuple [.tuple []]]
theorem odd_all : (oddL.all fun d => okD d && decide (d.depth ≤ 2) && decide (wt d ≤ 2100)) = true := by decide +kernel
theorem odd_gd {d : D} (h : d ∈ oddL) : Gd 2 2100 d := by
  have := List.all_eq_true.mp odd_all d h
  simp only [Bool.and_eq_true, decide_eq_true_eq] at this
  exact ⟨this.1.1, this.1.2, this.2⟩
section
variable {h m : Nat} {μ : Store} {P : Dv → Store → Prop}
theorem w_odd (H : Bx h m μ) (hm : m ≤ 10 ^ 9) (fin : ∀ c μ', Gd 2 2100 c → Bx h (m + 1) μ' → Oth h μ μ' → P (.d c) μ') : Wp (F_l_odd_one [.c h] μ) P := by
  unfold F_l_odd_one B_l_odd_one
  apply Wp_run
  simp -implicitDefEqProofs (disch := first | (with_reducible assumption) | ((with_reducible show List.length _ = _); rfl) | (simp only [allD_cons, allD_nil, Option.map_some, Option.isSome_some]; done) | (simp only [List.length_cons, List.length_nil, List.length_map]; done) | ((with_reducible refine cMod_of ?_); omega) | ((with_reducible refine cDiv_of ?_ ?_) <;> omega) | ((with_reducible refine okR_of ?_ ?_) <;> omega) | omega | (simp only [List.length_take, List.length_drop, List.length_append, List.length_cons, List.length_nil, List.length_map, List.length_range, List.length_replicate]; omega)) [-sSeq_r, -sRet_r, -sDrop_r, -sSet_r, -sIf_r, -sPar_r, -sAsg_r, -sSetIx_r, -sFor_r, -gsCons_r, -gT_r, -e1_r, -e2_r, -tV_r, -tAndM_r, -tOrM_r, -tNotM_r, -eAnd_r, -eOr_r, -eNot_r, -eIf_r, -aCons_r, -eN_r, -fCall_r, -eCallK_r, -eM_r, -eSl_r, -oSome_r, -eIsN_r, -eLc_r, -iSeq_r, -iRng_r, r4_l_odd_one, r3_l_odd_one, r2_l_odd_one, r1_l_odd_one, eDic0, mul200, dAdd_ll]
  refine w_pick H hm (by decide) (by decide) fun c μ' hc H' O => ?_
  simp -implicitDefEqProofs (disch := first | (with_reducible assumption) | ((with_reducible show List.length _ = _); rfl) | (simp only [allD_cons, allD_nil, Option.map_some, Option.isSome_some]; done) | (simp only [List.length_cons, List.length_nil, List.length_map]; done) | ((with_reducible refine cMod_of ?_); omega) | ((with_reducible refine cDiv_of ?_ ?_) <;> omega) | ((with_reducible refine okR_of ?_ ?_) <;> omega) | omega | (simp only [List.length_take, List.length_drop, List.length_append, List.length_cons, List.length_nil, List.length_map, List.length_range, List.length_replicate]; omega)) [-sSeq_r, -sRet_r, -sDrop_r, -sSet_r, -sIf_r, -sPar_r, -sAsg_r, -sSetIx_r, -sFor_r, -gsCons_r, -gT_r, -e1_r, -e2_r, -tV_r, -tAndM_r, -tOrM_r, -tNotM_r, -eAnd_r, -eOr_r, -eNot_r, -eIf_r, -aCons_r, -eN_r, -fCall_r, -eCallK_r, -eM_r, -eSl_r, -oSome_r, -eIsN_r, -eLc_r, -iSeq_r, -iRng_r, ]
  exact fin c μ' (odd_gd hc) H' O
end
end LW

namespace LW
open PySem PySem.Spec PyProof.Rows L2 DL
theorem cut_to {α : Type} {l : List α} {a : Nat} : cutL l none (some (a : Int)) = l.take a := by
  unfold cutL
  rw [HT.sIx_none, HT.sIx_nat, List.drop_zero, Nat.sub_zero, List.take_eq_take_iff]
  omega
theorem cut_from {α : Type} {l : List α} {a : Nat} : cutL l (some (a : Int)) none = l.drop a := by
  unfold cutL
  rw [HT.sIx_none, HT.sIx_nat, List.take_of_length_le (by rw [List.length_drop]; exact Nat.le_refl _)]
  by_cases h : a ≤ l.length
  · rw [Nat.min_eq_left h]
  · rw [Nat.min_eq_right (by omega), List.drop_of_length_le (Nat.le_refl _), List.drop_of_length_le (by omega)]
theorem cut_to1 {α : Type} {l : List α} {a : Nat} : cutL l none (some ((a : Int) + 1)) = l.take (a + 1) := cut_to (a := a + 1)
theorem cut_from1 {α : Type} {l : List α} {a : Nat} : cutL l (some ((a : Int) + 1)) none = l.drop (a + 1) := cut_from (a := a + 1)
theorem dAdd_tt {xs ys : List D} {μ : Store} (h : xs.length + ys.length ≤ 16000000) : dAdd (.d (.tuple xs)) (.d (.tuple ys)) μ = .ok (.d (.tuple (xs ++ ys))) μ := by
  have hb := line_big
  show (if xs.length + ys.length ≤ sizeLine then Out.ok (Dv.d (.tuple (xs ++ ys))) μ else .bad) = _
  rw [if_pos (by omega)]
theorem dToList_t {ds : List D} {μ : Store} (h : ds.length ≤ 16000000) : dToList dList [.d (.tuple ds)] μ = .ok (.d (.list ds)) μ := by
  show dList (ds.map .d) μ = _
  exact dList_map h
theorem dEqX_nil {neg : Bool} {ds : List D} {μ : Store} : dEqX neg (.d (.tuple ds)) (.d (.tuple [])) μ = .ok (.d (.bool (if neg then !ds.isEmpty else ds.isEmpty))) μ := by
  cases ds with
  | nil =>
    show dEq neg (.d (.tuple [])) (.d (.tuple [])) μ = _
    rw [dEq_dd (by decide)]
    cases neg <;> rfl
  | cons d ds => cases neg <;> rfl
theorem dI20 {x : D} {r : List D} {μ : Store} : dIx (.d (.list (x :: r))) (.d (.int 0)) μ = .ok (.d x) μ := dIx_l (atI_nn (k := 0) rfl)
theorem dI21 {x y : D} {r : List D} {μ : Store} : dIx (.d (.list (x :: y :: r))) (.d (.int 1)) μ = .ok (.d y) μ := dIx_l (atI_nn (k := 1) rfl)
def isTup : D → Bool
  | .tuple _ => true
  | _ => false
theorem dIsi_tup {d : D} {μ : Store} : dIsi "tuple" (.d d) μ = .ok (.d (.bool (isTup d))) μ := by
  cases d <;> rfl
/-- what a bent thing is like -/
structure Bn (ds : List D) (r : D) : Prop where
  ok : okD r = true
  dp : r.depth ≤ (PyData.tuple ds).depth + 3
  ln : wt r ≤ 2 * wt (.tuple ds) + 2200
  kd : (∃ es, r = .tuple es) ∨ ∃ es, r = .list es
theorem okDs_iff {ds : List D} : okDs ds = true ↔ ∀ d ∈ ds, okD d = true := by rw [okDs_all, List.all_eq_true]
theorem depth_le {n : Nat} : ∀ {ds : List D}, PyData.depthAll ds ≤ n ↔ ∀ d ∈ ds, d.depth ≤ n
  | [] => by simp [PyData.depthAll]
  | d :: ds => by
    rw [PyData.depthAll, Nat.max_le, depth_le (ds := ds)]
    simp
theorem wts_mem : ∀ {ds : List D} {d : D}, d ∈ ds → wt d + 2 ≤ wts ds
  | e :: ds, d, h => by
    rw [wts]
    rcases List.mem_cons.mp h with q | q
    · rw [q]; omega
    · have := wts_mem q; omega
theorem wts_len : ∀ ds : List D, 2 * ds.length ≤ wts ds
  | [] => Nat.zero_le _
  | d :: ds => by rw [wts, List.length_cons]; have := wts_len ds; omega
theorem wts_take (ds : List D) (n : Nat) : wts (ds.take n) + wts (ds.drop n) = wts ds := by
  rw [← wts_app, List.take_append_drop]
/-- some of ds and one thing more -/
theorem bn_mix {ds es : List D} (hok : okDs ds = true) (r : D) (r1 : okD r = true) (r2 : r.depth ≤ (PyData.tuple ds).depth + 2) (hm : ∀ d ∈ es, d ∈ ds ∨ d = r) (hw : wts es ≤ 2 * wts ds + 2200) : Bn ds (.tuple es) := by
  have e0 : (PyData.tuple ds).depth = PyData.depthAll ds + 1 := by simp only [PyData.depth]
  refine ⟨?_, ?_, ?_, .inl ⟨es, rfl⟩⟩
  · rw [okD, okDs_iff]
    intro d hd
    rcases hm d hd with q | q
    · exact okDs_iff.mp hok d q
    · rw [q]; exact r1
  · have : PyData.depthAll es ≤ PyData.depthAll ds + 3 := depth_le.mpr fun d hd => by
      rcases hm d hd with q | q
      · have := depth_le.mp (Nat.le_refl _) d q; omega
      · rw [q]; omega
    simp only [PyData.depth] at *
    omega
  · rw [wt, wt]
    omega
def BentSpec (F : OpN) (z : Nat) : Prop := ∀ {h m : Nat} {μ : Store} {P : Dv → Store → Prop} {ds : List D} {deep : Nat}, deep < z → Bx h m μ → m + 4 * z + 100 ≤ 10 ^ 9 → okDs ds = true → wts ds ≤ 1000000 →
  (∀ r μ', Bn ds r → Bx h (m + 4 * z) μ' → Oth h μ μ' → P (.d r) μ') → Wp (F [.c h, .d (.tuple ds), .d (.int deep)] μ) P
theorem bent_step {F : OpN} {z : Nat} (hz : z ≤ 5) (S : BentSpec F z) : BentSpec (runB 6 (B_l_bent F)) (z + 1) := by
  intro h m μ P ds deep hd H hm hok hw fin
  have hlen := wts_len ds
  have e0 : (PyData.tuple ds).depth = PyData.depthAll ds + 1 := by simp only [PyData.depth]
  unfold B_l_bent
  apply Wp_run
  simp -implicitDefEqProofs (disch := first | (with_reducible assumption) | ((with_reducible show List.length _ = _); rfl) | (simp only [allD_cons, allD_nil, Option.map_some, Option.isSome_some]; done) | (simp only [List.length_cons, List.length_nil, List.length_map]; done) | ((with_reducible refine cMod_of ?_); omega) | ((with_reducible refine cDiv_of ?_ ?_) <;> omega) | ((with_reducible refine okR_of ?_ ?_) <;> omega) | omega | (simp only [List.length_take, List.length_drop, List.length_append, List.length_cons, List.length_nil, List.length_map, List.length_range, List.length_replicate]; omega)) [-sSeq_r, -sRet_r, -sDrop_r, -sSet_r, -sIf_r, -sPar_r, -sAsg_r, -sSetIx_r, -sFor_r, -gsCons_r, -gT_r, -e1_r, -e2_r, -tV_r, -tAndM_r, -tOrM_r, -tNotM_r, -eAnd_r, -eOr_r, -eNot_r, -eIf_r, -aCons_r, -eN_r, -fCall_r, -eCallK_r, -eM_r, -eSl_r, -oSome_r, -eIsN_r, -eLc_r, -iSeq_r, -iRng_r, ]
  refine w_take H (by omega) (by decide) (by decide) fun w μ1 hwy H1 O1 => ?_
  have hmax : (if (ds.length : Int) > 1 then (ds.length : Int) else 1) = ((max 1 ds.length : Nat) : Int) := by split <;> omega
  simp -implicitDefEqProofs (disch := first | (with_reducible assumption) | ((with_reducible show List.length _ = _); rfl) | (simp only [allD_cons, allD_nil, Option.map_some, Option.isSome_some]; done) | (simp only [List.length_cons, List.length_nil, List.length_map]; done) | ((with_reducible refine cMod_of ?_); omega) | ((with_reducible refine cDiv_of ?_ ?_) <;> omega) | ((with_reducible refine okR_of ?_ ?_) <;> omega) | omega | (simp only [List.length_take, List.length_drop, List.length_append, List.length_cons, List.length_nil, List.length_map, List.length_range, List.length_replicate]; omega)) [-sSeq_r, -sRet_r, -sDrop_r, -sSet_r, -sIf_r, -sPar_r, -sAsg_r, -sSetIx_r, -sFor_r, -gsCons_r, -gT_r, -e1_r, -e2_r, -tV_r, -tAndM_r, -tOrM_r, -tNotM_r, -eAnd_r, -eOr_r, -eNot_r, -eIf_r, -aCons_r, -eN_r, -fCall_r, -eCallK_r, -eM_r, -eSl_r, -oSome_r, -eIsN_r, -eLc_r, -iSeq_r, -iRng_r, hmax]
  refine w_take H1 (by omega) (by omega) (by omega) fun a μ2 ha H2 O2 => ?_
  simp -implicitDefEqProofs (disch := first | (with_reducible assumption) | ((with_reducible show List.length _ = _); rfl) | (simp only [allD_cons, allD_nil, Option.map_some, Option.isSome_some]; done) | (simp only [List.length_cons, List.length_nil, List.length_map]; done) | ((with_reducible refine cMod_of ?_); omega) | ((with_reducible refine cDiv_of ?_ ?_) <;> omega) | ((with_reducible refine okR_of ?_ ?_) <;> omega) | omega | (simp only [List.length_take, List.length_drop, List.length_append, List.length_cons, List.length_nil, List.length_map, List.length_range, List.length_replicate]; omega)) [-sSeq_r, -sRet_r, -sDrop_r, -sSet_r, -sIf_r, -sPar_r, -sAsg_r, -sSetIx_r, -sFor_r, -gsCons_r, -gT_r, -e1_r, -e2_r, -tV_r, -tAndM_r, -tOrM_r, -tNotM_r, -eAnd_r, -eOr_r, -eNot_r, -eIf_r, -aCons_r, -eN_r, -fCall_r, -eCallK_r, -eM_r, -eSl_r, -oSome_r, -eIsN_r, -eLc_r, -iSeq_r, -iRng_r, r5_l_bent]
  refine w_odd H2 (by omega) fun o μ3 ho H3 O3 => ?_
  have O123 := (O1.trans O2).trans O3
  have tk := wts_take ds a
  have tk1 := wts_take ds (a + 1)
  have mt : ∀ d ∈ ds.take a, d ∈ ds := fun d hd => List.mem_of_mem_take hd
  have md : ∀ n, ∀ d ∈ ds.drop n, d ∈ ds := fun n d hd => List.mem_of_mem_drop hd
  have l1 : (ds.take a).length ≤ ds.length := by rw [List.length_take]; omega
  have l2 : ∀ n, (ds.drop n).length ≤ ds.length := fun n => by rw [List.length_drop]; omega
  have l3 : (ds.take (a + 1)).length ≤ ds.length := by rw [List.length_take]; omega
  have wd : wts (ds.drop (a + 1)) ≤ wts (ds.drop a) := by
    have : ds.drop (a + 1) = (ds.drop a).drop 1 := by rw [List.drop_drop]
    rw [this]
    have := wts_take (ds.drop a) 1
    omega
  have repl : ∀ (r : D) (μ' : Store), okD r = true → r.depth ≤ (PyData.tuple ds).depth + 2 → wts (ds.take a) + wt r + 2 + wts (ds.drop (a + 1)) ≤ 2 * wts ds + 2200 → Bx h (m + 4 * (z + 1)) μ' → Oth h μ μ' → P (.d (.tuple (ds.take a ++ r :: ds.drop (a + 1)))) μ' := fun r μ' r1 r2 r3 Hx Ox =>
    fin _ μ' (bn_mix hok r r1 r2 (fun d hd => by
      rcases List.mem_append.mp hd with q | q
      · exact .inl (mt d q)
      · rcases List.mem_cons.mp q with q | q
        · exact .inr q
        · exact .inl (md _ d q)) (by rw [wts_app, wts]; omega)) Hx Ox
  have od := ho.dp
  have ow := ho.ln
  have e3 : ∀ n : Nat, (n : Int) + 1 = ((n + 1 : Nat) : Int) := fun n => rfl
  have H3' : Bx h (m + 4 * (z + 1)) μ3 := H3.mono (by omega)
  have rO := repl o μ3 ho.ok (by omega) (by omega) H3' O123
  have nE : ds ≠ [] → a < ds.length := fun q => by
    have : 0 < ds.length := List.length_pos_iff.mpr q
    omega
  have last : ∀ l : List D, l = [.tuple (ds.take a ++ ds.drop (a + 1)), .tuple (ds.take (a + 1) ++ ds.drop a)] → ds ≠ [] → ∀ d ∈ l, P (.d d) μ3 := fun l el q d hd => by
    have hal := nE q
    have wt1 : wts (ds.take (a + 1)) = wts (ds.take a) + wt ds[a] + 2 := by
      rw [List.take_add_one, List.getElem?_eq_getElem hal, Option.toList_some, wts_app, wts, wts]; omega
    subst el
    simp only [List.mem_cons, List.not_mem_nil, or_false] at hd
    rcases hd with rfl | rfl
    · exact fin _ μ3 (bn_mix hok .none rfl (by simp [PyData.depth]) (fun d hd => by
        rcases List.mem_append.mp hd with q | q
        · exact .inl (mt d q)
        · exact .inl (md _ d q)) (by rw [wts_app]; omega)) H3' O123
    · exact fin _ μ3 (bn_mix hok .none rfl (by simp [PyData.depth]) (fun d hd => by
        rcases List.mem_append.mp hd with q | q
        · exact .inl (List.mem_of_mem_take q)
        · exact .inl (md _ d q)) (by rw [wts_app]; omega)) H3' O123
  have key : Wp (r3_l_bent F [some (.c h), some (.d (.tuple ds)), some (.d (.int deep)), some (.d (.int w)), some (.d (.int a)), some (.d o)] μ3) (finP P) := by
    by_cases w4 : (w : Int) < 4
    · simp -implicitDefEqProofs (disch := first | (with_reducible assumption) | ((with_reducible show List.length _ = _); rfl) | (simp only [allD_cons, allD_nil, Option.map_some, Option.isSome_some]; done) | (simp only [List.length_cons, List.length_nil, List.length_map]; done) | ((with_reducible refine cMod_of ?_); omega) | ((with_reducible refine cDiv_of ?_ ?_) <;> omega) | ((with_reducible refine okR_of ?_ ?_) <;> omega) | omega | (simp only [List.length_take, List.length_drop, List.length_append, List.length_cons, List.length_nil, List.length_map, List.length_range, List.length_replicate]; omega)) [-sSeq_r, -sRet_r, -sDrop_r, -sSet_r, -sIf_r, -sPar_r, -sAsg_r, -sSetIx_r, -sFor_r, -gsCons_r, -gT_r, -e1_r, -e2_r, -tV_r, -tAndM_r, -tOrM_r, -tNotM_r, -eAnd_r, -eOr_r, -eNot_r, -eIf_r, -aCons_r, -eN_r, -fCall_r, -eCallK_r, -eM_r, -eSl_r, -oSome_r, -eIsN_r, -eLc_r, -iSeq_r, -iRng_r, r3_l_bent, w4, cut_to, cut_from1, dAdd_tt]
      simpa using rO
    · by_cases hn : ds.isEmpty = true
      · simp -implicitDefEqProofs (disch := first | (with_reducible assumption) | ((with_reducible show List.length _ = _); rfl) | (simp only [allD_cons, allD_nil, Option.map_some, Option.isSome_some]; done) | (simp only [List.length_cons, List.length_nil, List.length_map]; done) | ((with_reducible refine cMod_of ?_); omega) | ((with_reducible refine cDiv_of ?_ ?_) <;> omega) | ((with_reducible refine okR_of ?_ ?_) <;> omega) | omega | (simp only [List.length_take, List.length_drop, List.length_append, List.length_cons, List.length_nil, List.length_map, List.length_range, List.length_replicate]; omega)) [-sSeq_r, -sRet_r, -sDrop_r, -sSet_r, -sIf_r, -sPar_r, -sAsg_r, -sSetIx_r, -sFor_r, -gsCons_r, -gT_r, -e1_r, -e2_r, -tV_r, -tAndM_r, -tOrM_r, -tNotM_r, -eAnd_r, -eOr_r, -eNot_r, -eIf_r, -aCons_r, -eN_r, -fCall_r, -eCallK_r, -eM_r, -eSl_r, -oSome_r, -eIsN_r, -eLc_r, -iSeq_r, -iRng_r, r3_l_bent, w4, cut_to, cut_from1, dAdd_tt, dEqX_nil, hn]
        simpa using rO
      · have hn : ds.isEmpty = false := by simpa using hn
        have hne : ds ≠ [] := fun q => by rw [q] at hn; cases hn
        by_cases w5 : w = 4
        · subst w5
          simp -implicitDefEqProofs (disch := first | (with_reducible assumption) | ((with_reducible show List.length _ = _); rfl) | (simp only [allD_cons, allD_nil, Option.map_some, Option.isSome_some]; done) | (simp only [List.length_cons, List.length_nil, List.length_map]; done) | ((with_reducible refine cMod_of ?_); omega) | ((with_reducible refine cDiv_of ?_ ?_) <;> omega) | ((with_reducible refine okR_of ?_ ?_) <;> omega) | omega | (simp only [List.length_take, List.length_drop, List.length_append, List.length_cons, List.length_nil, List.length_map, List.length_range, List.length_replicate]; omega)) [-sSeq_r, -sRet_r, -sDrop_r, -sSet_r, -sIf_r, -sPar_r, -sAsg_r, -sSetIx_r, -sFor_r, -gsCons_r, -gT_r, -e1_r, -e2_r, -tV_r, -tAndM_r, -tOrM_r, -tNotM_r, -eAnd_r, -eOr_r, -eNot_r, -eIf_r, -aCons_r, -eN_r, -fCall_r, -eCallK_r, -eM_r, -eSl_r, -oSome_r, -eIsN_r, -eLc_r, -iSeq_r, -iRng_r, r3_l_bent, r2_l_bent, dEqX_nil, hn, dToList_t, cut_to, cut_from, dAdd_tt]
          refine w_take H3 (by omega) (by decide) (by decide) fun i μ4 hi H4 O4 => ?_
          have H4' : Bx h (m + 4 * (z + 1)) μ4 := H4.mono (by omega)
          have hi2 : i = 0 ∨ i = 1 := by omega
          rcases hi2 with rfl | rfl
          · simp -implicitDefEqProofs (disch := first | (with_reducible assumption) | ((with_reducible show List.length _ = _); rfl) | (simp only [allD_cons, allD_nil, Option.map_some, Option.isSome_some]; done) | (simp only [List.length_cons, List.length_nil, List.length_map]; done) | ((with_reducible refine cMod_of ?_); omega) | ((with_reducible refine cDiv_of ?_ ?_) <;> omega) | ((with_reducible refine okR_of ?_ ?_) <;> omega) | omega | (simp only [List.length_take, List.length_drop, List.length_append, List.length_cons, List.length_nil, List.length_map, List.length_range, List.length_replicate]; omega)) [-sSeq_r, -sRet_r, -sDrop_r, -sSet_r, -sIf_r, -sPar_r, -sAsg_r, -sSetIx_r, -sFor_r, -gsCons_r, -gT_r, -e1_r, -e2_r, -tV_r, -tAndM_r, -tOrM_r, -tNotM_r, -eAnd_r, -eOr_r, -eNot_r, -eIf_r, -aCons_r, -eN_r, -fCall_r, -eCallK_r, -eM_r, -eSl_r, -oSome_r, -eIsN_r, -eLc_r, -iSeq_r, -iRng_r, dI20]
            refine fin _ μ4 ⟨by rw [okD]; exact hok, ?_, ?_, .inr ⟨ds, rfl⟩⟩ H4' (O123.trans O4)
            · simp only [PyData.depth]; omega
            · rw [wt, wt]; omega
          · simp -implicitDefEqProofs (disch := first | (with_reducible assumption) | ((with_reducible show List.length _ = _); rfl) | (simp only [allD_cons, allD_nil, Option.map_some, Option.isSome_some]; done) | (simp only [List.length_cons, List.length_nil, List.length_map]; done) | ((with_reducible refine cMod_of ?_); omega) | ((with_reducible refine cDiv_of ?_ ?_) <;> omega) | ((with_reducible refine okR_of ?_ ?_) <;> omega) | omega | (simp only [List.length_take, List.length_drop, List.length_append, List.length_cons, List.length_nil, List.length_map, List.length_range, List.length_replicate]; omega)) [-sSeq_r, -sRet_r, -sDrop_r, -sSet_r, -sIf_r, -sPar_r, -sAsg_r, -sSetIx_r, -sFor_r, -gsCons_r, -gT_r, -e1_r, -e2_r, -tV_r, -tAndM_r, -tOrM_r, -tNotM_r, -eAnd_r, -eOr_r, -eNot_r, -eIf_r, -aCons_r, -eN_r, -fCall_r, -eCallK_r, -eM_r, -eSl_r, -oSome_r, -eIsN_r, -eLc_r, -iSeq_r, -iRng_r, dI21]
            refine fin _ μ4 (bn_mix hok o ho.ok (by omega) (fun d hd => ?_) ?_) H4' (O123.trans O4)
            · simp only [List.mem_append, List.mem_cons, List.not_mem_nil, or_false] at hd
              rcases hd with hd | hd | hd
              · exact .inl (mt d hd)
              · exact .inr hd
              · exact .inl (md _ d hd)
            · simp only [wts_app, wts]; omega
        · have hw2 : w = 5 ∨ w = 6 := by omega
          have la := last _ rfl hne
          rcases hw2 with rfl | rfl
          · simp -implicitDefEqProofs (disch := first | (with_reducible assumption) | ((with_reducible show List.length _ = _); rfl) | (simp only [allD_cons, allD_nil, Option.map_some, Option.isSome_some]; done) | (simp only [List.length_cons, List.length_nil, List.length_map]; done) | ((with_reducible refine cMod_of ?_); omega) | ((with_reducible refine cDiv_of ?_ ?_) <;> omega) | ((with_reducible refine okR_of ?_ ?_) <;> omega) | omega | (simp only [List.length_take, List.length_drop, List.length_append, List.length_cons, List.length_nil, List.length_map, List.length_range, List.length_replicate]; omega)) [-sSeq_r, -sRet_r, -sDrop_r, -sSet_r, -sIf_r, -sPar_r, -sAsg_r, -sSetIx_r, -sFor_r, -gsCons_r, -gT_r, -e1_r, -e2_r, -tV_r, -tAndM_r, -tOrM_r, -tNotM_r, -eAnd_r, -eOr_r, -eNot_r, -eIf_r, -aCons_r, -eN_r, -fCall_r, -eCallK_r, -eM_r, -eSl_r, -oSome_r, -eIsN_r, -eLc_r, -iSeq_r, -iRng_r, r3_l_bent, r2_l_bent, r1_l_bent, dEqX_nil, hn, cut_to, cut_from, cut_to1, cut_from1, dAdd_tt, dI20]
            exact la _ (by simp)
          · simp -implicitDefEqProofs (disch := first | (with_reducible assumption) | ((with_reducible show List.length _ = _); rfl) | (simp only [allD_cons, allD_nil, Option.map_some, Option.isSome_some]; done) | (simp only [List.length_cons, List.length_nil, List.length_map]; done) | ((with_reducible refine cMod_of ?_); omega) | ((with_reducible refine cDiv_of ?_ ?_) <;> omega) | ((with_reducible refine okR_of ?_ ?_) <;> omega) | omega | (simp only [List.length_take, List.length_drop, List.length_append, List.length_cons, List.length_nil, List.length_map, List.length_range, List.length_replicate]; omega)) [-sSeq_r, -sRet_r, -sDrop_r, -sSet_r, -sIf_r, -sPar_r, -sAsg_r, -sSetIx_r, -sFor_r, -gsCons_r, -gT_r, -e1_r, -e2_r, -tV_r, -tAndM_r, -tOrM_r, -tNotM_r, -eAnd_r, -eOr_r, -eNot_r, -eIf_r, -aCons_r, -eN_r, -fCall_r, -eCallK_r, -eM_r, -eSl_r, -oSome_r, -eIsN_r, -eLc_r, -iSeq_r, -iRng_r, r3_l_bent, r2_l_bent, r1_l_bent, dEqX_nil, hn, cut_to, cut_from, cut_to1, cut_from1, dAdd_tt, dI21]
            exact la _ (by simp)
  simp -implicitDefEqProofs (disch := first | (with_reducible assumption) | ((with_reducible show List.length _ = _); rfl) | (simp only [allD_cons, allD_nil, Option.map_some, Option.isSome_some]; done) | (simp only [List.length_cons, List.length_nil, List.length_map]; done) | ((with_reducible refine cMod_of ?_); omega) | ((with_reducible refine cDiv_of ?_ ?_) <;> omega) | ((with_reducible refine okR_of ?_ ?_) <;> omega) | omega | (simp only [List.length_take, List.length_drop, List.length_append, List.length_cons, List.length_nil, List.length_map, List.length_range, List.length_replicate]; omega)) [-sSeq_r, -sRet_r, -sDrop_r, -sSet_r, -sIf_r, -sPar_r, -sAsg_r, -sSetIx_r, -sFor_r, -gsCons_r, -gT_r, -e1_r, -e2_r, -tV_r, -tAndM_r, -tOrM_r, -tNotM_r, -eAnd_r, -eOr_r, -eNot_r, -eIf_r, -aCons_r, -eN_r, -fCall_r, -eCallK_r, -eM_r, -eSl_r, -oSome_r, -eIsN_r, -eLc_r, -iSeq_r, -iRng_r, r4_l_bent]
  by_cases w3 : (w : Int) < 3
  · by_cases d0 : 0 < deep
    · by_cases hn : ds.isEmpty = true
      · simp -implicitDefEqProofs (disch := first | (with_reducible assumption) | ((with_reducible show List.length _ = _); rfl) | (simp only [allD_cons, allD_nil, Option.map_some, Option.isSome_some]; done) | (simp only [List.length_cons, List.length_nil, List.length_map]; done) | ((with_reducible refine cMod_of ?_); omega) | ((with_reducible refine cDiv_of ?_ ?_) <;> omega) | ((with_reducible refine okR_of ?_ ?_) <;> omega) | omega | (simp only [List.length_take, List.length_drop, List.length_append, List.length_cons, List.length_nil, List.length_map, List.length_range, List.length_replicate]; omega)) [-sSeq_r, -sRet_r, -sDrop_r, -sSet_r, -sIf_r, -sPar_r, -sAsg_r, -sSetIx_r, -sFor_r, -gsCons_r, -gT_r, -e1_r, -e2_r, -tV_r, -tAndM_r, -tOrM_r, -tNotM_r, -eAnd_r, -eOr_r, -eNot_r, -eIf_r, -aCons_r, -eN_r, -fCall_r, -eCallK_r, -eM_r, -eSl_r, -oSome_r, -eIsN_r, -eLc_r, -iSeq_r, -iRng_r, w3, d0, dEqX_nil, hn]
        exact key
      · have hn : ds.isEmpty = false := by simpa using hn
        have hne : ds ≠ [] := fun q => by rw [q] at hn; cases hn
        have hal := nE hne
        have ea : ds[a]? = some ds[a] := List.getElem?_eq_getElem hal
        by_cases ht : isTup ds[a] = true
        · obtain ⟨es, ee⟩ : ∃ es, ds[a] = .tuple es := by
            cases q : ds[a] <;> rw [q] at ht <;> first | exact ⟨_, rfl⟩ | cases ht
          rw [ee] at ea
          have mem : PyData.tuple es ∈ ds := List.mem_of_getElem? ea
          have ok2 := okDs_iff.mp hok _ mem
          have we := wts_mem mem
          have we2 : wts es + 3 = wt (.tuple es) := by rw [wt]; omega
          have de := depth_le.mp (Nat.le_refl _) _ mem
          have wt1 : wts ds = wts (ds.take a) + wt (.tuple es) + 2 + wts (ds.drop (a + 1)) := by
            have : wts (ds.take (a + 1)) = wts (ds.take a) + wt (.tuple es) + 2 := by
              rw [List.take_add_one, ea, Option.toList_some, wts_app, wts, wts]; omega
            omega
          have ed : (deep : Int) - 1 = ((deep - 1 : Nat) : Int) := by omega
          simp -implicitDefEqProofs (disch := first | (with_reducible assumption) | ((with_reducible show List.length _ = _); rfl) | (simp only [allD_cons, allD_nil, Option.map_some, Option.isSome_some]; done) | (simp only [List.length_cons, List.length_nil, List.length_map]; done) | ((with_reducible refine cMod_of ?_); omega) | ((with_reducible refine cDiv_of ?_ ?_) <;> omega) | ((with_reducible refine okR_of ?_ ?_) <;> omega) | omega | (simp only [List.length_take, List.length_drop, List.length_append, List.length_cons, List.length_nil, List.length_map, List.length_range, List.length_replicate]; omega)) [-sSeq_r, -sRet_r, -sDrop_r, -sSet_r, -sIf_r, -sPar_r, -sAsg_r, -sSetIx_r, -sFor_r, -gsCons_r, -gT_r, -e1_r, -e2_r, -tV_r, -tAndM_r, -tOrM_r, -tNotM_r, -eAnd_r, -eOr_r, -eNot_r, -eIf_r, -aCons_r, -eN_r, -fCall_r, -eCallK_r, -eM_r, -eSl_r, -oSome_r, -eIsN_r, -eLc_r, -iSeq_r, -iRng_r, w3, d0, dEqX_nil, hn, dIx_t (atI_nn ea), dIsi_tup, isTup, cut_to, ed]
          refine S (by omega) H3 (by omega) (by simpa [okD] using ok2) (by omega) fun r μ4 bn H4 O4 => ?_
          simp -implicitDefEqProofs (disch := first | (with_reducible assumption) | ((with_reducible show List.length _ = _); rfl) | (simp only [allD_cons, allD_nil, Option.map_some, Option.isSome_some]; done) | (simp only [List.length_cons, List.length_nil, List.length_map]; done) | ((with_reducible refine cMod_of ?_); omega) | ((with_reducible refine cDiv_of ?_ ?_) <;> omega) | ((with_reducible refine okR_of ?_ ?_) <;> omega) | omega | (simp only [List.length_take, List.length_drop, List.length_append, List.length_cons, List.length_nil, List.length_map, List.length_range, List.length_replicate]; omega)) [-sSeq_r, -sRet_r, -sDrop_r, -sSet_r, -sIf_r, -sPar_r, -sAsg_r, -sSetIx_r, -sFor_r, -gsCons_r, -gT_r, -e1_r, -e2_r, -tV_r, -tAndM_r, -tOrM_r, -tNotM_r, -eAnd_r, -eOr_r, -eNot_r, -eIf_r, -aCons_r, -eN_r, -fCall_r, -eCallK_r, -eM_r, -eSl_r, -oSome_r, -eIsN_r, -eLc_r, -iSeq_r, -iRng_r, cut_from1, dAdd_tt]
          have b1 := bn.dp
          have b2 := bn.ln
          simpa using repl r μ4 bn.ok (by omega) (by omega) (H4.mono (by omega)) (O123.trans O4)
        · have ht : isTup ds[a] = false := by simpa using ht
          simp -implicitDefEqProofs (disch := first | (with_reducible assumption) | ((with_reducible show List.length _ = _); rfl) | (simp only [allD_cons, allD_nil, Option.map_some, Option.isSome_some]; done) | (simp only [List.length_cons, List.length_nil, List.length_map]; done) | ((with_reducible refine cMod_of ?_); omega) | ((with_reducible refine cDiv_of ?_ ?_) <;> omega) | ((with_reducible refine okR_of ?_ ?_) <;> omega) | omega | (simp only [List.length_take, List.length_drop, List.length_append, List.length_cons, List.length_nil, List.length_map, List.length_range, List.length_replicate]; omega)) [-sSeq_r, -sRet_r, -sDrop_r, -sSet_r, -sIf_r, -sPar_r, -sAsg_r, -sSetIx_r, -sFor_r, -gsCons_r, -gT_r, -e1_r, -e2_r, -tV_r, -tAndM_r, -tOrM_r, -tNotM_r, -eAnd_r, -eOr_r, -eNot_r, -eIf_r, -aCons_r, -eN_r, -fCall_r, -eCallK_r, -eM_r, -eSl_r, -oSome_r, -eIsN_r, -eLc_r, -iSeq_r, -iRng_r, w3, d0, dEqX_nil, hn, dIx_t (atI_nn ea), dIsi_tup, ht]
          exact key
    · simp -implicitDefEqProofs (disch := first | (with_reducible assumption) | ((with_reducible show List.length _ = _); rfl) | (simp only [allD_cons, allD_nil, Option.map_some, Option.isSome_some]; done) | (simp only [List.length_cons, List.length_nil, List.length_map]; done) | ((with_reducible refine cMod_of ?_); omega) | ((with_reducible refine cDiv_of ?_ ?_) <;> omega) | ((with_reducible refine okR_of ?_ ?_) <;> omega) | omega | (simp only [List.length_take, List.length_drop, List.length_append, List.length_cons, List.length_nil, List.length_map, List.length_range, List.length_replicate]; omega)) [-sSeq_r, -sRet_r, -sDrop_r, -sSet_r, -sIf_r, -sPar_r, -sAsg_r, -sSetIx_r, -sFor_r, -gsCons_r, -gT_r, -e1_r, -e2_r, -tV_r, -tAndM_r, -tOrM_r, -tNotM_r, -eAnd_r, -eOr_r, -eNot_r, -eIf_r, -aCons_r, -eN_r, -fCall_r, -eCallK_r, -eM_r, -eSl_r, -oSome_r, -eIsN_r, -eLc_r, -iSeq_r, -iRng_r, w3, d0]
      exact key
  · simp -implicitDefEqProofs (disch := first | (with_reducible assumption) | ((with_reducible show List.length _ = _); rfl) | (simp only [allD_cons, allD_nil, Option.map_some, Option.isSome_some]; done) | (simp only [List.length_cons, List.length_nil, List.length_map]; done) | ((with_reducible refine cMod_of ?_); omega) | ((with_reducible refine cDiv_of ?_ ?_) <;> omega) | ((with_reducible refine okR_of ?_ ?_) <;> omega) | omega | (simp only [List.length_take, List.length_drop, List.length_append, List.length_cons, List.length_nil, List.length_map, List.length_range, List.length_replicate]; omega)) [-sSeq_r, -sRet_r, -sDrop_r, -sSet_r, -sIf_r, -sPar_r, -sAsg_r, -sSetIx_r, -sFor_r, -gsCons_r, -gT_r, -e1_r, -e2_r, -tV_r, -tAndM_r, -tOrM_r, -tNotM_r, -eAnd_r, -eOr_r, -eNot_r, -eIf_r, -aCons_r, -eN_r, -fCall_r, -eCallK_r, -eM_r, -eSl_r, -oSome_r, -eIsN_r, -eLc_r, -iSeq_r, -iRng_r, w3]
    exact key
theorem bent0 : BentSpec F_l_bent0 0 := fun h => absurd h (Nat.not_lt_zero _)
theorem bent3 : BentSpec F_l_bent 3 := bent_step (by decide) (bent_step (by decide) (bent_step (by decide) bent0))
/-- a bent thing -/
theorem w_bent {h m : Nat} {μ : Store} {P : Dv → Store → Prop} {ds : List D} (H : Bx h m μ) (hm : m + 200 ≤ 10 ^ 9) (hok : okDs ds = true) (hw : wts ds ≤ 1000000) (fin : ∀ r μ', Bn ds r → Bx h (m + 12) μ' → Oth h μ μ' → P (.d r) μ') : Wp (F_l_bent [.c h, .d (.tuple ds), .d (.int 2)] μ) P :=
  bent3 (deep := 2) (by decide) H (by omega) hok hw fin
end LW

namespace LW
open PySem PySem.Spec PyProof.Rows L2 DL
def stripL (l : List Nat) : List Nat := (Txt.stripChars (T l) (T [32])).cps.toList
theorem dStripC_s {l : List Nat} {μ : Store} (h : l.length ≤ 16000000) : dStripC (.d (.str (T l))) [.d (.str (T [32]))] μ = .ok (.d (.str (T (stripL l)))) μ := by
  have hb := line_big
  show (if (T l).length ≤ sizeLine then Out.ok (Dv.d (.str (Txt.stripChars (T l) (T [32])))) μ else .bad) = _
  rw [if_pos (by rw [T_len]; omega), stripL, T_cps]
theorem tw_nil {l : List Nat} : (l.takeWhile (T [32]).cps.contains).length = 0 ↔ l.head? ≠ some 32 := by
  cases l with
  | nil => simp
  | cons a l =>
    rw [List.takeWhile_cons, List.head?_cons]
    have e : (T [32]).cps.contains a = decide (a = 32) := by
      show (#[32] : Array Nat).contains a = _
      simp
    rw [e]
    by_cases q : a = 32
    · subst q; simp
    · simp [q]
theorem ssl (x : Str) (i j : Nat) (h : j ≤ x.length) : (Builtin.Str.strSub x i j).cps.toList.length = j - i := by
  rw [← size_strSub x i j h]
  simp [Str.length]
theorem strip_dec {l : List Nat} (h : l ≠ []) : decide (stripL l = l) = (decide (l.head? ≠ some 32) && decide (l.getLast? ≠ some 32)) := by
  have h0 : 0 < l.length := List.length_pos_iff.mpr h
  have e1 : Txt.stripChars (T l) (T [32]) = Builtin.Str.strSub (T l) (stripLo (T [32]).cps.contains true (T l)) (stripHi (T [32]).cps.contains true (T l) (stripLo (T [32]).cps.contains true (T l))) := PyProof.Rows.stripBy_eq _ _ _ _
  have eLo : stripLo (T [32]).cps.contains true (T l) = (l.takeWhile (T [32]).cps.contains).length := rfl
  have eHi : ∀ lo, stripHi (T [32]).cps.contains true (T l) lo = l.length - ((l.drop lo).reverse.takeWhile (T [32]).cps.contains).length := fun lo => by
    show (T l).length - _ = _
    rw [T_len]; rfl
  have hhead := tw_nil (l := l)
  have hlast := tw_nil (l := l.reverse)
  rw [List.head?_reverse] at hlast
  by_cases a : l.head? = some 32
  · have ne : stripL l ≠ l := fun q => by
      have q2 := congrArg List.length q
      unfold stripL at q2
      rw [e1] at q2
      rw [ssl _ _ _ (by rw [eHi, T_len]; omega), eHi, eLo] at q2
      have : (l.takeWhile (T [32]).cps.contains).length ≠ 0 := fun z => hhead.mp z a
      omega
    simp [ne, a]
  · have z0 := hhead.mpr a
    by_cases b : l.getLast? = some 32
    · have ne : stripL l ≠ l := fun q => by
        have q2 := congrArg List.length q
        unfold stripL at q2
        rw [e1] at q2
        rw [ssl _ _ _ (by rw [eHi, T_len]; omega), eHi, eLo, z0, List.drop_zero] at q2
        have : (l.reverse.takeWhile (T [32]).cps.contains).length ≠ 0 := fun z => hlast.mp z b
        omega
      simp [ne, b]
    · have z1 := hlast.mpr b
      have eq : stripL l = l := by
        unfold stripL Txt.stripChars Txt.stripBy stripSame
        rw [eHi, eLo, z0, List.drop_zero, z1, T_len]
        simp [tl_T]
      simp [eq, a, b]
/-- a text that is a worth -/
def goodW (l : List Nat) : Bool := decide (l ≠ []) && (decide (l.head? ≠ some 32) && (decide (l.getLast? ≠ some 32) && !decide (10 ∈ l)))
def isW : D → Bool
  | .none => true
  | .int _ => true
  | .str z => goodW z.cps.toList
  | _ => false
def isI : D → Bool
  | .int _ => true
  | _ => false
section
variable {μ : Store} {P : Dv → Store → Prop}
theorem w_is_whole {d : D} (fin : P (.d (.bool (isI d))) μ) : Wp (F_is_whole [.d d] μ) P := by
  unfold F_is_whole B_is_whole
  apply Wp_run
  cases d <;> (simp -implicitDefEqProofs (disch := first | (with_reducible assumption) | ((with_reducible show List.length _ = _); rfl) | (simp only [allD_cons, allD_nil, Option.map_some, Option.isSome_some]; done) | (simp only [List.length_cons, List.length_nil, List.length_map]; done) | ((with_reducible refine cMod_of ?_); omega) | ((with_reducible refine cDiv_of ?_ ?_) <;> omega) | ((with_reducible refine okR_of ?_ ?_) <;> omega) | omega | (simp only [List.length_take, List.length_drop, List.length_append, List.length_cons, List.length_nil, List.length_map, List.length_range, List.length_replicate]; omega)) [-sSeq_r, -sRet_r, -sDrop_r, -sSet_r, -sIf_r, -sPar_r, -sAsg_r, -sSetIx_r, -sFor_r, -gsCons_r, -gT_r, -e1_r, -e2_r, -tV_r, -tAndM_r, -tOrM_r, -tNotM_r, -eAnd_r, -eOr_r, -eNot_r, -eIf_r, -aCons_r, -eN_r, -fCall_r, -eCallK_r, -eM_r, -eSl_r, -oSome_r, -eIsN_r, -eLc_r, -iSeq_r, -iRng_r, DL.isNone, dIsi, tyD, isiT]; exact fin)
theorem w_is_worth {d : D} (hl : ∀ z, d = .str z → z.length ≤ 16000000) (fin : P (.d (.bool (isW d))) μ) : Wp (F_is_worth [.d d] μ) P := by
  unfold F_is_worth B_is_worth
  apply Wp_run
  cases d with
  | str z =>
    have hz := hl z rfl
    rw [← T_cps z] at fin ⊢
    have e : z.cps.toList.length = z.length := by simp [Str.length]
    generalize z.cps.toList = l at fin e ⊢
    by_cases h : l = []
    · subst h
      simp -implicitDefEqProofs (disch := first | (with_reducible assumption) | ((with_reducible show List.length _ = _); rfl) | (simp only [allD_cons, allD_nil, Option.map_some, Option.isSome_some]; done) | (simp only [List.length_cons, List.length_nil, List.length_map]; done) | ((with_reducible refine cMod_of ?_); omega) | ((with_reducible refine cDiv_of ?_ ?_) <;> omega) | ((with_reducible refine okR_of ?_ ?_) <;> omega) | omega | (simp only [List.length_take, List.length_drop, List.length_append, List.length_cons, List.length_nil, List.length_map, List.length_range, List.length_replicate]; omega)) [-sSeq_r, -sRet_r, -sDrop_r, -sSet_r, -sIf_r, -sPar_r, -sAsg_r, -sSetIx_r, -sFor_r, -gsCons_r, -gT_r, -e1_r, -e2_r, -tV_r, -tAndM_r, -tOrM_r, -tNotM_r, -eAnd_r, -eOr_r, -eNot_r, -eIf_r, -aCons_r, -eN_r, -fCall_r, -eCallK_r, -eM_r, -eSl_r, -oSome_r, -eIsN_r, -eLc_r, -iSeq_r, -iRng_r, r1_is_worth, DL.isNone, dIsi, tyD, isiT]
      simpa [isW, goodW, tl_T] using fin
    · simp -implicitDefEqProofs (disch := first | (with_reducible assumption) | ((with_reducible show List.length _ = _); rfl) | (simp only [allD_cons, allD_nil, Option.map_some, Option.isSome_some]; done) | (simp only [List.length_cons, List.length_nil, List.length_map]; done) | ((with_reducible refine cMod_of ?_); omega) | ((with_reducible refine cDiv_of ?_ ?_) <;> omega) | ((with_reducible refine okR_of ?_ ?_) <;> omega) | omega | (simp only [List.length_take, List.length_drop, List.length_append, List.length_cons, List.length_nil, List.length_map, List.length_range, List.length_replicate]; omega)) [-sSeq_r, -sRet_r, -sDrop_r, -sSet_r, -sIf_r, -sPar_r, -sAsg_r, -sSetIx_r, -sFor_r, -gsCons_r, -gT_r, -e1_r, -e2_r, -tV_r, -tAndM_r, -tOrM_r, -tNotM_r, -eAnd_r, -eOr_r, -eNot_r, -eIf_r, -aCons_r, -eN_r, -fCall_r, -eCallK_r, -eM_r, -eSl_r, -oSome_r, -eIsN_r, -eLc_r, -iSeq_r, -iRng_r, r1_is_worth, DL.isNone, dIsi, tyD, isiT, h, dStripC_s (show l.length ≤ 16000000 by omega), strip_dec h]
      by_cases a : l.head? = some 32
      · simp -implicitDefEqProofs (disch := first | (with_reducible assumption) | ((with_reducible show List.length _ = _); rfl) | (simp only [allD_cons, allD_nil, Option.map_some, Option.isSome_some]; done) | (simp only [List.length_cons, List.length_nil, List.length_map]; done) | ((with_reducible refine cMod_of ?_); omega) | ((with_reducible refine cDiv_of ?_ ?_) <;> omega) | ((with_reducible refine okR_of ?_ ?_) <;> omega) | omega | (simp only [List.length_take, List.length_drop, List.length_append, List.length_cons, List.length_nil, List.length_map, List.length_range, List.length_replicate]; omega)) [-sSeq_r, -sRet_r, -sDrop_r, -sSet_r, -sIf_r, -sPar_r, -sAsg_r, -sSetIx_r, -sFor_r, -gsCons_r, -gT_r, -e1_r, -e2_r, -tV_r, -tAndM_r, -tOrM_r, -tNotM_r, -eAnd_r, -eOr_r, -eNot_r, -eIf_r, -aCons_r, -eN_r, -fCall_r, -eCallK_r, -eM_r, -eSl_r, -oSome_r, -eIsN_r, -eLc_r, -iSeq_r, -iRng_r, a]
        simpa [isW, goodW, tl_T, h, a] using fin
      · by_cases b : l.getLast? = some 32
        · simp -implicitDefEqProofs (disch := first | (with_reducible assumption) | ((with_reducible show List.length _ = _); rfl) | (simp only [allD_cons, allD_nil, Option.map_some, Option.isSome_some]; done) | (simp only [List.length_cons, List.length_nil, List.length_map]; done) | ((with_reducible refine cMod_of ?_); omega) | ((with_reducible refine cDiv_of ?_ ?_) <;> omega) | ((with_reducible refine okR_of ?_ ?_) <;> omega) | omega | (simp only [List.length_take, List.length_drop, List.length_append, List.length_cons, List.length_nil, List.length_map, List.length_range, List.length_replicate]; omega)) [-sSeq_r, -sRet_r, -sDrop_r, -sSet_r, -sIf_r, -sPar_r, -sAsg_r, -sSetIx_r, -sFor_r, -gsCons_r, -gT_r, -e1_r, -e2_r, -tV_r, -tAndM_r, -tOrM_r, -tNotM_r, -eAnd_r, -eOr_r, -eNot_r, -eIf_r, -aCons_r, -eN_r, -fCall_r, -eCallK_r, -eM_r, -eSl_r, -oSome_r, -eIsN_r, -eLc_r, -iSeq_r, -iRng_r, a, b]
          simpa [isW, goodW, tl_T, h, a, b] using fin
        · by_cases q : 10 ∈ l
          · simp -implicitDefEqProofs (disch := first | (with_reducible assumption) | ((with_reducible show List.length _ = _); rfl) | (simp only [allD_cons, allD_nil, Option.map_some, Option.isSome_some]; done) | (simp only [List.length_cons, List.length_nil, List.length_map]; done) | ((with_reducible refine cMod_of ?_); omega) | ((with_reducible refine cDiv_of ?_ ?_) <;> omega) | ((with_reducible refine okR_of ?_ ?_) <;> omega) | omega | (simp only [List.length_take, List.length_drop, List.length_append, List.length_cons, List.length_nil, List.length_map, List.length_range, List.length_replicate]; omega)) [-sSeq_r, -sRet_r, -sDrop_r, -sSet_r, -sIf_r, -sPar_r, -sAsg_r, -sSetIx_r, -sFor_r, -gsCons_r, -gT_r, -e1_r, -e2_r, -tV_r, -tAndM_r, -tOrM_r, -tNotM_r, -eAnd_r, -eOr_r, -eNot_r, -eIf_r, -aCons_r, -eN_r, -fCall_r, -eCallK_r, -eM_r, -eSl_r, -oSome_r, -eIsN_r, -eLc_r, -iSeq_r, -iRng_r, a, b, q]
            simpa [isW, goodW, tl_T, h, a, b, q] using fin
          · simp -implicitDefEqProofs (disch := first | (with_reducible assumption) | ((with_reducible show List.length _ = _); rfl) | (simp only [allD_cons, allD_nil, Option.map_some, Option.isSome_some]; done) | (simp only [List.length_cons, List.length_nil, List.length_map]; done) | ((with_reducible refine cMod_of ?_); omega) | ((with_reducible refine cDiv_of ?_ ?_) <;> omega) | ((with_reducible refine okR_of ?_ ?_) <;> omega) | omega | (simp only [List.length_take, List.length_drop, List.length_append, List.length_cons, List.length_nil, List.length_map, List.length_range, List.length_replicate]; omega)) [-sSeq_r, -sRet_r, -sDrop_r, -sSet_r, -sIf_r, -sPar_r, -sAsg_r, -sSetIx_r, -sFor_r, -gsCons_r, -gT_r, -e1_r, -e2_r, -tV_r, -tAndM_r, -tOrM_r, -tNotM_r, -eAnd_r, -eOr_r, -eNot_r, -eIf_r, -aCons_r, -eN_r, -fCall_r, -eCallK_r, -eM_r, -eSl_r, -oSome_r, -eIsN_r, -eLc_r, -iSeq_r, -iRng_r, a, b, q]
            simpa [isW, goodW, tl_T, h, a, b, q] using fin
  | none => simp -implicitDefEqProofs (disch := first | (with_reducible assumption) | ((with_reducible show List.length _ = _); rfl) | (simp only [allD_cons, allD_nil, Option.map_some, Option.isSome_some]; done) | (simp only [List.length_cons, List.length_nil, List.length_map]; done) | ((with_reducible refine cMod_of ?_); omega) | ((with_reducible refine cDiv_of ?_ ?_) <;> omega) | ((with_reducible refine okR_of ?_ ?_) <;> omega) | omega | (simp only [List.length_take, List.length_drop, List.length_append, List.length_cons, List.length_nil, List.length_map, List.length_range, List.length_replicate]; omega)) [-sSeq_r, -sRet_r, -sDrop_r, -sSet_r, -sIf_r, -sPar_r, -sAsg_r, -sSetIx_r, -sFor_r, -gsCons_r, -gT_r, -e1_r, -e2_r, -tV_r, -tAndM_r, -tOrM_r, -tNotM_r, -eAnd_r, -eOr_r, -eNot_r, -eIf_r, -aCons_r, -eN_r, -fCall_r, -eCallK_r, -eM_r, -eSl_r, -oSome_r, -eIsN_r, -eLc_r, -iSeq_r, -iRng_r, DL.isNone, dIsi, tyD, isiT]; exact fin
  | int i =>
    simp -implicitDefEqProofs (disch := first | (with_reducible assumption) | ((with_reducible show List.length _ = _); rfl) | (simp only [allD_cons, allD_nil, Option.map_some, Option.isSome_some]; done) | (simp only [List.length_cons, List.length_nil, List.length_map]; done) | ((with_reducible refine cMod_of ?_); omega) | ((with_reducible refine cDiv_of ?_ ?_) <;> omega) | ((with_reducible refine okR_of ?_ ?_) <;> omega) | omega | (simp only [List.length_take, List.length_drop, List.length_append, List.length_cons, List.length_nil, List.length_map, List.length_range, List.length_replicate]; omega)) [-sSeq_r, -sRet_r, -sDrop_r, -sSet_r, -sIf_r, -sPar_r, -sAsg_r, -sSetIx_r, -sFor_r, -gsCons_r, -gT_r, -e1_r, -e2_r, -tV_r, -tAndM_r, -tOrM_r, -tNotM_r, -eAnd_r, -eOr_r, -eNot_r, -eIf_r, -aCons_r, -eN_r, -fCall_r, -eCallK_r, -eM_r, -eSl_r, -oSome_r, -eIsN_r, -eLc_r, -iSeq_r, -iRng_r, DL.isNone, dIsi, tyD, isiT]
    refine w_is_whole ?_
    simp -implicitDefEqProofs (disch := first | (with_reducible assumption) | ((with_reducible show List.length _ = _); rfl) | (simp only [allD_cons, allD_nil, Option.map_some, Option.isSome_some]; done) | (simp only [List.length_cons, List.length_nil, List.length_map]; done) | ((with_reducible refine cMod_of ?_); omega) | ((with_reducible refine cDiv_of ?_ ?_) <;> omega) | ((with_reducible refine okR_of ?_ ?_) <;> omega) | omega | (simp only [List.length_take, List.length_drop, List.length_append, List.length_cons, List.length_nil, List.length_map, List.length_range, List.length_replicate]; omega)) [-sSeq_r, -sRet_r, -sDrop_r, -sSet_r, -sIf_r, -sPar_r, -sAsg_r, -sSetIx_r, -sFor_r, -gsCons_r, -gT_r, -e1_r, -e2_r, -tV_r, -tAndM_r, -tOrM_r, -tNotM_r, -eAnd_r, -eOr_r, -eNot_r, -eIf_r, -aCons_r, -eN_r, -fCall_r, -eCallK_r, -eM_r, -eSl_r, -oSome_r, -eIsN_r, -eLc_r, -iSeq_r, -iRng_r, ]
    exact fin
  | bool i =>
    simp -implicitDefEqProofs (disch := first | (with_reducible assumption) | ((with_reducible show List.length _ = _); rfl) | (simp only [allD_cons, allD_nil, Option.map_some, Option.isSome_some]; done) | (simp only [List.length_cons, List.length_nil, List.length_map]; done) | ((with_reducible refine cMod_of ?_); omega) | ((with_reducible refine cDiv_of ?_ ?_) <;> omega) | ((with_reducible refine okR_of ?_ ?_) <;> omega) | omega | (simp only [List.length_take, List.length_drop, List.length_append, List.length_cons, List.length_nil, List.length_map, List.length_range, List.length_replicate]; omega)) [-sSeq_r, -sRet_r, -sDrop_r, -sSet_r, -sIf_r, -sPar_r, -sAsg_r, -sSetIx_r, -sFor_r, -gsCons_r, -gT_r, -e1_r, -e2_r, -tV_r, -tAndM_r, -tOrM_r, -tNotM_r, -eAnd_r, -eOr_r, -eNot_r, -eIf_r, -aCons_r, -eN_r, -fCall_r, -eCallK_r, -eM_r, -eSl_r, -oSome_r, -eIsN_r, -eLc_r, -iSeq_r, -iRng_r, DL.isNone, dIsi, tyD, isiT]
    refine w_is_whole ?_
    simp -implicitDefEqProofs (disch := first | (with_reducible assumption) | ((with_reducible show List.length _ = _); rfl) | (simp only [allD_cons, allD_nil, Option.map_some, Option.isSome_some]; done) | (simp only [List.length_cons, List.length_nil, List.length_map]; done) | ((with_reducible refine cMod_of ?_); omega) | ((with_reducible refine cDiv_of ?_ ?_) <;> omega) | ((with_reducible refine okR_of ?_ ?_) <;> omega) | omega | (simp only [List.length_take, List.length_drop, List.length_append, List.length_cons, List.length_nil, List.length_map, List.length_range, List.length_replicate]; omega)) [-sSeq_r, -sRet_r, -sDrop_r, -sSet_r, -sIf_r, -sPar_r, -sAsg_r, -sSetIx_r, -sFor_r, -gsCons_r, -gT_r, -e1_r, -e2_r, -tV_r, -tAndM_r, -tOrM_r, -tNotM_r, -eAnd_r, -eOr_r, -eNot_r, -eIf_r, -aCons_r, -eN_r, -fCall_r, -eCallK_r, -eM_r, -eSl_r, -oSome_r, -eIsN_r, -eLc_r, -iSeq_r, -iRng_r, ]
    exact fin
  | list i =>
    simp -implicitDefEqProofs (disch := first | (with_reducible assumption) | ((with_reducible show List.length _ = _); rfl) | (simp only [allD_cons, allD_nil, Option.map_some, Option.isSome_some]; done) | (simp only [List.length_cons, List.length_nil, List.length_map]; done) | ((with_reducible refine cMod_of ?_); omega) | ((with_reducible refine cDiv_of ?_ ?_) <;> omega) | ((with_reducible refine okR_of ?_ ?_) <;> omega) | omega | (simp only [List.length_take, List.length_drop, List.length_append, List.length_cons, List.length_nil, List.length_map, List.length_range, List.length_replicate]; omega)) [-sSeq_r, -sRet_r, -sDrop_r, -sSet_r, -sIf_r, -sPar_r, -sAsg_r, -sSetIx_r, -sFor_r, -gsCons_r, -gT_r, -e1_r, -e2_r, -tV_r, -tAndM_r, -tOrM_r, -tNotM_r, -eAnd_r, -eOr_r, -eNot_r, -eIf_r, -aCons_r, -eN_r, -fCall_r, -eCallK_r, -eM_r, -eSl_r, -oSome_r, -eIsN_r, -eLc_r, -iSeq_r, -iRng_r, DL.isNone, dIsi, tyD, isiT]
    refine w_is_whole ?_
    simp -implicitDefEqProofs (disch := first | (with_reducible assumption) | ((with_reducible show List.length _ = _); rfl) | (simp only [allD_cons, allD_nil, Option.map_some, Option.isSome_some]; done) | (simp only [List.length_cons, List.length_nil, List.length_map]; done) | ((with_reducible refine cMod_of ?_); omega) | ((with_reducible refine cDiv_of ?_ ?_) <;> omega) | ((with_reducible refine okR_of ?_ ?_) <;> omega) | omega | (simp only [List.length_take, List.length_drop, List.length_append, List.length_cons, List.length_nil, List.length_map, List.length_range, List.length_replicate]; omega)) [-sSeq_r, -sRet_r, -sDrop_r, -sSet_r, -sIf_r, -sPar_r, -sAsg_r, -sSetIx_r, -sFor_r, -gsCons_r, -gT_r, -e1_r, -e2_r, -tV_r, -tAndM_r, -tOrM_r, -tNotM_r, -eAnd_r, -eOr_r, -eNot_r, -eIf_r, -aCons_r, -eN_r, -fCall_r, -eCallK_r, -eM_r, -eSl_r, -oSome_r, -eIsN_r, -eLc_r, -iSeq_r, -iRng_r, ]
    exact fin
  | tuple i =>
    simp -implicitDefEqProofs (disch := first | (with_reducible assumption) | ((with_reducible show List.length _ = _); rfl) | (simp only [allD_cons, allD_nil, Option.map_some, Option.isSome_some]; done) | (simp only [List.length_cons, List.length_nil, List.length_map]; done) | ((with_reducible refine cMod_of ?_); omega) | ((with_reducible refine cDiv_of ?_ ?_) <;> omega) | ((with_reducible refine okR_of ?_ ?_) <;> omega) | omega | (simp only [List.length_take, List.length_drop, List.length_append, List.length_cons, List.length_nil, List.length_map, List.length_range, List.length_replicate]; omega)) [-sSeq_r, -sRet_r, -sDrop_r, -sSet_r, -sIf_r, -sPar_r, -sAsg_r, -sSetIx_r, -sFor_r, -gsCons_r, -gT_r, -e1_r, -e2_r, -tV_r, -tAndM_r, -tOrM_r, -tNotM_r, -eAnd_r, -eOr_r, -eNot_r, -eIf_r, -aCons_r, -eN_r, -fCall_r, -eCallK_r, -eM_r, -eSl_r, -oSome_r, -eIsN_r, -eLc_r, -iSeq_r, -iRng_r, DL.isNone, dIsi, tyD, isiT]
    refine w_is_whole ?_
    simp -implicitDefEqProofs (disch := first | (with_reducible assumption) | ((with_reducible show List.length _ = _); rfl) | (simp only [allD_cons, allD_nil, Option.map_some, Option.isSome_some]; done) | (simp only [List.length_cons, List.length_nil, List.length_map]; done) | ((with_reducible refine cMod_of ?_); omega) | ((with_reducible refine cDiv_of ?_ ?_) <;> omega) | ((with_reducible refine okR_of ?_ ?_) <;> omega) | omega | (simp only [List.length_take, List.length_drop, List.length_append, List.length_cons, List.length_nil, List.length_map, List.length_range, List.length_replicate]; omega)) [-sSeq_r, -sRet_r, -sDrop_r, -sSet_r, -sIf_r, -sPar_r, -sAsg_r, -sSetIx_r, -sFor_r, -gsCons_r, -gT_r, -e1_r, -e2_r, -tV_r, -tAndM_r, -tOrM_r, -tNotM_r, -eAnd_r, -eOr_r, -eNot_r, -eIf_r, -aCons_r, -eN_r, -fCall_r, -eCallK_r, -eM_r, -eSl_r, -oSome_r, -eIsN_r, -eLc_r, -iSeq_r, -iRng_r, ]
    exact fin
  | dict i =>
    simp -implicitDefEqProofs (disch := first | (with_reducible assumption) | ((with_reducible show List.length _ = _); rfl) | (simp only [allD_cons, allD_nil, Option.map_some, Option.isSome_some]; done) | (simp only [List.length_cons, List.length_nil, List.length_map]; done) | ((with_reducible refine cMod_of ?_); omega) | ((with_reducible refine cDiv_of ?_ ?_) <;> omega) | ((with_reducible refine okR_of ?_ ?_) <;> omega) | omega | (simp only [List.length_take, List.length_drop, List.length_append, List.length_cons, List.length_nil, List.length_map, List.length_range, List.length_replicate]; omega)) [-sSeq_r, -sRet_r, -sDrop_r, -sSet_r, -sIf_r, -sPar_r, -sAsg_r, -sSetIx_r, -sFor_r, -gsCons_r, -gT_r, -e1_r, -e2_r, -tV_r, -tAndM_r, -tOrM_r, -tNotM_r, -eAnd_r, -eOr_r, -eNot_r, -eIf_r, -aCons_r, -eN_r, -fCall_r, -eCallK_r, -eM_r, -eSl_r, -oSome_r, -eIsN_r, -eLc_r, -iSeq_r, -iRng_r, DL.isNone, dIsi, tyD, isiT]
    refine w_is_whole ?_
    simp -implicitDefEqProofs (disch := first | (with_reducible assumption) | ((with_reducible show List.length _ = _); rfl) | (simp only [allD_cons, allD_nil, Option.map_some, Option.isSome_some]; done) | (simp only [List.length_cons, List.length_nil, List.length_map]; done) | ((with_reducible refine cMod_of ?_); omega) | ((with_reducible refine cDiv_of ?_ ?_) <;> omega) | ((with_reducible refine okR_of ?_ ?_) <;> omega) | omega | (simp only [List.length_take, List.length_drop, List.length_append, List.length_cons, List.length_nil, List.length_map, List.length_range, List.length_replicate]; omega)) [-sSeq_r, -sRet_r, -sDrop_r, -sSet_r, -sIf_r, -sPar_r, -sAsg_r, -sSetIx_r, -sFor_r, -gsCons_r, -gT_r, -e1_r, -e2_r, -tV_r, -tAndM_r, -tOrM_r, -tNotM_r, -eAnd_r, -eOr_r, -eNot_r, -eIf_r, -aCons_r, -eN_r, -fCall_r, -eCallK_r, -eM_r, -eSl_r, -oSome_r, -eIsN_r, -eLc_r, -iSeq_r, -iRng_r, ]
    exact fin
theorem head_ix {l : List Nat} (h : l ≠ []) : ∃ c, l[0]? = some c ∧ l.head? = some c := by
  cases l with
  | nil => exact absurd rfl h
  | cons c l => exact ⟨c, rfl, rfl⟩
theorem atI_last {l : List Nat} (h : l ≠ []) : ∃ c, L2.atI l (-1) = some c ∧ l.getLast? = some c := by
  have h0 : 0 < l.length := List.length_pos_iff.mpr h
  refine ⟨l[l.length - 1], ?_, ?_⟩
  · have : L2.ixN l.length (-1) = some (l.length - 1) := by
      unfold L2.ixN
      simp
      omega
    unfold L2.atI
    rw [this]
    simp
  · rw [List.getLast?_eq_getElem?]
    simp [h0]
theorem w_l_is_worth {d : D} (hl : ∀ z, d = .str z → z.length ≤ 16000000) (fin : P (.d (.bool (isW d))) μ) : Wp (F_l_is_worth [.d d] μ) P := by
  unfold F_l_is_worth B_l_is_worth
  apply Wp_run
  cases d with
  | str z =>
    have hz := hl z rfl
    rw [← T_cps z] at fin ⊢
    have e : z.cps.toList.length = z.length := by simp [Str.length]
    generalize z.cps.toList = l at fin e ⊢
    by_cases h : l = []
    · subst h
      simp -implicitDefEqProofs (disch := first | (with_reducible assumption) | ((with_reducible show List.length _ = _); rfl) | (simp only [allD_cons, allD_nil, Option.map_some, Option.isSome_some]; done) | (simp only [List.length_cons, List.length_nil, List.length_map]; done) | ((with_reducible refine cMod_of ?_); omega) | ((with_reducible refine cDiv_of ?_ ?_) <;> omega) | ((with_reducible refine okR_of ?_ ?_) <;> omega) | omega | (simp only [List.length_take, List.length_drop, List.length_append, List.length_cons, List.length_nil, List.length_map, List.length_range, List.length_replicate]; omega)) [-sSeq_r, -sRet_r, -sDrop_r, -sSet_r, -sIf_r, -sPar_r, -sAsg_r, -sSetIx_r, -sFor_r, -gsCons_r, -gT_r, -e1_r, -e2_r, -tV_r, -tAndM_r, -tOrM_r, -tNotM_r, -eAnd_r, -eOr_r, -eNot_r, -eIf_r, -aCons_r, -eN_r, -fCall_r, -eCallK_r, -eM_r, -eSl_r, -oSome_r, -eIsN_r, -eLc_r, -iSeq_r, -iRng_r, r2_l_is_worth, DL.isNone, dIsi, tyD, isiT]
      simpa [isW, goodW, tl_T] using fin
    · obtain ⟨c, c1, c2⟩ := head_ix h
      obtain ⟨k, k1, k2⟩ := atI_last h
      have hll : l.length ≤ 16000000 := by omega
      have i0 : L2.atI l (0 : Int) = some c := atI_nn (k := 0) c1
      by_cases a : c = 32
      · subst a
        simp -implicitDefEqProofs (disch := first | (with_reducible assumption) | ((with_reducible show List.length _ = _); rfl) | (simp only [allD_cons, allD_nil, Option.map_some, Option.isSome_some]; done) | (simp only [List.length_cons, List.length_nil, List.length_map]; done) | ((with_reducible refine cMod_of ?_); omega) | ((with_reducible refine cDiv_of ?_ ?_) <;> omega) | ((with_reducible refine okR_of ?_ ?_) <;> omega) | omega | (simp only [List.length_take, List.length_drop, List.length_append, List.length_cons, List.length_nil, List.length_map, List.length_range, List.length_replicate]; omega)) [-sSeq_r, -sRet_r, -sDrop_r, -sSet_r, -sIf_r, -sPar_r, -sAsg_r, -sSetIx_r, -sFor_r, -gsCons_r, -gT_r, -e1_r, -e2_r, -tV_r, -tAndM_r, -tOrM_r, -tNotM_r, -eAnd_r, -eOr_r, -eNot_r, -eIf_r, -aCons_r, -eN_r, -fCall_r, -eCallK_r, -eM_r, -eSl_r, -oSome_r, -eIsN_r, -eLc_r, -iSeq_r, -iRng_r, r2_l_is_worth, DL.isNone, dIsi, tyD, isiT, h, dIx_s hll i0]
        simpa [isW, goodW, tl_T, h, c2] using fin
      · by_cases b : k = 32
        · subst b
          simp -implicitDefEqProofs (disch := first | (with_reducible assumption) | ((with_reducible show List.length _ = _); rfl) | (simp only [allD_cons, allD_nil, Option.map_some, Option.isSome_some]; done) | (simp only [List.length_cons, List.length_nil, List.length_map]; done) | ((with_reducible refine cMod_of ?_); omega) | ((with_reducible refine cDiv_of ?_ ?_) <;> omega) | ((with_reducible refine okR_of ?_ ?_) <;> omega) | omega | (simp only [List.length_take, List.length_drop, List.length_append, List.length_cons, List.length_nil, List.length_map, List.length_range, List.length_replicate]; omega)) [-sSeq_r, -sRet_r, -sDrop_r, -sSet_r, -sIf_r, -sPar_r, -sAsg_r, -sSetIx_r, -sFor_r, -gsCons_r, -gT_r, -e1_r, -e2_r, -tV_r, -tAndM_r, -tOrM_r, -tNotM_r, -eAnd_r, -eOr_r, -eNot_r, -eIf_r, -aCons_r, -eN_r, -fCall_r, -eCallK_r, -eM_r, -eSl_r, -oSome_r, -eIsN_r, -eLc_r, -iSeq_r, -iRng_r, r2_l_is_worth, DL.isNone, dIsi, tyD, isiT, h, dIx_s hll i0, a, dIx_s hll k1]
          simpa [isW, goodW, tl_T, h, c2, k2, a] using fin
        · by_cases q : 10 ∈ l
          · simp -implicitDefEqProofs (disch := first | (with_reducible assumption) | ((with_reducible show List.length _ = _); rfl) | (simp only [allD_cons, allD_nil, Option.map_some, Option.isSome_some]; done) | (simp only [List.length_cons, List.length_nil, List.length_map]; done) | ((with_reducible refine cMod_of ?_); omega) | ((with_reducible refine cDiv_of ?_ ?_) <;> omega) | ((with_reducible refine okR_of ?_ ?_) <;> omega) | omega | (simp only [List.length_take, List.length_drop, List.length_append, List.length_cons, List.length_nil, List.length_map, List.length_range, List.length_replicate]; omega)) [-sSeq_r, -sRet_r, -sDrop_r, -sSet_r, -sIf_r, -sPar_r, -sAsg_r, -sSetIx_r, -sFor_r, -gsCons_r, -gT_r, -e1_r, -e2_r, -tV_r, -tAndM_r, -tOrM_r, -tNotM_r, -eAnd_r, -eOr_r, -eNot_r, -eIf_r, -aCons_r, -eN_r, -fCall_r, -eCallK_r, -eM_r, -eSl_r, -oSome_r, -eIsN_r, -eLc_r, -iSeq_r, -iRng_r, r2_l_is_worth, DL.isNone, dIsi, tyD, isiT, h, dIx_s hll i0, a, dIx_s hll k1, b, q]
            simpa [isW, goodW, tl_T, h, c2, k2, a, b, q] using fin
          · simp -implicitDefEqProofs (disch := first | (with_reducible assumption) | ((with_reducible show List.length _ = _); rfl) | (simp only [allD_cons, allD_nil, Option.map_some, Option.isSome_some]; done) | (simp only [List.length_cons, List.length_nil, List.length_map]; done) | ((with_reducible refine cMod_of ?_); omega) | ((with_reducible refine cDiv_of ?_ ?_) <;> omega) | ((with_reducible refine okR_of ?_ ?_) <;> omega) | omega | (simp only [List.length_take, List.length_drop, List.length_append, List.length_cons, List.length_nil, List.length_map, List.length_range, List.length_replicate]; omega)) [-sSeq_r, -sRet_r, -sDrop_r, -sSet_r, -sIf_r, -sPar_r, -sAsg_r, -sSetIx_r, -sFor_r, -gsCons_r, -gT_r, -e1_r, -e2_r, -tV_r, -tAndM_r, -tOrM_r, -tNotM_r, -eAnd_r, -eOr_r, -eNot_r, -eIf_r, -aCons_r, -eN_r, -fCall_r, -eCallK_r, -eM_r, -eSl_r, -oSome_r, -eIsN_r, -eLc_r, -iSeq_r, -iRng_r, r2_l_is_worth, DL.isNone, dIsi, tyD, isiT, h, dIx_s hll i0, a, dIx_s hll k1, b, q]
            simpa [isW, goodW, tl_T, h, c2, k2, a, b, q] using fin
  | none => simp -implicitDefEqProofs (disch := first | (with_reducible assumption) | ((with_reducible show List.length _ = _); rfl) | (simp only [allD_cons, allD_nil, Option.map_some, Option.isSome_some]; done) | (simp only [List.length_cons, List.length_nil, List.length_map]; done) | ((with_reducible refine cMod_of ?_); omega) | ((with_reducible refine cDiv_of ?_ ?_) <;> omega) | ((with_reducible refine okR_of ?_ ?_) <;> omega) | omega | (simp only [List.length_take, List.length_drop, List.length_append, List.length_cons, List.length_nil, List.length_map, List.length_range, List.length_replicate]; omega)) [-sSeq_r, -sRet_r, -sDrop_r, -sSet_r, -sIf_r, -sPar_r, -sAsg_r, -sSetIx_r, -sFor_r, -gsCons_r, -gT_r, -e1_r, -e2_r, -tV_r, -tAndM_r, -tOrM_r, -tNotM_r, -eAnd_r, -eOr_r, -eNot_r, -eIf_r, -aCons_r, -eN_r, -fCall_r, -eCallK_r, -eM_r, -eSl_r, -oSome_r, -eIsN_r, -eLc_r, -iSeq_r, -iRng_r, DL.isNone, dIsi, tyD, isiT]; exact fin
  | int i => simp -implicitDefEqProofs (disch := first | (with_reducible assumption) | ((with_reducible show List.length _ = _); rfl) | (simp only [allD_cons, allD_nil, Option.map_some, Option.isSome_some]; done) | (simp only [List.length_cons, List.length_nil, List.length_map]; done) | ((with_reducible refine cMod_of ?_); omega) | ((with_reducible refine cDiv_of ?_ ?_) <;> omega) | ((with_reducible refine okR_of ?_ ?_) <;> omega) | omega | (simp only [List.length_take, List.length_drop, List.length_append, List.length_cons, List.length_nil, List.length_map, List.length_range, List.length_replicate]; omega)) [-sSeq_r, -sRet_r, -sDrop_r, -sSet_r, -sIf_r, -sPar_r, -sAsg_r, -sSetIx_r, -sFor_r, -gsCons_r, -gT_r, -e1_r, -e2_r, -tV_r, -tAndM_r, -tOrM_r, -tNotM_r, -eAnd_r, -eOr_r, -eNot_r, -eIf_r, -aCons_r, -eN_r, -fCall_r, -eCallK_r, -eM_r, -eSl_r, -oSome_r, -eIsN_r, -eLc_r, -iSeq_r, -iRng_r, r2_l_is_worth, r1_l_is_worth, DL.isNone, dIsi, tyD, isiT]; exact fin
  | bool i => simp -implicitDefEqProofs (disch := first | (with_reducible assumption) | ((with_reducible show List.length _ = _); rfl) | (simp only [allD_cons, allD_nil, Option.map_some, Option.isSome_some]; done) | (simp only [List.length_cons, List.length_nil, List.length_map]; done) | ((with_reducible refine cMod_of ?_); omega) | ((with_reducible refine cDiv_of ?_ ?_) <;> omega) | ((with_reducible refine okR_of ?_ ?_) <;> omega) | omega | (simp only [List.length_take, List.length_drop, List.length_append, List.length_cons, List.length_nil, List.length_map, List.length_range, List.length_replicate]; omega)) [-sSeq_r, -sRet_r, -sDrop_r, -sSet_r, -sIf_r, -sPar_r, -sAsg_r, -sSetIx_r, -sFor_r, -gsCons_r, -gT_r, -e1_r, -e2_r, -tV_r, -tAndM_r, -tOrM_r, -tNotM_r, -eAnd_r, -eOr_r, -eNot_r, -eIf_r, -aCons_r, -eN_r, -fCall_r, -eCallK_r, -eM_r, -eSl_r, -oSome_r, -eIsN_r, -eLc_r, -iSeq_r, -iRng_r, r2_l_is_worth, r1_l_is_worth, DL.isNone, dIsi, tyD, isiT]; exact fin
  | list i => simp -implicitDefEqProofs (disch := first | (with_reducible assumption) | ((with_reducible show List.length _ = _); rfl) | (simp only [allD_cons, allD_nil, Option.map_some, Option.isSome_some]; done) | (simp only [List.length_cons, List.length_nil, List.length_map]; done) | ((with_reducible refine cMod_of ?_); omega) | ((with_reducible refine cDiv_of ?_ ?_) <;> omega) | ((with_reducible refine okR_of ?_ ?_) <;> omega) | omega | (simp only [List.length_take, List.length_drop, List.length_append, List.length_cons, List.length_nil, List.length_map, List.length_range, List.length_replicate]; omega)) [-sSeq_r, -sRet_r, -sDrop_r, -sSet_r, -sIf_r, -sPar_r, -sAsg_r, -sSetIx_r, -sFor_r, -gsCons_r, -gT_r, -e1_r, -e2_r, -tV_r, -tAndM_r, -tOrM_r, -tNotM_r, -eAnd_r, -eOr_r, -eNot_r, -eIf_r, -aCons_r, -eN_r, -fCall_r, -eCallK_r, -eM_r, -eSl_r, -oSome_r, -eIsN_r, -eLc_r, -iSeq_r, -iRng_r, r2_l_is_worth, r1_l_is_worth, DL.isNone, dIsi, tyD, isiT]; exact fin
  | tuple i => simp -implicitDefEqProofs (disch := first | (with_reducible assumption) | ((with_reducible show List.length _ = _); rfl) | (simp only [allD_cons, allD_nil, Option.map_some, Option.isSome_some]; done) | (simp only [List.length_cons, List.length_nil, List.length_map]; done) | ((with_reducible refine cMod_of ?_); omega) | ((with_reducible refine cDiv_of ?_ ?_) <;> omega) | ((with_reducible refine okR_of ?_ ?_) <;> omega) | omega | (simp only [List.length_take, List.length_drop, List.length_append, List.length_cons, List.length_nil, List.length_map, List.length_range, List.length_replicate]; omega)) [-sSeq_r, -sRet_r, -sDrop_r, -sSet_r, -sIf_r, -sPar_r, -sAsg_r, -sSetIx_r, -sFor_r, -gsCons_r, -gT_r, -e1_r, -e2_r, -tV_r, -tAndM_r, -tOrM_r, -tNotM_r, -eAnd_r, -eOr_r, -eNot_r, -eIf_r, -aCons_r, -eN_r, -fCall_r, -eCallK_r, -eM_r, -eSl_r, -oSome_r, -eIsN_r, -eLc_r, -iSeq_r, -iRng_r, r2_l_is_worth, r1_l_is_worth, DL.isNone, dIsi, tyD, isiT]; exact fin
  | dict i => simp -implicitDefEqProofs (disch := first | (with_reducible assumption) | ((with_reducible show List.length _ = _); rfl) | (simp only [allD_cons, allD_nil, Option.map_some, Option.isSome_some]; done) | (simp only [List.length_cons, List.length_nil, List.length_map]; done) | ((with_reducible refine cMod_of ?_); omega) | ((with_reducible refine cDiv_of ?_ ?_) <;> omega) | ((with_reducible refine okR_of ?_ ?_) <;> omega) | omega | (simp only [List.length_take, List.length_drop, List.length_append, List.length_cons, List.length_nil, List.length_map, List.length_range, List.length_replicate]; omega)) [-sSeq_r, -sRet_r, -sDrop_r, -sSet_r, -sIf_r, -sPar_r, -sAsg_r, -sSetIx_r, -sFor_r, -gsCons_r, -gT_r, -e1_r, -e2_r, -tV_r, -tAndM_r, -tOrM_r, -tNotM_r, -eAnd_r, -eOr_r, -eNot_r, -eIf_r, -aCons_r, -eN_r, -fCall_r, -eCallK_r, -eM_r, -eSl_r, -oSome_r, -eIsN_r, -eLc_r, -iSeq_r, -iRng_r, r2_l_is_worth, r1_l_is_worth, DL.isNone, dIsi, tyD, isiT]; exact fin
end
end LW

namespace LW
open PySem PySem.Spec PyProof.Rows L2 DL
open PySem.Builtin.Str (reprChar)
/-- a repr, sign by sign -/
def sh (d : D) : List Nat := d.shown.cps.toList
theorem app_cps (x y : Str) : (x ++ y).cps.toList = x.cps.toList ++ y.cps.toList := by
  show (x.cps ++ y.cps).toList = _
  simp
theorem sh_none : sh .none = [78, 111, 110, 101] := by unfold sh; simp only [PyData.shown]; decide +kernel
theorem sh_true : sh (.bool true) = [84, 114, 117, 101] := by unfold sh; simp only [PyData.shown]; decide +kernel
theorem sh_false : sh (.bool false) = [70, 97, 108, 115, 101] := by unfold sh; simp only [PyData.shown]; decide +kernel
theorem sh_nat (n : Nat) : sh (.int n) = TL.numL n := by
  unfold sh
  simp only [PyData.shown]
  exact TL.tl_num n
theorem sh_neg (n : Nat) (h : 0 < n) : sh (.int (-(n : Int))) = 45 :: TL.numL n := by
  unfold sh
  simp only [PyData.shown]
  have e2 := TL.tl_num n
  rw [toString_neg n h]
  have : Str.ofString ("-" ++ toString (n : Int)) = T (45 :: TL.numL n) := TL.ext_tl (by
    rw [TL.tl_ofString, String.toList_append, List.map_append]
    have e := TL.tl_num n
    have e2 := TL.tl_ofString (toString (n : Int))
    rw [e] at e2
    rw [← e2]
    rfl)
  rw [this]
  rfl
theorem foldl_flat (q : Nat) : ∀ (l : List Nat) (acc : Array Nat), (l.foldl (fun out c => out ++ (reprChar q c).toArray) acc).toList = acc.toList ++ l.flatMap (reprChar q)
  | [], acc => by simp
  | c :: l, acc => by
    rw [List.foldl_cons, foldl_flat q l]
    simp
theorem sh_str (z : Str) : sh (.str z) = reprQuote z :: (z.cps.toList.flatMap (reprChar (reprQuote z)) ++ [reprQuote z]) := by
  unfold sh
  rw [PyData.shown_str]
  unfold reprText
  rw [Array.toList_push, ← Array.foldl_toList, foldl_flat]
  rfl
def J : List D → List Nat
  | [] => []
  | [d] => sh d
  | d :: e :: r => sh d ++ 44 :: 32 :: J (e :: r)
theorem join_J : ∀ ds : List D, (Str.join ", " (PyData.shownAll ds)).cps.toList = J ds
  | [] => rfl
  | [d] => rfl
  | d :: e :: r => by
    rw [PyData.shownAll, PyData.shownAll]
    show (d.shown ++ ", " ++ Str.join ", " (e.shown :: PyData.shownAll r)).cps.toList = _
    rw [app_cps, app_cps]
    have := join_J (e :: r)
    rw [PyData.shownAll] at this
    rw [this, J]
    show (sh d ++ [44, 32]) ++ J (e :: r) = _
    simp
theorem shownAll_len : ∀ ds : List D, (PyData.shownAll ds).length = ds.length
  | [] => rfl
  | d :: ds => by rw [PyData.shownAll, List.length_cons, List.length_cons, shownAll_len ds]
def endT (ds : List D) : List Nat := if ds.length = 1 then [44, 41] else [41]
theorem sh_tuple (ds : List D) : sh (.tuple ds) = 40 :: (J ds ++ endT ds) := by
  unfold sh
  simp only [PyData.shown, tupleText]
  rw [app_cps, app_cps, join_J, shownAll_len]
  unfold endT
  by_cases h : ds.length = 1
  · simp only [h]
    rfl
  · have : (ds.length == 1) = false := by simpa using h
    rw [this, if_neg h]
    rfl
theorem textFrom_J : ∀ (ds : List D) (k : Nat) (acc : Str), 0 < k → (textFrom k acc (PyData.shownAll ds)).cps.toList = acc.cps.toList ++ (match ds with | [] => [] | d :: r => 44 :: 32 :: J (d :: r))
  | [], k, acc, _ => by simp [PyData.shownAll, textFrom]
  | d :: r, k, acc, hk => by
    rw [PyData.shownAll]
    show (textFrom (k + 1) (acc ++ (if k > 0 then ", " else "" : String) ++ d.shown) (PyData.shownAll r)).cps.toList = _
    rw [textFrom_J r (k + 1) _ (Nat.succ_pos _), app_cps, app_cps, if_pos hk]
    cases r with
    | nil => show (acc.cps.toList ++ [44, 32]) ++ sh d ++ [] = _; simp [J]
    | cons e r => show (acc.cps.toList ++ [44, 32]) ++ sh d ++ _ = _; simp [J]
theorem sh_list (ds : List D) : sh (.list ds) = 91 :: (J ds ++ [93]) := by
  unfold sh
  simp only [PyData.shown, listText]
  rw [app_cps]
  cases ds with
  | nil => rfl
  | cons d r =>
    rw [PyData.shownAll]
    show (textFrom 1 ((("[" : Str) ++ (if (0 : Nat) > 0 then ", " else "" : String)) ++ d.shown) (PyData.shownAll r)).cps.toList ++ _ = _
    rw [textFrom_J r 1 _ (by decide), app_cps, app_cps]
    cases r with
    | nil => show ([91] ++ [] ++ sh d ++ []) ++ [93] = _; simp [J]
    | cons e r => show ([91] ++ [] ++ sh d ++ _) ++ [93] = _; simp [J]
theorem sh_dict : sh (.dict []) = [123, 125] := by unfold sh; simp only [PyData.shown]; decide +kernel
/-- what kind of thing begins with this sign -/
def kindC (c : Nat) : Nat := if c = 78 then 0 else if c = 84 then 1 else if c = 70 then 2 else if c = 45 ∨ (48 ≤ c ∧ c ≤ 57) then 3 else if c = 39 ∨ c = 34 then 4 else if c = 91 then 5 else if c = 40 then 6 else if c = 123 then 7 else 9
def kindD : D → Nat
  | .none => 0 | .bool true => 1 | .bool false => 2 | .int _ => 3 | .str _ => 4 | .list _ => 5 | .tuple _ => 6 | .dict _ => 7
theorem quote_c (z : Str) : reprQuote z = 34 ∨ reprQuote z = 39 := by
  unfold reprQuote
  split
  · exact .inl rfl
  · exact .inr rfl
theorem int_cases (i : Int) : (∃ n : Nat, i = n) ∨ ∃ n : Nat, 0 < n ∧ i = -(n : Int) := by
  rcases Int.le_total 0 i with h | h
  · exact .inl ⟨i.toNat, (Int.toNat_of_nonneg h).symm⟩
  · by_cases z : i = 0
    · exact .inl ⟨0, z⟩
    · exact .inr ⟨(-i).toNat, by omega, by omega⟩
theorem sh_head : ∀ d : D, okD d = true → ∃ c r, sh d = c :: r ∧ kindC c = kindD d
  | .none, _ => ⟨_, _, sh_none, rfl⟩
  | .bool true, _ => ⟨_, _, sh_true, rfl⟩
  | .bool false, _ => ⟨_, _, sh_false, rfl⟩
  | .int i, _ => by
    rcases int_cases i with ⟨n, rfl⟩ | ⟨n, h, rfl⟩
    · cases q : TL.numL n with
      | nil => exact absurd q (TL.numL_ne n)
      | cons c r =>
        refine ⟨c, r, by rw [sh_nat, q], ?_⟩
        have := TL.numL_digits n c (by rw [q]; exact List.mem_cons_self)
        have h2 : 48 ≤ c ∧ c ≤ 57 := this
        unfold kindC
        rw [if_neg (by omega), if_neg (by omega), if_neg (by omega), if_pos (.inr h2)]
        rfl
    · exact ⟨_, _, sh_neg n h, rfl⟩
  | .str z, _ => by
    refine ⟨_, _, sh_str z, ?_⟩
    rcases quote_c z with q | q <;> rw [q] <;> rfl
  | .list ds, _ => ⟨_, _, sh_list ds, rfl⟩
  | .tuple ds, _ => ⟨_, _, sh_tuple ds, rfl⟩
  | .dict [], _ => ⟨_, _, sh_dict, rfl⟩
  | .dict (_ :: _), h => by simp [okD] at h
/-- what may stand behind a thing -/
def tm : List Nat → Prop
  | [] => True
  | c :: _ => c = 44 ∨ c = 41 ∨ c = 93
theorem digs : ∀ {l m a b : List Nat}, (∀ c ∈ l, 48 ≤ c ∧ c ≤ 57) → (∀ c ∈ m, 48 ≤ c ∧ c ≤ 57) → tm a → tm b → l ++ a = m ++ b → l = m ∧ a = b
  | [], [], a, b, _, _, _, _, e => ⟨rfl, e⟩
  | [], d :: m, [], b, _, _, _, _, e => by cases e
  | [], d :: m, c :: a, b, _, h2, ta, _, e => by
    injection e with e1 _
    have := h2 d List.mem_cons_self
    have ta : c = 44 ∨ c = 41 ∨ c = 93 := ta
    omega
  | d :: l, [], a, [], _, _, _, _, e => by cases e
  | d :: l, [], a, c :: b, h1, _, _, tb, e => by
    injection e with e1 _
    have := h1 d List.mem_cons_self
    have tb : c = 44 ∨ c = 41 ∨ c = 93 := tb
    omega
  | d :: l, f :: m, a, b, h1, h2, ta, tb, e => by
    injection e with e1 e2
    obtain ⟨q1, q2⟩ := digs (fun c hc => h1 c (List.mem_cons_of_mem _ hc)) (fun c hc => h2 c (List.mem_cons_of_mem _ hc)) ta tb e2
    exact ⟨by rw [e1, q1], q2⟩
/-- a sign's code is known by its own signs -/
def codes (q : Nat) : List (List Nat) := (List.range 128).map (reprChar q)
theorem pre39 : ∀ c, c < 128 → ∀ d, d < 128 → (reprChar 39 c).isPrefixOf (reprChar 39 d) = true → c = d := by decide +kernel
theorem pre34 : ∀ c, c < 128 → ∀ d, d < 128 → (reprChar 34 c).isPrefixOf (reprChar 34 d) = true → c = d := by decide +kernel
theorem fst39 : ∀ c, c < 128 → (reprChar 39 c).head? ≠ some 39 ∧ reprChar 39 c ≠ [] := by decide +kernel
theorem fst34 : ∀ c, c < 128 → (reprChar 34 c).head? ≠ some 34 ∧ reprChar 34 c ≠ [] := by decide +kernel
theorem pre_of {l m a b : List Nat} (e : l ++ a = m ++ b) : l.isPrefixOf m = true ∨ m.isPrefixOf l = true := by
  rcases List.append_eq_append_iff.mp e with ⟨x, rfl, _⟩ | ⟨x, rfl, _⟩
  · exact .inl (List.isPrefixOf_iff_prefix.mpr ⟨x, rfl⟩)
  · exact .inr (List.isPrefixOf_iff_prefix.mpr ⟨x, rfl⟩)
theorem strs_inj {q : Nat} (hq : q = 34 ∨ q = 39) : ∀ {l m a b : List Nat}, (∀ c ∈ l, c < 128) → (∀ c ∈ m, c < 128) → l.flatMap (reprChar q) ++ q :: a = m.flatMap (reprChar q) ++ q :: b → l = m ∧ a = b := by
  have pre : ∀ c, c < 128 → ∀ d, d < 128 → (reprChar q c).isPrefixOf (reprChar q d) = true → c = d := by rcases hq with rfl | rfl <;> first | exact pre34 | exact pre39
  have fst : ∀ c, c < 128 → (reprChar q c).head? ≠ some q ∧ reprChar q c ≠ [] := by rcases hq with rfl | rfl <;> first | exact fst34 | exact fst39
  have bad : ∀ (c : Nat) (l a b : List Nat), c < 128 → q :: a = reprChar q c ++ b → False := fun c l a b hc e => by
    obtain ⟨f1, f2⟩ := fst c hc
    cases z : reprChar q c with
    | nil => exact f2 z
    | cons x y =>
      rw [z] at e f1
      injection e with e1 _
      exact f1 (by rw [e1]; rfl)
  intro l
  induction l with
  | nil =>
    intro m a b _ h2 e
    cases m with
    | nil => injection e with _ e2; exact ⟨rfl, e2⟩
    | cons d m =>
      rw [List.flatMap_nil, List.nil_append, List.flatMap_cons, List.append_assoc] at e
      exact (bad d [] a _ (h2 d List.mem_cons_self) e).elim
  | cons c l ih =>
    intro m a b h1 h2 e
    cases m with
    | nil =>
      rw [List.flatMap_nil, List.nil_append, List.flatMap_cons, List.append_assoc] at e
      exact (bad c [] b _ (h1 c List.mem_cons_self) e.symm).elim
    | cons d m =>
      rw [List.flatMap_cons, List.flatMap_cons, List.append_assoc, List.append_assoc] at e
      have hc := h1 c List.mem_cons_self
      have hd := h2 d List.mem_cons_self
      have : c = d := by
        rcases pre_of e with p | p
        · exact pre c hc d hd p
        · exact (pre d hd c hc p).symm
      subst this
      have e := List.append_cancel_left e
      obtain ⟨q1, q2⟩ := ih (fun c hc => h1 c (List.mem_cons_of_mem _ hc)) (fun c hc => h2 c (List.mem_cons_of_mem _ hc)) e
      exact ⟨by rw [q1], q2⟩
end LW

namespace LW
open PySem PySem.Spec PyProof.Rows L2 DL
theorem okD_str {z : Str} (h : okD (.str z) = true) : ∀ c ∈ z.cps.toList, c < 128 := fun c hc => of_decide_eq_true (List.all_eq_true.mp (show (z.cps.toList.all fun c => decide (c < 128)) = true from h) c hc)
theorem kind_eq {d e : D} (hd : okD d = true) (he : okD e = true) {a b : List Nat} (q : sh d ++ a = sh e ++ b) : kindD d = kindD e := by
  obtain ⟨c, r, h1, h2⟩ := sh_head d hd
  obtain ⟨c', r', h3, h4⟩ := sh_head e he
  rw [h1, h3] at q
  injection q with q1 _
  rw [← h2, ← h4, q1]
theorem kindD_le (e : D) : kindD e ≤ 7 := by
  cases e with
  | bool x => cases x <;> decide
  | _ => simp [kindD]
theorem not41 {e : D} (h : kindC 41 = kindD e) : False := by
  have := kindD_le e
  rw [← h] at this
  revert this
  decide
theorem not93 {e : D} (h : kindC 93 = kindD e) : False := by
  have := kindD_le e
  rw [← h] at this
  revert this
  decide
theorem endT_tm {ds : List D} {a : List Nat} : tm (endT ds ++ a) := by
  unfold endT
  split
  · exact .inl rfl
  · exact .inr (.inl rfl)
mutual
theorem sh_inj : ∀ (d e : D), okD d = true → okD e = true → ∀ {a b : List Nat}, tm a → tm b → sh d ++ a = sh e ++ b → d = e ∧ a = b
  | .none, e, hd, he, a, b, _, _, q => by
    have k := kind_eq hd he q
    cases e with
    | none => exact ⟨rfl, List.append_cancel_left q⟩
    | bool x => cases x <;> cases k
    | dict x => cases k
    | _ => cases k
  | .bool x, e, hd, he, a, b, _, _, q => by
    have k := kind_eq hd he q
    cases e with
    | bool y => cases x <;> cases y <;> first | exact ⟨rfl, List.append_cancel_left q⟩ | cases k
    | _ => cases x <;> cases k
  | .int i, e, hd, he, a, b, ta, tb, q => by
    have k := kind_eq hd he q
    cases e with
    | int j =>
      rcases int_cases i with ⟨n, rfl⟩ | ⟨n, hn, rfl⟩ <;> rcases int_cases j with ⟨m, rfl⟩ | ⟨m, hm, rfl⟩
      · rw [sh_nat, sh_nat] at q
        obtain ⟨q1, q2⟩ := digs (TL.numL_digits n) (TL.numL_digits m) ta tb q
        rw [TL.numL_inj q1]
        exact ⟨rfl, q2⟩
      · rw [sh_nat, sh_neg m hm] at q
        exfalso
        cases z : TL.numL n with
        | nil => exact TL.numL_ne n z
        | cons c r =>
          rw [z] at q
          injection q with q1 _
          have : 48 ≤ c ∧ c ≤ 57 := TL.numL_digits n c (by rw [z]; exact List.mem_cons_self)
          omega
      · rw [sh_nat, sh_neg n hn] at q
        exfalso
        cases z : TL.numL m with
        | nil => exact TL.numL_ne m z
        | cons c r =>
          rw [z] at q
          injection q with q1 _
          have : 48 ≤ c ∧ c ≤ 57 := TL.numL_digits m c (by rw [z]; exact List.mem_cons_self)
          omega
      · rw [sh_neg n hn, sh_neg m hm] at q
        injection q with _ q
        obtain ⟨q1, q2⟩ := digs (TL.numL_digits n) (TL.numL_digits m) ta tb q
        rw [TL.numL_inj q1]
        exact ⟨rfl, q2⟩
    | bool x => cases x <;> cases k
    | _ => cases k
  | .str z, e, hd, he, a, b, _, _, q => by
    have k := kind_eq hd he q
    cases e with
    | str y =>
      rw [sh_str, sh_str, List.cons_append, List.cons_append] at q
      injection q with q1 q2
      rw [q1, List.append_assoc, List.append_assoc] at q2
      obtain ⟨r1, r2⟩ := strs_inj (quote_c y) (okD_str hd) (okD_str he) q2
      refine ⟨?_, r2⟩
      rw [← T_cps z, ← T_cps y, r1]
    | bool x => cases x <;> cases k
    | _ => cases k
  | .list ds, e, hd, he, a, b, _, _, q => by
    have k := kind_eq hd he q
    cases e with
    | list es =>
      rw [sh_list, sh_list, List.cons_append, List.cons_append] at q
      injection q with _ q
      rw [List.append_assoc, List.append_assoc] at q
      obtain ⟨r1, r2⟩ := J_inj ds es (by simpa [okD] using hd) (by simpa [okD] using he) (c := 93) (c' := 93) (.inr rfl) (.inr rfl) q
      injection r2 with _ r2
      exact ⟨by rw [r1], r2⟩
    | bool x => cases x <;> cases k
    | _ => cases k
  | .tuple ds, e, hd, he, a, b, _, _, q => by
    have k := kind_eq hd he q
    cases e with
    | tuple es =>
      rw [sh_tuple, sh_tuple, List.cons_append, List.cons_append] at q
      injection q with _ q
      rw [List.append_assoc, List.append_assoc] at q
      have hd' : okDs ds = true := by simpa [okD] using hd
      have he' : okDs es = true := by simpa [okD] using he
      match ds, es, hd', he', q with
      | [], [], _, _, q => exact ⟨rfl, List.append_cancel_left q⟩
      | [], e :: es, _, he', q =>
        exfalso
        have ok := (by simpa [okDs] using he' : okD e = true ∧ okDs es = true).1
        obtain ⟨c, r, h1, h2⟩ := sh_head e ok
        have : ∃ z, J (e :: es) = c :: z := by
          cases es with
          | nil => exact ⟨r, h1⟩
          | cons f es => rw [J, h1]; exact ⟨_, rfl⟩
        obtain ⟨z, ez⟩ := this
        rw [ez] at q
        have q : 41 :: a = c :: (z ++ (endT (e :: es) ++ b)) := q
        injection q with q1 _
        rw [← q1] at h2
        exact not41 h2
      | d :: ds, [], hd', _, q =>
        exfalso
        have ok := (by simpa [okDs] using hd' : okD d = true ∧ okDs ds = true).1
        obtain ⟨c, r, h1, h2⟩ := sh_head d ok
        have : ∃ z, J (d :: ds) = c :: z := by
          cases ds with
          | nil => exact ⟨r, h1⟩
          | cons f es => rw [J, h1]; exact ⟨_, rfl⟩
        obtain ⟨z, ez⟩ := this
        rw [ez] at q
        have q : c :: (z ++ (endT (d :: ds) ++ a)) = 41 :: b := q
        injection q with q1 _
        rw [q1] at h2
        exact not41 h2
      | [d], [e], hd', he', q =>
        have o1 := (by simpa [okDs] using hd' : okD d = true)
        have o2 := (by simpa [okDs] using he' : okD e = true)
        obtain ⟨r1, r2⟩ := sh_inj d e o1 o2 (a := endT [d] ++ a) (b := endT [e] ++ b) endT_tm endT_tm q
        exact ⟨by rw [r1], List.append_cancel_left (as := [44, 41]) r2⟩
      | [d], e :: f :: es, hd', he', q =>
        exfalso
        have o1 := (by simpa [okDs] using hd' : okD d = true)
        have o2 := (by simpa [okDs] using he' : okD e = true ∧ okD f = true ∧ okDs es = true).1
        rw [J, J, List.append_assoc] at q
        obtain ⟨_, r2⟩ := sh_inj d e o1 o2 (a := endT [d] ++ a) (b := 44 :: 32 :: J (f :: es) ++ (endT (e :: f :: es) ++ b)) endT_tm (.inl rfl) q
        injection r2 with _ r2
        injection r2 with r2 _
        cases r2
      | d :: f :: ds, [e], hd', he', q =>
        exfalso
        have o1 := (by simpa [okDs] using hd' : okD d = true ∧ okD f = true ∧ okDs ds = true).1
        have o2 := (by simpa [okDs] using he' : okD e = true)
        rw [J, J, List.append_assoc] at q
        obtain ⟨_, r2⟩ := sh_inj d e o1 o2 (a := 44 :: 32 :: J (f :: ds) ++ (endT (d :: f :: ds) ++ a)) (b := endT [e] ++ b) (.inl rfl) endT_tm q
        injection r2 with _ r2
        injection r2 with r2 _
        cases r2
      | d :: d2 :: ds, e :: e2 :: es, hd', he', q =>
        have q : J (d :: d2 :: ds) ++ 41 :: a = J (e :: e2 :: es) ++ 41 :: b := q
        obtain ⟨r1, r2⟩ := J_inj (d :: d2 :: ds) (e :: e2 :: es) hd' he' (c := 41) (c' := 41) (.inl rfl) (.inl rfl) q
        injection r2 with _ r2
        exact ⟨by rw [r1], r2⟩
    | bool x => cases x <;> cases k
    | _ => cases k
  | .dict ps, e, hd, he, a, b, _, _, q => by
    have k := kind_eq hd he q
    cases e with
    | dict ps' =>
      cases ps with
      | cons _ _ => simp [okD] at hd
      | nil =>
        cases ps' with
        | cons _ _ => simp [okD] at he
        | nil => exact ⟨rfl, List.append_cancel_left q⟩
    | bool x => cases x <;> cases k
    | _ => cases k
theorem J_inj : ∀ (ds es : List D), okDs ds = true → okDs es = true → ∀ {c c' : Nat} {a b : List Nat}, (c = 41 ∨ c = 93) → (c' = 41 ∨ c' = 93) → J ds ++ c :: a = J es ++ c' :: b → ds = es ∧ c :: a = c' :: b
  | [], [], _, _, c, c', a, b, _, _, q => ⟨rfl, q⟩
  | [], e :: es, _, he, c, c', a, b, hc, _, q => by
    exfalso
    have ok := (by simpa [okDs] using he : okD e = true ∧ okDs es = true).1
    obtain ⟨x, r, h1, h2⟩ := sh_head e ok
    have : ∃ z, J (e :: es) = x :: z := by
      cases es with
      | nil => exact ⟨r, h1⟩
      | cons f es => rw [J, h1]; exact ⟨_, rfl⟩
    obtain ⟨z, ez⟩ := this
    rw [ez] at q
    injection q with q1 _
    rw [← q1] at h2
    rcases hc with rfl | rfl
    · exact not41 h2
    · exact not93 h2
  | d :: ds, [], hd, _, c, c', a, b, _, hc', q => by
    exfalso
    have ok := (by simpa [okDs] using hd : okD d = true ∧ okDs ds = true).1
    obtain ⟨x, r, h1, h2⟩ := sh_head d ok
    have : ∃ z, J (d :: ds) = x :: z := by
      cases ds with
      | nil => exact ⟨r, h1⟩
      | cons f es => rw [J, h1]; exact ⟨_, rfl⟩
    obtain ⟨z, ez⟩ := this
    rw [ez] at q
    injection q with q1 _
    rw [q1] at h2
    rcases hc' with rfl | rfl
    · exact not41 h2
    · exact not93 h2
  | [d], [e], hd, he, c, c', a, b, hc, hc', q => by
    have o1 := (by simpa [okDs] using hd : okD d = true)
    have o2 := (by simpa [okDs] using he : okD e = true)
    obtain ⟨r1, r2⟩ := sh_inj d e o1 o2 (a := c :: a) (b := c' :: b) (.inr hc) (.inr hc') q
    exact ⟨by rw [r1], r2⟩
  | [d], e :: f :: es, hd, he, c, c', a, b, hc, hc', q => by
    exfalso
    have o1 := (by simpa [okDs] using hd : okD d = true)
    have o2 := (by simpa [okDs] using he : okD e = true ∧ okD f = true ∧ okDs es = true).1
    rw [J, J, List.append_assoc] at q
    obtain ⟨_, r2⟩ := sh_inj d e o1 o2 (a := c :: a) (b := 44 :: 32 :: J (f :: es) ++ c' :: b) (.inr hc) (.inl rfl) q
    injection r2 with r2 _
    omega
  | d :: f :: ds, [e], hd, he, c, c', a, b, hc, hc', q => by
    exfalso
    have o1 := (by simpa [okDs] using hd : okD d = true ∧ okD f = true ∧ okDs ds = true).1
    have o2 := (by simpa [okDs] using he : okD e = true)
    rw [J, J, List.append_assoc] at q
    obtain ⟨_, r2⟩ := sh_inj d e o1 o2 (a := 44 :: 32 :: J (f :: ds) ++ c :: a) (b := c' :: b) (.inl rfl) (.inr hc') q
    injection r2 with r2 _
    omega
  | d :: d2 :: ds, e :: e2 :: es, hd, he, c, c', a, b, hc, hc', q => by
    have o1 := (by simpa [okDs] using hd : okD d = true ∧ okD d2 = true ∧ okDs ds = true)
    have o2 := (by simpa [okDs] using he : okD e = true ∧ okD e2 = true ∧ okDs es = true)
    rw [J, J, List.append_assoc, List.append_assoc] at q
    obtain ⟨r1, r2⟩ := sh_inj d e o1.1 o2.1 (a := 44 :: 32 :: J (d2 :: ds) ++ c :: a) (b := 44 :: 32 :: J (e2 :: es) ++ c' :: b) (.inl rfl) (.inl rfl) q
    injection r2 with _ r2
    injection r2 with _ r2
    obtain ⟨r3, r4⟩ := J_inj (d2 :: ds) (e2 :: es) (by simpa [okDs] using o1.2) (by simpa [okDs] using o2.2) hc hc' r2
    exact ⟨by rw [r1, r3], r4⟩
end
theorem shown_inj {d e : D} (hd : okD d = true) (he : okD e = true) (q : d.shown = e.shown) : d = e := by
  refine (sh_inj d e hd he (a := []) (b := []) trivial trivial ?_).1
  unfold sh
  rw [q]
theorem shown_iff {d e : D} (hd : okD d = true) (he : okD e = true) : d.shown = e.shown ↔ d = e := ⟨shown_inj hd he, fun q => by rw [q]⟩
end LW

namespace LW
open PySem PySem.Spec PyProof.Rows L2 DL
section
variable {μ : Store} {ρ : DEnv} {Q P : Dv → Store → Prop} {f g : Op2} {a c d : ME}
def kCh5 (g : Op2) (y : Dv) (Q : Dv → Store → Prop) : Dv → Store → Prop := fun u μ => Wp (g y u μ) Q
@[simp ↓] theorem kCh5_r {u y : Dv} : kCh5 g y Q u μ = Wp (g y u μ) Q := id rfl
def kCh4 (g : Op2) (y : Dv) (d : ME) (ρ : DEnv) (Q : Dv → Store → Prop) : Bool → Store → Prop := fun k μ => match k with
  | true => Wp (d ρ μ) (kCh5 g y Q)
  | false => Q (.d (.bool false)) μ
@[simp ↓] theorem kCh4_t {y : Dv} : kCh4 g y d ρ Q true μ = Wp (d ρ μ) (kCh5 g y Q) := id rfl
@[simp ↓] theorem kCh4_f {y : Dv} : kCh4 g y d ρ Q false μ = Q (.d (.bool false)) μ := id rfl
def kCh3 (g : Op2) (y : Dv) (d : ME) (ρ : DEnv) (Q : Dv → Store → Prop) : Dv → Store → Prop := fun z μ => Wp (asBool z μ) (kCh4 g y d ρ Q)
@[simp ↓] theorem kCh3_r {z y : Dv} : kCh3 g y d ρ Q z μ = Wp (asBool z μ) (kCh4 g y d ρ Q) := id rfl
def kCh2 (f g : Op2) (x : Dv) (d : ME) (ρ : DEnv) (Q : Dv → Store → Prop) : Dv → Store → Prop := fun y μ => Wp (f x y μ) (kCh3 g y d ρ Q)
@[simp ↓] theorem kCh2_r {x y : Dv} : kCh2 f g x d ρ Q y μ = Wp (f x y μ) (kCh3 g y d ρ Q) := id rfl
def kCh1 (f g : Op2) (c d : ME) (ρ : DEnv) (Q : Dv → Store → Prop) : Dv → Store → Prop := fun x μ => Wp (c ρ μ) (kCh2 f g x d ρ Q)
@[simp ↓] theorem kCh1_r {x : Dv} : kCh1 f g c d ρ Q x μ = Wp (c ρ μ) (kCh2 f g x d ρ Q) := id rfl
@[simp ↓] theorem Wp_eChain : Wp (eChain f g a c d ρ μ) Q = Wp (a ρ μ) (kCh1 f g c d ρ Q) := by
  unfold eChain
  rw [Wp_bind]
  congr 1
  funext x μ1
  rw [Wp_bind]
  show Wp (c ρ μ1) _ = Wp (c ρ μ1) (kCh2 f g x d ρ Q)
  congr 1
  funext y μ2
  rw [Wp_bind]
  show Wp (f x y μ2) _ = Wp (f x y μ2) (kCh3 g y d ρ Q)
  congr 1
  funext z μ3
  rw [Wp_bind]
  show Wp (asBool z μ3) _ = Wp (asBool z μ3) (kCh4 g y d ρ Q)
  congr 1
  funext k μ4
  cases k with
  | true =>
    rw [if_pos rfl, Wp_bind]
    rfl
  | false =>
    rw [if_neg (by decide), Wp_ok]
    rfl
theorem gStar_w {n : Nat} {g : MGs} {ds : List D} (h : n ≤ ds.length ∧ ds.length ≤ 16384) : gStar n g (.d (.tuple ds)) ρ μ = g ((ds.take n).map .d ++ [.d (.list (ds.drop n))]) ρ μ := by
  rw [gStar_r, if_pos h]
theorem dIn_strs {n : Bool} {s : Str} {zs : List Str} : dIn n (.d (.str s)) (.d (.tuple (zs.map .str))) μ = .ok (.d (.bool (if n then !decide (s ∈ zs) else decide (s ∈ zs)))) μ := by
  have e : allFlat ((zs.map PyData.str).map Dv.d) = some (zs.map PyData.str) := allFlat_map fun d hd => by
    obtain ⟨z, _, rfl⟩ := List.mem_map.mp hd
    rfl
  show (match allFlat ((zs.map PyData.str).map Dv.d) with
      | some (ds : List D) => (if flatD (.str s) = true then Out.ok (Dv.d (PyData.bool (if n then !(ds.any fun y => PyData.eqv y (.str s)) else ds.any fun y => PyData.eqv y (.str s)))) μ else Out.bad)
      | none => Out.bad) = _
  rw [e]
  show (if flatD (.str s) = true then _ else _) = _
  rw [if_pos (show flatD (.str s) = true from rfl)]
  have : ((zs.map PyData.str).any fun y => PyData.eqv y (.str s)) = decide (s ∈ zs) := by
    clear e
    induction zs with
    | nil => simp
    | cons z zs ih =>
      rw [List.map_cons, List.any_cons, ih]
      simp only [PyData.eqv, List.mem_cons, Bool.decide_or]
      congr 1
      by_cases q : z = s
      · subst q; simp
      · have q' : ¬ s = z := fun x => q x.symm
        simp [q, q']
  rw [this]
theorem dIn_strsL {n : Bool} {s : Str} {zs : List Str} : dIn n (.d (.str s)) (.d (.list (zs.map .str))) μ = .ok (.d (.bool (if n then !decide (s ∈ zs) else decide (s ∈ zs)))) μ := dIn_strs (zs := zs)
theorem dIsi_str {d : D} : dIsi "str" (.d d) μ = .ok (.d (.bool (match d with | .str _ => true | _ => false))) μ := by
  cases d <;> rfl
/-- the forms -/
def goodF : List D := [.tuple [.str (T [119, 104, 111, 108, 101])], .tuple [.str (T [97, 109, 111, 117, 110, 116]), .int 1], .tuple [.str (T [97, 109, 111, 117, 110, 116]), .int 2], .tuple [.str (T [97, 109, 111, 117, 110, 116]), .int 3], .tuple [.str (T [97, 109, 111, 117, 110, 116]), .int 4],
  .tuple [.str (T [100, 97, 121]), .str (T [121, 109, 100])], .tuple [.str (T [100, 97, 121]), .str (T [100, 109, 121])], .tuple [.str (T [100, 97, 121]), .str (T [109, 100, 121])]]
open Classical in
noncomputable def isF (d : D) : Bool := decide (d ∈ goodF)
theorem w_l_is_form {d : D} (hd : Gd 40 16000000 d) (fin : P (.d (.bool (isF d))) μ) : Wp (F_l_is_form [.d d] μ) P := by
  unfold F_l_is_form B_l_is_form
  apply Wp_run
  simp -implicitDefEqProofs (disch := first | (with_reducible assumption) | ((with_reducible show List.length _ = _); rfl) | (simp only [allD_cons, allD_nil, Option.map_some, Option.isSome_some]; done) | (simp only [List.length_cons, List.length_nil, List.length_map]; done) | ((with_reducible refine cMod_of ?_); omega) | ((with_reducible refine cDiv_of ?_ ?_) <;> omega) | ((with_reducible refine okR_of ?_ ?_) <;> omega) | omega | (simp only [List.length_take, List.length_drop, List.length_append, List.length_cons, List.length_nil, List.length_map, List.length_range, List.length_replicate]; omega)) [-sSeq_r, -sRet_r, -sDrop_r, -sSet_r, -sIf_r, -sPar_r, -sAsg_r, -sSetIx_r, -sFor_r, -gsCons_r, -gT_r, -e1_r, -e2_r, -tV_r, -tAndM_r, -tOrM_r, -tNotM_r, -eAnd_r, -eOr_r, -eNot_r, -eIf_r, -aCons_r, -eN_r, -fCall_r, -eCallK_r, -eM_r, -eSl_r, -oSome_r, -eIsN_r, -eLc_r, -iSeq_r, -iRng_r, r2_l_is_form, r1_l_is_form, dReprE_gd hd, dAdd_ll]
  refine Wp_lcF (by simp) ?_
  have gg : ∀ x ∈ goodF, Gd 40 16000000 x := by
    have : (goodF.all fun d => okD d && decide (d.depth ≤ 40) && decide (wt d ≤ 16000000)) = true := by decide +kernel
    intro x hx
    have := List.all_eq_true.mp this x hx
    simp only [Bool.and_eq_true, decide_eq_true_eq] at this
    exact ⟨this.1.1, this.1.2, this.2⟩
  have ec := lcM_map (g := gN 2) (te := c1_l_is_form) (ρ := wipeD [some (.d d), some (.d (.list goodF)), none] [2]) (μ := μ) (f := fun b => match b with | .d x => .d (.str x.shown) | b => b) (bs := goodF.map .d) (by
    intro b hb
    obtain ⟨x, hx, rfl⟩ := List.mem_map.mp hb
    refine ⟨_, rfl, ?_⟩
    have := dReprE_gd (μ := μ) (gg x hx)
    simp [c1_l_is_form, wipeD, this])
  refine Wp_eq ec ?_
  have ev : (goodF.map Dv.d).map (fun b => match b with | .d x => Dv.d (.str x.shown) | b => b) = ((goodF.map PyData.shown).map PyData.str).map .d := by
    rw [List.map_map, List.map_map, List.map_map]; rfl
  rw [ev, dList_map (by decide)]
  generalize hz : goodF.map PyData.shown = zs
  simp -implicitDefEqProofs (disch := first | (with_reducible assumption) | ((with_reducible show List.length _ = _); rfl) | (simp only [allD_cons, allD_nil, Option.map_some, Option.isSome_some]; done) | (simp only [List.length_cons, List.length_nil, List.length_map]; done) | ((with_reducible refine cMod_of ?_); omega) | ((with_reducible refine cDiv_of ?_ ?_) <;> omega) | ((with_reducible refine okR_of ?_ ?_) <;> omega) | omega | (simp only [List.length_take, List.length_drop, List.length_append, List.length_cons, List.length_nil, List.length_map, List.length_range, List.length_replicate]; omega)) [-sSeq_r, -sRet_r, -sDrop_r, -sSet_r, -sIf_r, -sPar_r, -sAsg_r, -sSetIx_r, -sFor_r, -gsCons_r, -gT_r, -e1_r, -e2_r, -tV_r, -tAndM_r, -tOrM_r, -tNotM_r, -eAnd_r, -eOr_r, -eNot_r, -eIf_r, -aCons_r, -eN_r, -fCall_r, -eCallK_r, -eM_r, -eSl_r, -oSome_r, -eIsN_r, -eLc_r, -iSeq_r, -iRng_r, -List.map_map, dIn_strsL]
  have : decide (d.shown ∈ zs) = isF d := by
    subst hz
    unfold isF
    rw [decide_eq_decide]
    constructor
    · intro h
      obtain ⟨x, hx, e⟩ := List.mem_map.mp h
      rw [← shown_inj (gg x hx).ok hd.ok e]
      exact hx
    · exact fun h => List.mem_map_of_mem h
  rw [this]
  exact fin
end
end LW

namespace LW
open PySem PySem.Spec PyProof.Rows L2 DL
theorem T_eq {a b : List Nat} : T a = T b ↔ a = b := ⟨fun h => by have := congrArg (fun z : Str => z.cps.toList) h; simpa [tl_T] using this, fun h => by rw [h]⟩
theorem int_eqv {a b : Int} : PyData.eqv (.int a) (.int b) = decide (a = b) := by
  simp only [PyData.eqv]
  by_cases h : a = b
  · subst h; simp
  · simp [h]
theorem dIn_i2 {n : Bool} {x a b : Int} {μ : Store} : dIn n (.d (.int x)) (.d (.tuple [.int a, .int b])) μ = .ok (.d (.bool (if n then !(decide (a = x) || decide (b = x)) else (decide (a = x) || decide (b = x))))) μ := by
  show Out.ok (Dv.d (.bool (if n then !([PyData.int a, PyData.int b].any fun y => PyData.eqv y (.int x)) else ([PyData.int a, PyData.int b].any fun y => PyData.eqv y (.int x))))) μ = _
  simp only [List.any_cons, List.any_nil, int_eqv, Bool.or_false]
theorem dEqXl0 {μ : Store} : dEqX false (.d (.list [])) (.d (.list [])) μ = .ok (.d (.bool true)) μ := by
  show dEq false (.d (.list [])) (.d (.list [])) μ = _
  rw [dEq_dd (by decide)]
  rfl
theorem dEqXl1 {x : D} {r : List D} {μ : Store} : dEqX false (.d (.list (x :: r))) (.d (.list [])) μ = .ok (.d (.bool false)) μ := rfl
theorem dIsi_strS {z : Str} {μ : Store} : dIsi "str" (.d (.str z)) μ = .ok (.d (.bool true)) μ := rfl
def isS : D → Bool
  | .str _ => true
  | _ => false
theorem isS_s {z : Str} : isS (.str z) = true := rfl
theorem dIsi_s {d : D} {μ : Store} : dIsi "str" (.d d) μ = .ok (.d (.bool (isS d))) μ := by
  cases d <;> rfl
theorem dIx_t0 {x : D} {r : List D} {μ : Store} : dIx (.d (.tuple (x :: r))) (.d (.int 0)) μ = .ok (.d x) μ := dIx_t (atI_nn (k := 0) rfl)
open Classical in
theorem isF_iff {d : D} : isF d = true ↔ d ∈ goodF := by
  unfold isF
  exact decide_eq_true_iff
theorem isS_iff {d : D} (h : isS d = true) : ∃ l, d = .str (T l) := by
  cases d with
  | str z => exact ⟨z.cps.toList, by rw [T_cps]⟩
  | _ => cases h
theorem isF_str {z : Str} {r : List D} : isF (.tuple (.str z :: r)) = true ↔ (z = T [119, 104, 111, 108, 101] ∧ r = []) ∨ (z = T [97, 109, 111, 117, 110, 116] ∧ ∃ k : Int, r = [.int k] ∧ 1 ≤ k ∧ k ≤ 4) ∨ (z = T [100, 97, 121] ∧ ∃ y, r = [.str y] ∧ y ∈ [T [121, 109, 100], T [100, 109, 121], T [109, 100, 121]]) := by
  rw [isF_iff]
  unfold goodF
  simp only [List.mem_cons, List.not_mem_nil, or_false, PyData.tuple.injEq, List.cons.injEq, PyData.str.injEq]
  constructor
  · rintro (⟨rfl, rfl⟩ | ⟨rfl, rfl⟩ | ⟨rfl, rfl⟩ | ⟨rfl, rfl⟩ | ⟨rfl, rfl⟩ | ⟨rfl, rfl⟩ | ⟨rfl, rfl⟩ | ⟨rfl, rfl⟩)
    · exact .inl ⟨rfl, rfl⟩
    · exact .inr (.inl ⟨rfl, 1, rfl, by decide, by decide⟩)
    · exact .inr (.inl ⟨rfl, 2, rfl, by decide, by decide⟩)
    · exact .inr (.inl ⟨rfl, 3, rfl, by decide, by decide⟩)
    · exact .inr (.inl ⟨rfl, 4, rfl, by decide, by decide⟩)
    · exact .inr (.inr ⟨rfl, _, rfl, .inl rfl⟩)
    · exact .inr (.inr ⟨rfl, _, rfl, .inr (.inl rfl)⟩)
    · exact .inr (.inr ⟨rfl, _, rfl, .inr (.inr rfl)⟩)
  · rintro (⟨rfl, rfl⟩ | ⟨rfl, k, rfl, h1, h2⟩ | ⟨rfl, y, rfl, rfl | rfl | rfl⟩)
    · simp
    · have : k = 1 ∨ k = 2 ∨ k = 3 ∨ k = 4 := by omega
      rcases this with rfl | rfl | rfl | rfl <;> simp
    · simp
    · simp
    · simp
theorem isF_no {d : D} (h : ∀ z r, d ≠ .tuple (.str z :: r)) : isF d = false := by
  cases q : isF d with
  | false => rfl
  | true =>
  rw [isF_iff] at q
  exfalso
  simp only [goodF, List.mem_cons, List.not_mem_nil, or_false] at q
  rcases q with q | q | q | q | q | q | q | q <;> exact h _ _ q
theorem isF_b {z : Str} {r : List D} {b : Bool} (h : ((z = T [119, 104, 111, 108, 101] ∧ r = []) ∨ (z = T [97, 109, 111, 117, 110, 116] ∧ ∃ k : Int, r = [.int k] ∧ 1 ≤ k ∧ k ≤ 4) ∨ (z = T [100, 97, 121] ∧ ∃ y, r = [.str y] ∧ y ∈ [T [121, 109, 100], T [100, 109, 121], T [109, 100, 121]])) ↔ b = true) : isF (.tuple (.str z :: r)) = b := by
  rw [← isF_str] at h
  cases b with
  | true => exact h.mpr rfl
  | false =>
    cases q : isF (.tuple (.str z :: r)) with
    | false => rfl
    | true => exact absurd (h.mp q) (by decide)
section
variable {μ : Store} {P : Dv → Store → Prop}
theorem w_is_form {d : D} (hd : ∀ ds, d = .tuple ds → ds.length ≤ 16000) (fin : P (.d (.bool (isF d))) μ) : Wp (F_is_form [.d d] μ) P := by
  unfold F_is_form B_is_form
  apply Wp_run
  have no : (∀ z r, d ≠ .tuple (.str z :: r)) → P (.d (.bool false)) μ := fun h => by rw [isF_no h] at fin; exact fin
  have notT : isTup d = false → Wp (B_is_form ([Dv.d d].map some ++ List.replicate (3 - [Dv.d d].length) none) μ) (finP P) := fun h => by
    simp -implicitDefEqProofs (disch := first | (with_reducible assumption) | ((with_reducible show List.length _ = _); rfl) | (simp only [allD_cons, allD_nil, Option.map_some, Option.isSome_some]; done) | (simp only [List.length_cons, List.length_nil, List.length_map]; done) | ((with_reducible refine cMod_of ?_); omega) | ((with_reducible refine cDiv_of ?_ ?_) <;> omega) | ((with_reducible refine okR_of ?_ ?_) <;> omega) | omega | (simp only [List.length_take, List.length_drop, List.length_append, List.length_cons, List.length_nil, List.length_map, List.length_range, List.length_replicate]; omega)) [-sSeq_r, -sRet_r, -sDrop_r, -sSet_r, -sIf_r, -sPar_r, -sAsg_r, -sSetIx_r, -sFor_r, -gsCons_r, -gT_r, -e1_r, -e2_r, -tV_r, -tAndM_r, -tOrM_r, -tNotM_r, -eAnd_r, -eOr_r, -eNot_r, -eIf_r, -aCons_r, -eN_r, -fCall_r, -eCallK_r, -eM_r, -eSl_r, -oSome_r, -eIsN_r, -eLc_r, -iSeq_r, -iRng_r, B_is_form, dIsi_tup, h]
    exact no fun z r q => by rw [q] at h; cases h
  cases d with
  | tuple ds =>
    match ds with
    | [] =>
      simp -implicitDefEqProofs (disch := first | (with_reducible assumption) | ((with_reducible show List.length _ = _); rfl) | (simp only [allD_cons, allD_nil, Option.map_some, Option.isSome_some]; done) | (simp only [List.length_cons, List.length_nil, List.length_map]; done) | ((with_reducible refine cMod_of ?_); omega) | ((with_reducible refine cDiv_of ?_ ?_) <;> omega) | ((with_reducible refine okR_of ?_ ?_) <;> omega) | omega | (simp only [List.length_take, List.length_drop, List.length_append, List.length_cons, List.length_nil, List.length_map, List.length_range, List.length_replicate]; omega)) [-sSeq_r, -sRet_r, -sDrop_r, -sSet_r, -sIf_r, -sPar_r, -sAsg_r, -sSetIx_r, -sFor_r, -gsCons_r, -gT_r, -e1_r, -e2_r, -tV_r, -tAndM_r, -tOrM_r, -tNotM_r, -eAnd_r, -eOr_r, -eNot_r, -eIf_r, -aCons_r, -eN_r, -fCall_r, -eCallK_r, -eM_r, -eSl_r, -oSome_r, -eIsN_r, -eLc_r, -iSeq_r, -iRng_r, dIsi_tup, isTup, dIn_i2]
      exact no fun z r q => by cases q
    | [x] =>
      by_cases hs : isS x = true
      · obtain ⟨l, rfl⟩ := isS_iff hs
        by_cases h : l = [119, 104, 111, 108, 101]
        · subst h
          simp -implicitDefEqProofs (disch := first | (with_reducible assumption) | ((with_reducible show List.length _ = _); rfl) | (simp only [allD_cons, allD_nil, Option.map_some, Option.isSome_some]; done) | (simp only [List.length_cons, List.length_nil, List.length_map]; done) | ((with_reducible refine cMod_of ?_); omega) | ((with_reducible refine cDiv_of ?_ ?_) <;> omega) | ((with_reducible refine okR_of ?_ ?_) <;> omega) | omega | (simp only [List.length_take, List.length_drop, List.length_append, List.length_cons, List.length_nil, List.length_map, List.length_range, List.length_replicate]; omega)) [-sSeq_r, -sRet_r, -sDrop_r, -sSet_r, -sIf_r, -sPar_r, -sAsg_r, -sSetIx_r, -sFor_r, -gsCons_r, -gT_r, -e1_r, -e2_r, -tV_r, -tAndM_r, -tOrM_r, -tNotM_r, -eAnd_r, -eOr_r, -eNot_r, -eIf_r, -aCons_r, -eN_r, -fCall_r, -eCallK_r, -eM_r, -eSl_r, -oSome_r, -eIsN_r, -eLc_r, -iSeq_r, -iRng_r, dIsi_tup, isTup, dIn_i2, dIx_t0, dIsi_s, isS, r5_is_form, gStar_w, r4_is_form, dEqXl0]
          rw [isF_b (b := true) (by simp)] at fin
          exact fin
        · simp -implicitDefEqProofs (disch := first | (with_reducible assumption) | ((with_reducible show List.length _ = _); rfl) | (simp only [allD_cons, allD_nil, Option.map_some, Option.isSome_some]; done) | (simp only [List.length_cons, List.length_nil, List.length_map]; done) | ((with_reducible refine cMod_of ?_); omega) | ((with_reducible refine cDiv_of ?_ ?_) <;> omega) | ((with_reducible refine okR_of ?_ ?_) <;> omega) | omega | (simp only [List.length_take, List.length_drop, List.length_append, List.length_cons, List.length_nil, List.length_map, List.length_range, List.length_replicate]; omega)) [-sSeq_r, -sRet_r, -sDrop_r, -sSet_r, -sIf_r, -sPar_r, -sAsg_r, -sSetIx_r, -sFor_r, -gsCons_r, -gT_r, -e1_r, -e2_r, -tV_r, -tAndM_r, -tOrM_r, -tNotM_r, -eAnd_r, -eOr_r, -eNot_r, -eIf_r, -aCons_r, -eN_r, -fCall_r, -eCallK_r, -eM_r, -eSl_r, -oSome_r, -eIsN_r, -eLc_r, -iSeq_r, -iRng_r, dIsi_tup, isTup, dIn_i2, dIx_t0, dIsi_s, isS, r5_is_form, gStar_w, r4_is_form, h, r3_is_form]
          rw [isF_b (b := false) (by simp [T_eq, h])] at fin
          exact fin
      · have hs : isS x = false := by simpa using hs
        simp -implicitDefEqProofs (disch := first | (with_reducible assumption) | ((with_reducible show List.length _ = _); rfl) | (simp only [allD_cons, allD_nil, Option.map_some, Option.isSome_some]; done) | (simp only [List.length_cons, List.length_nil, List.length_map]; done) | ((with_reducible refine cMod_of ?_); omega) | ((with_reducible refine cDiv_of ?_ ?_) <;> omega) | ((with_reducible refine okR_of ?_ ?_) <;> omega) | omega | (simp only [List.length_take, List.length_drop, List.length_append, List.length_cons, List.length_nil, List.length_map, List.length_range, List.length_replicate]; omega)) [-sSeq_r, -sRet_r, -sDrop_r, -sSet_r, -sIf_r, -sPar_r, -sAsg_r, -sSetIx_r, -sFor_r, -gsCons_r, -gT_r, -e1_r, -e2_r, -tV_r, -tAndM_r, -tOrM_r, -tNotM_r, -eAnd_r, -eOr_r, -eNot_r, -eIf_r, -aCons_r, -eN_r, -fCall_r, -eCallK_r, -eM_r, -eSl_r, -oSome_r, -eIsN_r, -eLc_r, -iSeq_r, -iRng_r, dIsi_tup, isTup, dIn_i2, dIx_t0, dIsi_s, hs]
        exact no fun z r q => by cases q; cases hs
    | [x, y] =>
      by_cases hs : isS x = true
      · obtain ⟨l, rfl⟩ := isS_iff hs
        by_cases h : l = [119, 104, 111, 108, 101]
        · subst h
          simp -implicitDefEqProofs (disch := first | (with_reducible assumption) | ((with_reducible show List.length _ = _); rfl) | (simp only [allD_cons, allD_nil, Option.map_some, Option.isSome_some]; done) | (simp only [List.length_cons, List.length_nil, List.length_map]; done) | ((with_reducible refine cMod_of ?_); omega) | ((with_reducible refine cDiv_of ?_ ?_) <;> omega) | ((with_reducible refine okR_of ?_ ?_) <;> omega) | omega | (simp only [List.length_take, List.length_drop, List.length_append, List.length_cons, List.length_nil, List.length_map, List.length_range, List.length_replicate]; omega)) [-sSeq_r, -sRet_r, -sDrop_r, -sSet_r, -sIf_r, -sPar_r, -sAsg_r, -sSetIx_r, -sFor_r, -gsCons_r, -gT_r, -e1_r, -e2_r, -tV_r, -tAndM_r, -tOrM_r, -tNotM_r, -eAnd_r, -eOr_r, -eNot_r, -eIf_r, -aCons_r, -eN_r, -fCall_r, -eCallK_r, -eM_r, -eSl_r, -oSome_r, -eIsN_r, -eLc_r, -iSeq_r, -iRng_r, dIsi_tup, isTup, dIn_i2, dIx_t0, dIsi_s, isS, r5_is_form, gStar_w, r4_is_form, dEqXl1]
          rw [isF_b (b := false) (by simp [T_eq])] at fin
          exact fin
        · by_cases h2 : l = [97, 109, 111, 117, 110, 116]
          · subst h2
            simp -implicitDefEqProofs (disch := first | (with_reducible assumption) | ((with_reducible show List.length _ = _); rfl) | (simp only [allD_cons, allD_nil, Option.map_some, Option.isSome_some]; done) | (simp only [List.length_cons, List.length_nil, List.length_map]; done) | ((with_reducible refine cMod_of ?_); omega) | ((with_reducible refine cDiv_of ?_ ?_) <;> omega) | ((with_reducible refine okR_of ?_ ?_) <;> omega) | omega | (simp only [List.length_take, List.length_drop, List.length_append, List.length_cons, List.length_nil, List.length_map, List.length_range, List.length_replicate]; omega)) [-sSeq_r, -sRet_r, -sDrop_r, -sSet_r, -sIf_r, -sPar_r, -sAsg_r, -sSetIx_r, -sFor_r, -gsCons_r, -gT_r, -e1_r, -e2_r, -tV_r, -tAndM_r, -tOrM_r, -tNotM_r, -eAnd_r, -eOr_r, -eNot_r, -eIf_r, -aCons_r, -eN_r, -fCall_r, -eCallK_r, -eM_r, -eSl_r, -oSome_r, -eIsN_r, -eLc_r, -iSeq_r, -iRng_r, dIsi_tup, isTup, dIn_i2, dIx_t0, dIsi_s, isS, r5_is_form, gStar_w, r4_is_form, r3_is_form, r2_is_form, dI20]
            refine w_is_whole ?_
            by_cases hi : isI y = true
            · obtain ⟨k, rfl⟩ : ∃ k, y = .int k := by
                cases y with
                | int k => exact ⟨k, rfl⟩
                | _ => cases hi
              simp -implicitDefEqProofs (disch := first | (with_reducible assumption) | ((with_reducible show List.length _ = _); rfl) | (simp only [allD_cons, allD_nil, Option.map_some, Option.isSome_some]; done) | (simp only [List.length_cons, List.length_nil, List.length_map]; done) | ((with_reducible refine cMod_of ?_); omega) | ((with_reducible refine cDiv_of ?_ ?_) <;> omega) | ((with_reducible refine okR_of ?_ ?_) <;> omega) | omega | (simp only [List.length_take, List.length_drop, List.length_append, List.length_cons, List.length_nil, List.length_map, List.length_range, List.length_replicate]; omega)) [-sSeq_r, -sRet_r, -sDrop_r, -sSet_r, -sIf_r, -sPar_r, -sAsg_r, -sSetIx_r, -sFor_r, -gsCons_r, -gT_r, -e1_r, -e2_r, -tV_r, -tAndM_r, -tOrM_r, -tNotM_r, -eAnd_r, -eOr_r, -eNot_r, -eIf_r, -aCons_r, -eN_r, -fCall_r, -eCallK_r, -eM_r, -eSl_r, -oSome_r, -eIsN_r, -eLc_r, -iSeq_r, -iRng_r, isI, dI20]
              by_cases k1 : 1 ≤ k
              · by_cases k2 : k ≤ 4
                · simp -implicitDefEqProofs (disch := first | (with_reducible assumption) | ((with_reducible show List.length _ = _); rfl) | (simp only [allD_cons, allD_nil, Option.map_some, Option.isSome_some]; done) | (simp only [List.length_cons, List.length_nil, List.length_map]; done) | ((with_reducible refine cMod_of ?_); omega) | ((with_reducible refine cDiv_of ?_ ?_) <;> omega) | ((with_reducible refine okR_of ?_ ?_) <;> omega) | omega | (simp only [List.length_take, List.length_drop, List.length_append, List.length_cons, List.length_nil, List.length_map, List.length_range, List.length_replicate]; omega)) [-sSeq_r, -sRet_r, -sDrop_r, -sSet_r, -sIf_r, -sPar_r, -sAsg_r, -sSetIx_r, -sFor_r, -gsCons_r, -gT_r, -e1_r, -e2_r, -tV_r, -tAndM_r, -tOrM_r, -tNotM_r, -eAnd_r, -eOr_r, -eNot_r, -eIf_r, -aCons_r, -eN_r, -fCall_r, -eCallK_r, -eM_r, -eSl_r, -oSome_r, -eIsN_r, -eLc_r, -iSeq_r, -iRng_r, k1, k2, dI20]
                  rw [isF_b (b := true) (by simp [k1, k2])] at fin
                  exact fin
                · simp -implicitDefEqProofs (disch := first | (with_reducible assumption) | ((with_reducible show List.length _ = _); rfl) | (simp only [allD_cons, allD_nil, Option.map_some, Option.isSome_some]; done) | (simp only [List.length_cons, List.length_nil, List.length_map]; done) | ((with_reducible refine cMod_of ?_); omega) | ((with_reducible refine cDiv_of ?_ ?_) <;> omega) | ((with_reducible refine okR_of ?_ ?_) <;> omega) | omega | (simp only [List.length_take, List.length_drop, List.length_append, List.length_cons, List.length_nil, List.length_map, List.length_range, List.length_replicate]; omega)) [-sSeq_r, -sRet_r, -sDrop_r, -sSet_r, -sIf_r, -sPar_r, -sAsg_r, -sSetIx_r, -sFor_r, -gsCons_r, -gT_r, -e1_r, -e2_r, -tV_r, -tAndM_r, -tOrM_r, -tNotM_r, -eAnd_r, -eOr_r, -eNot_r, -eIf_r, -aCons_r, -eN_r, -fCall_r, -eCallK_r, -eM_r, -eSl_r, -oSome_r, -eIsN_r, -eLc_r, -iSeq_r, -iRng_r, k1, k2, dI20]
                  rw [isF_b (b := false) (by simp [T_eq, k1, k2])] at fin
                  exact fin
              · simp -implicitDefEqProofs (disch := first | (with_reducible assumption) | ((with_reducible show List.length _ = _); rfl) | (simp only [allD_cons, allD_nil, Option.map_some, Option.isSome_some]; done) | (simp only [List.length_cons, List.length_nil, List.length_map]; done) | ((with_reducible refine cMod_of ?_); omega) | ((with_reducible refine cDiv_of ?_ ?_) <;> omega) | ((with_reducible refine okR_of ?_ ?_) <;> omega) | omega | (simp only [List.length_take, List.length_drop, List.length_append, List.length_cons, List.length_nil, List.length_map, List.length_range, List.length_replicate]; omega)) [-sSeq_r, -sRet_r, -sDrop_r, -sSet_r, -sIf_r, -sPar_r, -sAsg_r, -sSetIx_r, -sFor_r, -gsCons_r, -gT_r, -e1_r, -e2_r, -tV_r, -tAndM_r, -tOrM_r, -tNotM_r, -eAnd_r, -eOr_r, -eNot_r, -eIf_r, -aCons_r, -eN_r, -fCall_r, -eCallK_r, -eM_r, -eSl_r, -oSome_r, -eIsN_r, -eLc_r, -iSeq_r, -iRng_r, k1, dI20]
                rw [isF_b (b := false) (by simp [T_eq, k1])] at fin
                exact fin
            · have hi : isI y = false := by simpa using hi
              simp -implicitDefEqProofs (disch := first | (with_reducible assumption) | ((with_reducible show List.length _ = _); rfl) | (simp only [allD_cons, allD_nil, Option.map_some, Option.isSome_some]; done) | (simp only [List.length_cons, List.length_nil, List.length_map]; done) | ((with_reducible refine cMod_of ?_); omega) | ((with_reducible refine cDiv_of ?_ ?_) <;> omega) | ((with_reducible refine okR_of ?_ ?_) <;> omega) | omega | (simp only [List.length_take, List.length_drop, List.length_append, List.length_cons, List.length_nil, List.length_map, List.length_range, List.length_replicate]; omega)) [-sSeq_r, -sRet_r, -sDrop_r, -sSet_r, -sIf_r, -sPar_r, -sAsg_r, -sSetIx_r, -sFor_r, -gsCons_r, -gT_r, -e1_r, -e2_r, -tV_r, -tAndM_r, -tOrM_r, -tNotM_r, -eAnd_r, -eOr_r, -eNot_r, -eIf_r, -aCons_r, -eN_r, -fCall_r, -eCallK_r, -eM_r, -eSl_r, -oSome_r, -eIsN_r, -eLc_r, -iSeq_r, -iRng_r, hi]
              rw [isF_b (b := false) (by
                constructor
                · rintro (⟨q, _⟩ | ⟨_, k, q, _⟩ | ⟨q, _⟩)
                  · rw [T_eq] at q; cases q
                  · cases q; cases hi
                  · rw [T_eq] at q; cases q
                · intro q; cases q)] at fin
              exact fin
          · by_cases h3 : l = [100, 97, 121]
            · subst h3
              by_cases hy : isS y = true
              · obtain ⟨m, rfl⟩ := isS_iff hy
                have e3 : (PyData.tuple [.str (T [121, 109, 100]), .str (T [100, 109, 121]), .str (T [109, 100, 121])]) = .tuple ([T [121, 109, 100], T [100, 109, 121], T [109, 100, 121]].map .str) := rfl
                simp -implicitDefEqProofs (disch := first | (with_reducible assumption) | ((with_reducible show List.length _ = _); rfl) | (simp only [allD_cons, allD_nil, Option.map_some, Option.isSome_some]; done) | (simp only [List.length_cons, List.length_nil, List.length_map]; done) | ((with_reducible refine cMod_of ?_); omega) | ((with_reducible refine cDiv_of ?_ ?_) <;> omega) | ((with_reducible refine okR_of ?_ ?_) <;> omega) | omega | (simp only [List.length_take, List.length_drop, List.length_append, List.length_cons, List.length_nil, List.length_map, List.length_range, List.length_replicate]; omega)) [-sSeq_r, -sRet_r, -sDrop_r, -sSet_r, -sIf_r, -sPar_r, -sAsg_r, -sSetIx_r, -sFor_r, -gsCons_r, -gT_r, -e1_r, -e2_r, -tV_r, -tAndM_r, -tOrM_r, -tNotM_r, -eAnd_r, -eOr_r, -eNot_r, -eIf_r, -aCons_r, -eN_r, -fCall_r, -eCallK_r, -eM_r, -eSl_r, -oSome_r, -eIsN_r, -eLc_r, -iSeq_r, -iRng_r, dIsi_tup, isTup, dIn_i2, dIx_t0, dIsi_s, isS, r5_is_form, gStar_w, r4_is_form, r3_is_form, r2_is_form, r1_is_form, dI20]
                rw [e3, dIn_strs]
                simp -implicitDefEqProofs (disch := first | (with_reducible assumption) | ((with_reducible show List.length _ = _); rfl) | (simp only [allD_cons, allD_nil, Option.map_some, Option.isSome_some]; done) | (simp only [List.length_cons, List.length_nil, List.length_map]; done) | ((with_reducible refine cMod_of ?_); omega) | ((with_reducible refine cDiv_of ?_ ?_) <;> omega) | ((with_reducible refine okR_of ?_ ?_) <;> omega) | omega | (simp only [List.length_take, List.length_drop, List.length_append, List.length_cons, List.length_nil, List.length_map, List.length_range, List.length_replicate]; omega)) [-sSeq_r, -sRet_r, -sDrop_r, -sSet_r, -sIf_r, -sPar_r, -sAsg_r, -sSetIx_r, -sFor_r, -gsCons_r, -gT_r, -e1_r, -e2_r, -tV_r, -tAndM_r, -tOrM_r, -tNotM_r, -eAnd_r, -eOr_r, -eNot_r, -eIf_r, -aCons_r, -eN_r, -fCall_r, -eCallK_r, -eM_r, -eSl_r, -oSome_r, -eIsN_r, -eLc_r, -iSeq_r, -iRng_r, ]
                rw [isF_b (b := decide (T m ∈ [T [121, 109, 100], T [100, 109, 121], T [109, 100, 121]])) (by simp [T_eq])] at fin
                simpa using fin
              · have hy : isS y = false := by simpa using hy
                simp -implicitDefEqProofs (disch := first | (with_reducible assumption) | ((with_reducible show List.length _ = _); rfl) | (simp only [allD_cons, allD_nil, Option.map_some, Option.isSome_some]; done) | (simp only [List.length_cons, List.length_nil, List.length_map]; done) | ((with_reducible refine cMod_of ?_); omega) | ((with_reducible refine cDiv_of ?_ ?_) <;> omega) | ((with_reducible refine okR_of ?_ ?_) <;> omega) | omega | (simp only [List.length_take, List.length_drop, List.length_append, List.length_cons, List.length_nil, List.length_map, List.length_range, List.length_replicate]; omega)) [-sSeq_r, -sRet_r, -sDrop_r, -sSet_r, -sIf_r, -sPar_r, -sAsg_r, -sSetIx_r, -sFor_r, -gsCons_r, -gT_r, -e1_r, -e2_r, -tV_r, -tAndM_r, -tOrM_r, -tNotM_r, -eAnd_r, -eOr_r, -eNot_r, -eIf_r, -aCons_r, -eN_r, -fCall_r, -eCallK_r, -eM_r, -eSl_r, -oSome_r, -eIsN_r, -eLc_r, -iSeq_r, -iRng_r, dIsi_tup, isTup, dIn_i2, dIx_t0, dIsi_s, isS_s, hy, r5_is_form, gStar_w, r4_is_form, r3_is_form, r2_is_form, r1_is_form, dI20]
                rw [isF_b (b := false) (by
                  constructor
                  · rintro (⟨q, _⟩ | ⟨q, _⟩ | ⟨_, z, q, _⟩)
                    · rw [T_eq] at q; cases q
                    · rw [T_eq] at q; cases q
                    · cases q; cases hy
                  · intro q; cases q)] at fin
                exact fin
            · simp -implicitDefEqProofs (disch := first | (with_reducible assumption) | ((with_reducible show List.length _ = _); rfl) | (simp only [allD_cons, allD_nil, Option.map_some, Option.isSome_some]; done) | (simp only [List.length_cons, List.length_nil, List.length_map]; done) | ((with_reducible refine cMod_of ?_); omega) | ((with_reducible refine cDiv_of ?_ ?_) <;> omega) | ((with_reducible refine okR_of ?_ ?_) <;> omega) | omega | (simp only [List.length_take, List.length_drop, List.length_append, List.length_cons, List.length_nil, List.length_map, List.length_range, List.length_replicate]; omega)) [-sSeq_r, -sRet_r, -sDrop_r, -sSet_r, -sIf_r, -sPar_r, -sAsg_r, -sSetIx_r, -sFor_r, -gsCons_r, -gT_r, -e1_r, -e2_r, -tV_r, -tAndM_r, -tOrM_r, -tNotM_r, -eAnd_r, -eOr_r, -eNot_r, -eIf_r, -aCons_r, -eN_r, -fCall_r, -eCallK_r, -eM_r, -eSl_r, -oSome_r, -eIsN_r, -eLc_r, -iSeq_r, -iRng_r, dIsi_tup, isTup, dIn_i2, dIx_t0, dIsi_s, isS, r5_is_form, gStar_w, r4_is_form, r3_is_form, r2_is_form, r1_is_form, dI20, h, h2, h3]
              rw [isF_b (b := false) (by simp [T_eq, h, h2, h3])] at fin
              exact fin
      · have hs : isS x = false := by simpa using hs
        simp -implicitDefEqProofs (disch := first | (with_reducible assumption) | ((with_reducible show List.length _ = _); rfl) | (simp only [allD_cons, allD_nil, Option.map_some, Option.isSome_some]; done) | (simp only [List.length_cons, List.length_nil, List.length_map]; done) | ((with_reducible refine cMod_of ?_); omega) | ((with_reducible refine cDiv_of ?_ ?_) <;> omega) | ((with_reducible refine okR_of ?_ ?_) <;> omega) | omega | (simp only [List.length_take, List.length_drop, List.length_append, List.length_cons, List.length_nil, List.length_map, List.length_range, List.length_replicate]; omega)) [-sSeq_r, -sRet_r, -sDrop_r, -sSet_r, -sIf_r, -sPar_r, -sAsg_r, -sSetIx_r, -sFor_r, -gsCons_r, -gT_r, -e1_r, -e2_r, -tV_r, -tAndM_r, -tOrM_r, -tNotM_r, -eAnd_r, -eOr_r, -eNot_r, -eIf_r, -aCons_r, -eN_r, -fCall_r, -eCallK_r, -eM_r, -eSl_r, -oSome_r, -eIsN_r, -eLc_r, -iSeq_r, -iRng_r, dIsi_tup, isTup, dIn_i2, dIx_t0, dIsi_s, hs]
        exact no fun z r q => by cases q; cases hs
    | x :: y :: w :: r =>
      have hl := hd _ rfl
      simp only [List.length_cons] at hl
      have q1 : ¬ ((1 : Int) = ((r.length : Int) + 1 + 1 + 1)) := by omega
      have q2 : ¬ ((2 : Int) = ((r.length : Int) + 1 + 1 + 1)) := by omega
      simp -implicitDefEqProofs (disch := first | (with_reducible assumption) | ((with_reducible show List.length _ = _); rfl) | (simp only [allD_cons, allD_nil, Option.map_some, Option.isSome_some]; done) | (simp only [List.length_cons, List.length_nil, List.length_map]; done) | ((with_reducible refine cMod_of ?_); omega) | ((with_reducible refine cDiv_of ?_ ?_) <;> omega) | ((with_reducible refine okR_of ?_ ?_) <;> omega) | omega | (simp only [List.length_take, List.length_drop, List.length_append, List.length_cons, List.length_nil, List.length_map, List.length_range, List.length_replicate]; omega)) [-sSeq_r, -sRet_r, -sDrop_r, -sSet_r, -sIf_r, -sPar_r, -sAsg_r, -sSetIx_r, -sFor_r, -gsCons_r, -gT_r, -e1_r, -e2_r, -tV_r, -tAndM_r, -tOrM_r, -tNotM_r, -eAnd_r, -eOr_r, -eNot_r, -eIf_r, -aCons_r, -eN_r, -fCall_r, -eCallK_r, -eM_r, -eSl_r, -oSome_r, -eIsN_r, -eLc_r, -iSeq_r, -iRng_r, dIsi_tup, isTup, dIn_i2, q1, q2]
      rw [show isF (.tuple (x :: y :: w :: r)) = false from by
        by_cases hs : isS x = true
        · obtain ⟨l, rfl⟩ := isS_iff hs
          exact isF_b (by
            constructor
            · rintro (⟨_, q⟩ | ⟨_, k, q, _⟩ | ⟨_, z, q, _⟩) <;> cases q
            · intro q; cases q)
        · exact isF_no fun z r q => by cases q; exact hs rfl] at fin
      exact fin
  | none => exact notT rfl
  | bool _ => exact notT rfl
  | int _ => exact notT rfl
  | str _ => exact notT rfl
  | list _ => exact notT rfl
  | dict _ => exact notT rfl
end
end LW

namespace LW
open PySem PySem.Spec PyProof.Rows L2 DL
def low (c : Nat) : Bool := decide (97 ≤ c ∧ c ≤ 122)
def nm (l : List Nat) : Bool := decide (1 ≤ l.length) && (decide (l.length ≤ 8) && l.all low)
def nameB : D → Bool
  | .str z => nm z.cps.toList
  | _ => false
theorem low_mem {c : Nat} : decide (c ∈ [97, 98, 99, 100, 101, 102, 103, 104, 105, 106, 107, 108, 109, 110, 111, 112, 113, 114, 115, 116, 117, 118, 119, 120, 121, 122]) = low c := by
  unfold low
  rw [decide_eq_decide]
  simp only [List.mem_cons, List.not_mem_nil, or_false]
  omega
theorem all_bools {α : Type} {l : List α} {p : α → Bool} {μ : Store} : dAll (fun ks => ks.all id) [.d (.list (l.map fun c => PyData.bool (p c)))] μ = .ok (.d (.bool (l.all p))) μ := by
  have : (l.map fun c => PyData.bool (p c)) = (l.map p).map PyData.bool := by rw [List.map_map]; rfl
  rw [this, dAll_b, List.all_map]
  rfl
section
variable {μ : Store} {P : Dv → Store → Prop}
theorem w_is_name {d : D} (hd : ∀ z, d = .str z → z.length ≤ 16000000) (fin : P (.d (.bool (nameB d))) μ) : Wp (F_is_name [.d d] μ) P := by
  unfold F_is_name B_is_name
  apply Wp_run
  by_cases hs : isS d = true
  · obtain ⟨l, rfl⟩ := isS_iff hs
    have hl : l.length ≤ 16000000 := by have := hd _ rfl; rwa [T_len] at this
    have fin : P (.d (.bool (nm l))) μ := fin
    unfold nm at fin
    by_cases h1 : 1 ≤ l.length
    · have i1 : (1 : Int) ≤ (l.length : Int) := by omega
      by_cases h2 : l.length ≤ 8
      · have i2 : (l.length : Int) ≤ 8 := by omega
        simp -implicitDefEqProofs (disch := first | (with_reducible assumption) | ((with_reducible show List.length _ = _); rfl) | (simp only [allD_cons, allD_nil, Option.map_some, Option.isSome_some]; done) | (simp only [List.length_cons, List.length_nil, List.length_map]; done) | ((with_reducible refine cMod_of ?_); omega) | ((with_reducible refine cDiv_of ?_ ?_) <;> omega) | ((with_reducible refine okR_of ?_ ?_) <;> omega) | omega | (simp only [List.length_take, List.length_drop, List.length_append, List.length_cons, List.length_nil, List.length_map, List.length_range, List.length_replicate]; omega)) [-sSeq_r, -sRet_r, -sDrop_r, -sSet_r, -sIf_r, -sPar_r, -sAsg_r, -sSetIx_r, -sFor_r, -gsCons_r, -gT_r, -e1_r, -e2_r, -tV_r, -tAndM_r, -tOrM_r, -tNotM_r, -eAnd_r, -eOr_r, -eNot_r, -eIf_r, -aCons_r, -eN_r, -fCall_r, -eCallK_r, -eM_r, -eSl_r, -oSome_r, -eIsN_r, -eLc_r, -iSeq_r, -iRng_r, dIsi_s, isS_s, i1, i2]
        refine Wp_eq (lcF_signs (f := fun c => .bool (low c)) hl fun c hc => ?_) ?_
        · simp only [c1_is_name, wipeD]
          show dIn false (.d (.str (T [c]))) (.d (.str "abcdefghijklmnopqrstuvwxyz")) μ = _
          rw [S_0, dIn_ss]
          simp only [Bool.false_eq_true, if_false, low_mem]
        · simp -implicitDefEqProofs (disch := first | (with_reducible assumption) | ((with_reducible show List.length _ = _); rfl) | (simp only [allD_cons, allD_nil, Option.map_some, Option.isSome_some]; done) | (simp only [List.length_cons, List.length_nil, List.length_map]; done) | ((with_reducible refine cMod_of ?_); omega) | ((with_reducible refine cDiv_of ?_ ?_) <;> omega) | ((with_reducible refine okR_of ?_ ?_) <;> omega) | omega | (simp only [List.length_take, List.length_drop, List.length_append, List.length_cons, List.length_nil, List.length_map, List.length_range, List.length_replicate]; omega)) [-sSeq_r, -sRet_r, -sDrop_r, -sSet_r, -sIf_r, -sPar_r, -sAsg_r, -sSetIx_r, -sFor_r, -gsCons_r, -gT_r, -e1_r, -e2_r, -tV_r, -tAndM_r, -tOrM_r, -tNotM_r, -eAnd_r, -eOr_r, -eNot_r, -eIf_r, -aCons_r, -eN_r, -fCall_r, -eCallK_r, -eM_r, -eSl_r, -oSome_r, -eIsN_r, -eLc_r, -iSeq_r, -iRng_r, all_bools]
          simpa [h1, h2] using fin
      · have i2 : ¬ (l.length : Int) ≤ 8 := by omega
        simp -implicitDefEqProofs (disch := first | (with_reducible assumption) | ((with_reducible show List.length _ = _); rfl) | (simp only [allD_cons, allD_nil, Option.map_some, Option.isSome_some]; done) | (simp only [List.length_cons, List.length_nil, List.length_map]; done) | ((with_reducible refine cMod_of ?_); omega) | ((with_reducible refine cDiv_of ?_ ?_) <;> omega) | ((with_reducible refine okR_of ?_ ?_) <;> omega) | omega | (simp only [List.length_take, List.length_drop, List.length_append, List.length_cons, List.length_nil, List.length_map, List.length_range, List.length_replicate]; omega)) [-sSeq_r, -sRet_r, -sDrop_r, -sSet_r, -sIf_r, -sPar_r, -sAsg_r, -sSetIx_r, -sFor_r, -gsCons_r, -gT_r, -e1_r, -e2_r, -tV_r, -tAndM_r, -tOrM_r, -tNotM_r, -eAnd_r, -eOr_r, -eNot_r, -eIf_r, -aCons_r, -eN_r, -fCall_r, -eCallK_r, -eM_r, -eSl_r, -oSome_r, -eIsN_r, -eLc_r, -iSeq_r, -iRng_r, dIsi_s, isS_s, i1, i2]
        simpa [h1, h2] using fin
    · have i1 : ¬ (1 : Int) ≤ (l.length : Int) := by omega
      simp -implicitDefEqProofs (disch := first | (with_reducible assumption) | ((with_reducible show List.length _ = _); rfl) | (simp only [allD_cons, allD_nil, Option.map_some, Option.isSome_some]; done) | (simp only [List.length_cons, List.length_nil, List.length_map]; done) | ((with_reducible refine cMod_of ?_); omega) | ((with_reducible refine cDiv_of ?_ ?_) <;> omega) | ((with_reducible refine okR_of ?_ ?_) <;> omega) | omega | (simp only [List.length_take, List.length_drop, List.length_append, List.length_cons, List.length_nil, List.length_map, List.length_range, List.length_replicate]; omega)) [-sSeq_r, -sRet_r, -sDrop_r, -sSet_r, -sIf_r, -sPar_r, -sAsg_r, -sSetIx_r, -sFor_r, -gsCons_r, -gT_r, -e1_r, -e2_r, -tV_r, -tAndM_r, -tOrM_r, -tNotM_r, -eAnd_r, -eOr_r, -eNot_r, -eIf_r, -aCons_r, -eN_r, -fCall_r, -eCallK_r, -eM_r, -eSl_r, -oSome_r, -eIsN_r, -eLc_r, -iSeq_r, -iRng_r, dIsi_s, isS_s, i1]
      simpa [h1] using fin
  · have hs : isS d = false := by simpa using hs
    simp -implicitDefEqProofs (disch := first | (with_reducible assumption) | ((with_reducible show List.length _ = _); rfl) | (simp only [allD_cons, allD_nil, Option.map_some, Option.isSome_some]; done) | (simp only [List.length_cons, List.length_nil, List.length_map]; done) | ((with_reducible refine cMod_of ?_); omega) | ((with_reducible refine cDiv_of ?_ ?_) <;> omega) | ((with_reducible refine okR_of ?_ ?_) <;> omega) | omega | (simp only [List.length_take, List.length_drop, List.length_append, List.length_cons, List.length_nil, List.length_map, List.length_range, List.length_replicate]; omega)) [-sSeq_r, -sRet_r, -sDrop_r, -sSet_r, -sIf_r, -sPar_r, -sAsg_r, -sSetIx_r, -sFor_r, -gsCons_r, -gT_r, -e1_r, -e2_r, -tV_r, -tAndM_r, -tOrM_r, -tNotM_r, -eAnd_r, -eOr_r, -eNot_r, -eIf_r, -aCons_r, -eN_r, -fCall_r, -eCallK_r, -eM_r, -eSl_r, -oSome_r, -eIsN_r, -eLc_r, -iSeq_r, -iRng_r, dIsi_s, hs]
    have : nameB d = false := by cases d <;> first | rfl | cases hs
    rw [this] at fin
    exact fin
theorem lt1 {a b : Nat} : decide (([a] : List Nat) < [b]) = decide (a < b) := by
  rw [decide_eq_decide]
  simp [List.cons_lt_cons_iff]
theorem c1_word {c : Nat} {x y : Option Dv} {μ : Store} : c1_l_is_word ((wipeD [x, y] [1]).set 1 (some (.d (.str (T [c]))))) μ = .ok (.d (.bool (low c))) μ := by
  have e : eChain dLe dLe (eC (.d (.str "a"))) (eVar 1) (eC (.d (.str "z"))) ((wipeD [x, y] [1]).set 1 (some (.d (.str (T [c]))))) μ = (if (!decide (([c] : List Nat) < [97])) = true then Out.ok (Dv.d (.bool (!decide (([122] : List Nat) < [c])))) μ else .ok (.d (.bool false)) μ) := by
    rw [S_17, S_36]
    rfl
  unfold c1_l_is_word
  rw [e, lt1, lt1]
  unfold low
  by_cases h1 : c < 97
  · have : ¬ (97 ≤ c ∧ c ≤ 122) := by omega
    simp [h1, this]
  · by_cases h2 : 122 < c
    · have : ¬ (97 ≤ c ∧ c ≤ 122) := by omega
      simp [h1, h2, this]
    · have : 97 ≤ c ∧ c ≤ 122 := by omega
      simp [h1, h2, this]
theorem w_l_is_word {d : D} (hd : ∀ z, d = .str z → z.length ≤ 16000000) (fin : P (.d (.bool (nameB d))) μ) : Wp (F_l_is_word [.d d] μ) P := by
  unfold F_l_is_word B_l_is_word
  apply Wp_run
  by_cases hs : isS d = true
  · obtain ⟨l, rfl⟩ := isS_iff hs
    have hl : l.length ≤ 16000000 := by have := hd _ rfl; rwa [T_len] at this
    have fin : P (.d (.bool (nm l))) μ := fin
    unfold nm at fin
    by_cases h1 : 1 ≤ l.length
    · have i1 : 0 < l.length := by omega
      by_cases h2 : l.length ≤ 8
      · have i2 : (l.length : Int) < 9 := by omega
        simp -implicitDefEqProofs (disch := first | (with_reducible assumption) | ((with_reducible show List.length _ = _); rfl) | (simp only [allD_cons, allD_nil, Option.map_some, Option.isSome_some]; done) | (simp only [List.length_cons, List.length_nil, List.length_map]; done) | ((with_reducible refine cMod_of ?_); omega) | ((with_reducible refine cDiv_of ?_ ?_) <;> omega) | ((with_reducible refine okR_of ?_ ?_) <;> omega) | omega | (simp only [List.length_take, List.length_drop, List.length_append, List.length_cons, List.length_nil, List.length_map, List.length_range, List.length_replicate]; omega)) [-sSeq_r, -sRet_r, -sDrop_r, -sSet_r, -sIf_r, -sPar_r, -sAsg_r, -sSetIx_r, -sFor_r, -gsCons_r, -gT_r, -e1_r, -e2_r, -tV_r, -tAndM_r, -tOrM_r, -tNotM_r, -eAnd_r, -eOr_r, -eNot_r, -eIf_r, -aCons_r, -eN_r, -fCall_r, -eCallK_r, -eM_r, -eSl_r, -oSome_r, -eIsN_r, -eLc_r, -iSeq_r, -iRng_r, dIsi_s, isS_s, i1, i2]
        refine Wp_eq (lcF_signs (f := fun c => .bool (low c)) hl fun c hc => ?_) ?_
        · exact c1_word
        · simp -implicitDefEqProofs (disch := first | (with_reducible assumption) | ((with_reducible show List.length _ = _); rfl) | (simp only [allD_cons, allD_nil, Option.map_some, Option.isSome_some]; done) | (simp only [List.length_cons, List.length_nil, List.length_map]; done) | ((with_reducible refine cMod_of ?_); omega) | ((with_reducible refine cDiv_of ?_ ?_) <;> omega) | ((with_reducible refine okR_of ?_ ?_) <;> omega) | omega | (simp only [List.length_take, List.length_drop, List.length_append, List.length_cons, List.length_nil, List.length_map, List.length_range, List.length_replicate]; omega)) [-sSeq_r, -sRet_r, -sDrop_r, -sSet_r, -sIf_r, -sPar_r, -sAsg_r, -sSetIx_r, -sFor_r, -gsCons_r, -gT_r, -e1_r, -e2_r, -tV_r, -tAndM_r, -tOrM_r, -tNotM_r, -eAnd_r, -eOr_r, -eNot_r, -eIf_r, -aCons_r, -eN_r, -fCall_r, -eCallK_r, -eM_r, -eSl_r, -oSome_r, -eIsN_r, -eLc_r, -iSeq_r, -iRng_r, all_bools]
          simpa [h1, h2] using fin
      · have i2 : ¬ (l.length : Int) < 9 := by omega
        simp -implicitDefEqProofs (disch := first | (with_reducible assumption) | ((with_reducible show List.length _ = _); rfl) | (simp only [allD_cons, allD_nil, Option.map_some, Option.isSome_some]; done) | (simp only [List.length_cons, List.length_nil, List.length_map]; done) | ((with_reducible refine cMod_of ?_); omega) | ((with_reducible refine cDiv_of ?_ ?_) <;> omega) | ((with_reducible refine okR_of ?_ ?_) <;> omega) | omega | (simp only [List.length_take, List.length_drop, List.length_append, List.length_cons, List.length_nil, List.length_map, List.length_range, List.length_replicate]; omega)) [-sSeq_r, -sRet_r, -sDrop_r, -sSet_r, -sIf_r, -sPar_r, -sAsg_r, -sSetIx_r, -sFor_r, -gsCons_r, -gT_r, -e1_r, -e2_r, -tV_r, -tAndM_r, -tOrM_r, -tNotM_r, -eAnd_r, -eOr_r, -eNot_r, -eIf_r, -aCons_r, -eN_r, -fCall_r, -eCallK_r, -eM_r, -eSl_r, -oSome_r, -eIsN_r, -eLc_r, -iSeq_r, -iRng_r, dIsi_s, isS_s, i1, i2]
        simpa [h1, h2] using fin
    · have i1 : ¬ 0 < l.length := by omega
      simp -implicitDefEqProofs (disch := first | (with_reducible assumption) | ((with_reducible show List.length _ = _); rfl) | (simp only [allD_cons, allD_nil, Option.map_some, Option.isSome_some]; done) | (simp only [List.length_cons, List.length_nil, List.length_map]; done) | ((with_reducible refine cMod_of ?_); omega) | ((with_reducible refine cDiv_of ?_ ?_) <;> omega) | ((with_reducible refine okR_of ?_ ?_) <;> omega) | omega | (simp only [List.length_take, List.length_drop, List.length_append, List.length_cons, List.length_nil, List.length_map, List.length_range, List.length_replicate]; omega)) [-sSeq_r, -sRet_r, -sDrop_r, -sSet_r, -sIf_r, -sPar_r, -sAsg_r, -sSetIx_r, -sFor_r, -gsCons_r, -gT_r, -e1_r, -e2_r, -tV_r, -tAndM_r, -tOrM_r, -tNotM_r, -eAnd_r, -eOr_r, -eNot_r, -eIf_r, -aCons_r, -eN_r, -fCall_r, -eCallK_r, -eM_r, -eSl_r, -oSome_r, -eIsN_r, -eLc_r, -iSeq_r, -iRng_r, dIsi_s, isS_s, i1]
      simpa [h1] using fin
  · have hs : isS d = false := by simpa using hs
    simp -implicitDefEqProofs (disch := first | (with_reducible assumption) | ((with_reducible show List.length _ = _); rfl) | (simp only [allD_cons, allD_nil, Option.map_some, Option.isSome_some]; done) | (simp only [List.length_cons, List.length_nil, List.length_map]; done) | ((with_reducible refine cMod_of ?_); omega) | ((with_reducible refine cDiv_of ?_ ?_) <;> omega) | ((with_reducible refine okR_of ?_ ?_) <;> omega) | omega | (simp only [List.length_take, List.length_drop, List.length_append, List.length_cons, List.length_nil, List.length_map, List.length_range, List.length_replicate]; omega)) [-sSeq_r, -sRet_r, -sDrop_r, -sSet_r, -sIf_r, -sPar_r, -sAsg_r, -sSetIx_r, -sFor_r, -gsCons_r, -gT_r, -e1_r, -e2_r, -tV_r, -tAndM_r, -tOrM_r, -tNotM_r, -eAnd_r, -eOr_r, -eNot_r, -eIf_r, -aCons_r, -eN_r, -fCall_r, -eCallK_r, -eM_r, -eSl_r, -oSome_r, -eIsN_r, -eLc_r, -iSeq_r, -iRng_r, dIsi_s, hs]
    have : nameB d = false := by cases d <;> first | rfl | cases hs
    rw [this] at fin
    exact fin
end
end LW

namespace LW
open PySem PySem.Spec PyProof.Rows L2 DL
def strOf : D → Str
  | .str z => z
  | _ => T []
def colsL (ds : List D) : Bool := decide (1 ≤ ds.length) && (decide (ds.length ≤ 6) && (ds.all nameB && decide ((ds.map strOf).Nodup)))
def colsB : D → Bool
  | .tuple ds => colsL ds
  | _ => false
theorem of_w {o : Out Dv} {μ : Store} {x : Dv} (h : Wp o fun b μ' => b = x ∧ μ' = μ) : o = .ok x μ := by
  obtain ⟨b, μ', e, rfl, rfl⟩ := Wp_of h
  exact e
def Ln (d : D) : Prop := ∀ z, d = .str z → z.length ≤ 16000000
theorem is_name_eq {d : D} {μ : Store} (h : Ln d) : F_is_name [.d d] μ = .ok (.d (.bool (nameB d))) μ := of_w (w_is_name h ⟨rfl, rfl⟩)
theorem is_word_eq {d : D} {μ : Store} (h : Ln d) : F_l_is_word [.d d] μ = .ok (.d (.bool (nameB d))) μ := of_w (w_l_is_word h ⟨rfl, rfl⟩)
theorem is_whole_eq {d : D} {μ : Store} : F_is_whole [.d d] μ = .ok (.d (.bool (isI d))) μ := of_w (w_is_whole ⟨rfl, rfl⟩)
theorem lcF_data {i : Nat} {te : ME} {vs : List Nat} {ρ : DEnv} {ds : List D} {f : D → D} {μ : Store} (hl : ds.length ≤ 16000000) (h : ∀ x ∈ ds, te ((wipeD ρ vs).set i (some (.d x))) μ = .ok (.d (f x)) μ) :
    lcF dList (gN i) tYesM te vs ρ (ds.map .d) μ = .ok (.d (.list (ds.map f))) μ := by
  have hb := line_big
  refine lcF_list ?_ (by rw [List.length_map]; omega) (by rw [List.length_map]; omega)
  have := lcM_map (g := gN i) (te := te) (ρ := wipeD ρ vs) (μ := μ) (f := fun b => match b with | .d x => .d (f x) | b => b) (bs := ds.map .d) (by
    intro b hb
    obtain ⟨c, hc, rfl⟩ := List.mem_map.mp hb
    exact ⟨_, rfl, h c hc⟩)
  rw [this, List.map_map, List.map_map]
  rfl
theorem names_strs : ∀ {ds : List D}, ds.all nameB = true → ds = (ds.map strOf).map .str
  | [], _ => rfl
  | d :: ds, h => by
    rw [List.all_cons, Bool.and_eq_true] at h
    have := names_strs h.2
    rw [List.map_cons, List.map_cons, ← this]
    congr 1
    cases d with
    | str z => rfl
    | _ => cases h.1
theorem keys_strs : ∀ zs : List Str, keysD (zs.map PyData.str) = some (zs.map Sum.inr)
  | [] => rfl
  | z :: zs => by
    rw [List.map_cons, List.map_cons, keysD, keys_strs zs]
    rfl
theorem ddS_len {k : Key} {acc : List Key} : (k ∈ acc → (ddS acc k).length = acc.length) ∧ (k ∉ acc → (ddS acc k).length = acc.length + 1) := by
  have hm : memK k acc = true ↔ k ∈ acc := by
    unfold memK
    rw [List.any_eq_true]
    constructor
    · rintro ⟨j, h1, h2⟩
      have := of_decide_eq_true h2
      first | (rw [← this]; exact h1) | (rw [this]; exact h1)
    · exact fun h => ⟨k, h, decide_eq_true rfl⟩
  unfold ddS
  exact ⟨fun q => by rw [if_pos (hm.mpr q)], fun q => by rw [if_neg (fun z => q (hm.mp z)), List.length_cons]⟩
theorem dd_nodup (ks : List Key) : (ddK ks).length = ks.length ↔ ks.Nodup := by
  have key : ∀ rs : List Key, (ddK rs.reverse).length = rs.reverse.length ↔ rs.reverse.Nodup := by
    intro rs
    induction rs with
    | nil => simp [ddK]
    | cons k rs ih =>
      rw [List.reverse_cons, ddK_snoc, List.length_append]
      obtain ⟨_, f2, f3⟩ := ddK_facts rs.reverse
      rcases Classical.em (k ∈ rs.reverse) with q | q
      · rw [ddS_len.1 ((f2 k).mpr q)]
        constructor
        · intro e
          simp only [List.length_cons, List.length_nil] at e
          omega
        · intro n
          rw [List.nodup_append] at n
          exact absurd rfl (n.2.2 k q k List.mem_cons_self)
      · rw [ddS_len.2 (fun z => q ((f2 k).mp z))]
        rw [List.nodup_append]
        constructor
        · intro e
          refine ⟨ih.mp (by simpa using e), by simp, fun a ha b hb => ?_⟩
          rw [List.mem_singleton] at hb
          intro z
          exact q (by rw [← hb, ← z]; exact ha)
        · intro n
          have := ih.mpr n.1
          simpa using this
  have := key ks.reverse
  rwa [List.reverse_reverse] at this
theorem set_len {zs : List Str} {μ : Store} (h : zs.length ≤ 1000) : dLenSetT (.d (.tuple (zs.map .str))) μ = .ok (.d (.int (ddK (zs.map Sum.inr)).length)) μ := by
  show (match allD ((zs.map PyData.str).map Dv.d) with | some ds => _ | none => _) = _
  rw [allD_map]
  show (match keysD (zs.map PyData.str) with | some ks => (if ks.length ≤ 1000 then Out.ok (Dv.d (.int (ddK ks).length)) μ else .bad) | none => .bad) = _
  rw [keys_strs]
  show (if (zs.map Sum.inr : List Key).length ≤ 1000 then _ else _) = _
  rw [if_pos (by rw [List.length_map]; exact h)]
theorem inr_nodup {zs : List Str} : (zs.map Sum.inr : List Key).Nodup ↔ zs.Nodup := by
  rw [List.nodup_iff_pairwise_ne, List.nodup_iff_pairwise_ne, List.pairwise_map]
  simp
section
variable {μ : Store} {P : Dv → Store → Prop}
theorem w_are_names {d : D} (hd : ∀ ds, d = .tuple ds → ds.length ≤ 16000 ∧ ∀ x ∈ ds, Ln x) (fin : P (.d (.bool (colsB d))) μ) : Wp (F_are_names [.d d, .d (.int 6)] μ) P := by
  unfold F_are_names B_are_names
  apply Wp_run
  by_cases ht : isTup d = true
  · obtain ⟨ds, rfl⟩ : ∃ ds, d = .tuple ds := by cases d <;> first | exact ⟨_, rfl⟩ | cases ht
    obtain ⟨hl, hx⟩ := hd ds rfl
    have fin : P (.d (.bool (colsL ds))) μ := fin
    unfold colsL at fin
    by_cases h1 : 1 ≤ ds.length
    · have i1 : (1 : Int) ≤ (ds.length : Int) := by omega
      by_cases h2 : ds.length ≤ 6
      · have i2 : (ds.length : Int) ≤ 6 := by omega
        simp -implicitDefEqProofs (disch := first | (with_reducible assumption) | ((with_reducible show List.length _ = _); rfl) | (simp only [allD_cons, allD_nil, Option.map_some, Option.isSome_some]; done) | (simp only [List.length_cons, List.length_nil, List.length_map]; done) | ((with_reducible refine cMod_of ?_); omega) | ((with_reducible refine cDiv_of ?_ ?_) <;> omega) | ((with_reducible refine okR_of ?_ ?_) <;> omega) | omega | (simp only [List.length_take, List.length_drop, List.length_append, List.length_cons, List.length_nil, List.length_map, List.length_range, List.length_replicate]; omega)) [-sSeq_r, -sRet_r, -sDrop_r, -sSet_r, -sIf_r, -sPar_r, -sAsg_r, -sSetIx_r, -sFor_r, -gsCons_r, -gT_r, -e1_r, -e2_r, -tV_r, -tAndM_r, -tOrM_r, -tNotM_r, -eAnd_r, -eOr_r, -eNot_r, -eIf_r, -aCons_r, -eN_r, -fCall_r, -eCallK_r, -eM_r, -eSl_r, -oSome_r, -eIsN_r, -eLc_r, -iSeq_r, -iRng_r, dIsi_tup, isTup, i1, i2]
        refine Wp_eq (lcF_data (f := fun x => .bool (nameB x)) (by omega) fun x hxm => ?_) ?_
        · have := is_name_eq (μ := μ) (hx x hxm)
          simp only [c1_are_names, wipeD]
          simp [this]
        · by_cases hn : ds.all nameB = true
          · simp -implicitDefEqProofs (disch := first | (with_reducible assumption) | ((with_reducible show List.length _ = _); rfl) | (simp only [allD_cons, allD_nil, Option.map_some, Option.isSome_some]; done) | (simp only [List.length_cons, List.length_nil, List.length_map]; done) | ((with_reducible refine cMod_of ?_); omega) | ((with_reducible refine cDiv_of ?_ ?_) <;> omega) | ((with_reducible refine okR_of ?_ ?_) <;> omega) | omega | (simp only [List.length_take, List.length_drop, List.length_append, List.length_cons, List.length_nil, List.length_map, List.length_range, List.length_replicate]; omega)) [-sSeq_r, -sRet_r, -sDrop_r, -sSet_r, -sIf_r, -sPar_r, -sAsg_r, -sSetIx_r, -sFor_r, -gsCons_r, -gT_r, -e1_r, -e2_r, -tV_r, -tAndM_r, -tOrM_r, -tNotM_r, -eAnd_r, -eOr_r, -eNot_r, -eIf_r, -aCons_r, -eN_r, -fCall_r, -eCallK_r, -eM_r, -eSl_r, -oSome_r, -eIsN_r, -eLc_r, -iSeq_r, -iRng_r, all_bools, hn, r1_are_names]
            have e := names_strs hn
            rw [hn] at fin
            generalize ds.map strOf = zs at e fin
            subst e
            rw [List.length_map] at h1 h2
            rw [set_len (by omega)]
            simp -implicitDefEqProofs (disch := first | (with_reducible assumption) | ((with_reducible show List.length _ = _); rfl) | (simp only [allD_cons, allD_nil, Option.map_some, Option.isSome_some]; done) | (simp only [List.length_cons, List.length_nil, List.length_map]; done) | ((with_reducible refine cMod_of ?_); omega) | ((with_reducible refine cDiv_of ?_ ?_) <;> omega) | ((with_reducible refine okR_of ?_ ?_) <;> omega) | omega | (simp only [List.length_take, List.length_drop, List.length_append, List.length_cons, List.length_nil, List.length_map, List.length_range, List.length_replicate]; omega)) [-sSeq_r, -sRet_r, -sDrop_r, -sSet_r, -sIf_r, -sPar_r, -sAsg_r, -sSetIx_r, -sFor_r, -gsCons_r, -gT_r, -e1_r, -e2_r, -tV_r, -tAndM_r, -tOrM_r, -tNotM_r, -eAnd_r, -eOr_r, -eNot_r, -eIf_r, -aCons_r, -eN_r, -fCall_r, -eCallK_r, -eM_r, -eSl_r, -oSome_r, -eIsN_r, -eLc_r, -iSeq_r, -iRng_r, ]
            have : decide (((ddK (zs.map Sum.inr)).length : Int) = (zs.length : Int)) = decide zs.Nodup := by
              rw [decide_eq_decide, ← inr_nodup, ← dd_nodup, List.length_map]
              constructor <;> intro h <;> omega
            simp only [List.length_map, h1, h2, decide_true, Bool.true_and] at fin
            rw [← this] at fin
            simpa using fin
          · have hn : ds.all nameB = false := by simpa using hn
            simp -implicitDefEqProofs (disch := first | (with_reducible assumption) | ((with_reducible show List.length _ = _); rfl) | (simp only [allD_cons, allD_nil, Option.map_some, Option.isSome_some]; done) | (simp only [List.length_cons, List.length_nil, List.length_map]; done) | ((with_reducible refine cMod_of ?_); omega) | ((with_reducible refine cDiv_of ?_ ?_) <;> omega) | ((with_reducible refine okR_of ?_ ?_) <;> omega) | omega | (simp only [List.length_take, List.length_drop, List.length_append, List.length_cons, List.length_nil, List.length_map, List.length_range, List.length_replicate]; omega)) [-sSeq_r, -sRet_r, -sDrop_r, -sSet_r, -sIf_r, -sPar_r, -sAsg_r, -sSetIx_r, -sFor_r, -gsCons_r, -gT_r, -e1_r, -e2_r, -tV_r, -tAndM_r, -tOrM_r, -tNotM_r, -eAnd_r, -eOr_r, -eNot_r, -eIf_r, -aCons_r, -eN_r, -fCall_r, -eCallK_r, -eM_r, -eSl_r, -oSome_r, -eIsN_r, -eLc_r, -iSeq_r, -iRng_r, all_bools, hn]
            simpa [h1, h2, hn] using fin
      · have i2 : ¬ (ds.length : Int) ≤ 6 := by omega
        simp -implicitDefEqProofs (disch := first | (with_reducible assumption) | ((with_reducible show List.length _ = _); rfl) | (simp only [allD_cons, allD_nil, Option.map_some, Option.isSome_some]; done) | (simp only [List.length_cons, List.length_nil, List.length_map]; done) | ((with_reducible refine cMod_of ?_); omega) | ((with_reducible refine cDiv_of ?_ ?_) <;> omega) | ((with_reducible refine okR_of ?_ ?_) <;> omega) | omega | (simp only [List.length_take, List.length_drop, List.length_append, List.length_cons, List.length_nil, List.length_map, List.length_range, List.length_replicate]; omega)) [-sSeq_r, -sRet_r, -sDrop_r, -sSet_r, -sIf_r, -sPar_r, -sAsg_r, -sSetIx_r, -sFor_r, -gsCons_r, -gT_r, -e1_r, -e2_r, -tV_r, -tAndM_r, -tOrM_r, -tNotM_r, -eAnd_r, -eOr_r, -eNot_r, -eIf_r, -aCons_r, -eN_r, -fCall_r, -eCallK_r, -eM_r, -eSl_r, -oSome_r, -eIsN_r, -eLc_r, -iSeq_r, -iRng_r, dIsi_tup, isTup, i1, i2]
        simpa [h1, h2] using fin
    · have i1 : ¬ (1 : Int) ≤ (ds.length : Int) := by omega
      simp -implicitDefEqProofs (disch := first | (with_reducible assumption) | ((with_reducible show List.length _ = _); rfl) | (simp only [allD_cons, allD_nil, Option.map_some, Option.isSome_some]; done) | (simp only [List.length_cons, List.length_nil, List.length_map]; done) | ((with_reducible refine cMod_of ?_); omega) | ((with_reducible refine cDiv_of ?_ ?_) <;> omega) | ((with_reducible refine okR_of ?_ ?_) <;> omega) | omega | (simp only [List.length_take, List.length_drop, List.length_append, List.length_cons, List.length_nil, List.length_map, List.length_range, List.length_replicate]; omega)) [-sSeq_r, -sRet_r, -sDrop_r, -sSet_r, -sIf_r, -sPar_r, -sAsg_r, -sSetIx_r, -sFor_r, -gsCons_r, -gT_r, -e1_r, -e2_r, -tV_r, -tAndM_r, -tOrM_r, -tNotM_r, -eAnd_r, -eOr_r, -eNot_r, -eIf_r, -aCons_r, -eN_r, -fCall_r, -eCallK_r, -eM_r, -eSl_r, -oSome_r, -eIsN_r, -eLc_r, -iSeq_r, -iRng_r, dIsi_tup, isTup, i1]
      simpa [h1] using fin
  · have ht : isTup d = false := by simpa using ht
    simp -implicitDefEqProofs (disch := first | (with_reducible assumption) | ((with_reducible show List.length _ = _); rfl) | (simp only [allD_cons, allD_nil, Option.map_some, Option.isSome_some]; done) | (simp only [List.length_cons, List.length_nil, List.length_map]; done) | ((with_reducible refine cMod_of ?_); omega) | ((with_reducible refine cDiv_of ?_ ?_) <;> omega) | ((with_reducible refine okR_of ?_ ?_) <;> omega) | omega | (simp only [List.length_take, List.length_drop, List.length_append, List.length_cons, List.length_nil, List.length_map, List.length_range, List.length_replicate]; omega)) [-sSeq_r, -sRet_r, -sDrop_r, -sSet_r, -sIf_r, -sPar_r, -sAsg_r, -sSetIx_r, -sFor_r, -gsCons_r, -gT_r, -e1_r, -e2_r, -tV_r, -tAndM_r, -tOrM_r, -tNotM_r, -eAnd_r, -eOr_r, -eNot_r, -eIf_r, -aCons_r, -eN_r, -fCall_r, -eCallK_r, -eM_r, -eSl_r, -oSome_r, -eIsN_r, -eLc_r, -iSeq_r, -iRng_r, dIsi_tup, ht]
    have : colsB d = false := by cases d <;> first | rfl | cases ht
    rw [this] at fin
    exact fin
end
end LW

namespace LW
open PySem PySem.Spec PyProof.Rows L2 DL
theorem str_eqv {a b : Str} : PyData.eqv (.str a) (.str b) = decide (a = b) := by
  simp only [PyData.eqv]
  by_cases h : a = b
  · subst h; simp
  · simp [h]
theorem allStr_map : ∀ zs : List Str, allStr (zs.map .str) = true
  | [] => rfl
  | z :: zs => allStr_map zs
theorem count_zs (z : Str) : ∀ zs : List Str, ((zs.map PyData.str).countP fun y => PyData.eqv y (.str z)) = zs.countP fun a => decide (a = z)
  | [] => rfl
  | a :: zs => by
    rw [List.map_cons, List.countP_cons, List.countP_cons, count_zs z zs, str_eqv]
theorem eCnt_r {ρ : DEnv} {zs : List Str} {z : Str} {i j : Nat} {μ : Store} (h1 : ρ[i]? = some (some (.d (.tuple (zs.map .str))))) (h2 : ρ[j]? = some (some (.d (.str z)))) : eCnt (eVar i) (eVar j) ρ μ = .ok (.d (.int (zs.countP fun a => decide (a = z) : Nat))) μ := by
  have e1 : eVar i ρ μ = .ok (.d (.tuple (zs.map .str))) μ := by unfold eVar; rw [h1]
  have e2 : eVar j ρ μ = .ok (.d (.str z)) μ := by unfold eVar; rw [h2]
  unfold eCnt
  rw [e1, bind_ok]
  unfold cntB
  show Out.bind (eVar j ρ μ) _ = _
  rw [e2, bind_ok]
  show (if allStr (zs.map PyData.str) = true then _ else _) = _
  rw [if_pos (allStr_map zs), count_zs]
def cntF (zs : List Str) : D → Bool
  | .str z => decide (((zs.countP fun a => decide (a = z) : Nat) : Int) = 1)
  | _ => true
theorem nodup_count {zs : List Str} : (zs.all fun z => decide (((zs.countP fun a => decide (a = z) : Nat) : Int) = 1)) = decide zs.Nodup := by
  have ec : ∀ z, (zs.countP fun a => decide (a = z)) = zs.countP (fun a => decide (a = z)) := fun z => rfl
  have hc : ∀ z, (zs.countP fun a => decide (a = z)) ≤ 1 ↔ (zs.countP fun a => decide (a = z)) ≤ 1 := fun z => Iff.rfl
  have key : zs.Nodup ↔ ∀ z, (zs.countP fun a => decide (a = z)) ≤ 1 := by
    clear ec hc
    induction zs with
    | nil => simp
    | cons a zs ih =>
      rw [List.nodup_cons, ih]
      have z0 : ∀ z, (zs.countP fun b => decide (b = z)) = 0 ↔ z ∉ zs := fun z => by
        rw [List.countP_eq_zero]
        constructor
        · intro h q; have := h z q; simp at this
        · intro h b hb; simp; rintro rfl; exact h hb
      constructor
      · rintro ⟨h1, h2⟩ z
        rw [List.countP_cons]
        by_cases q : a = z
        · subst q
          rw [(z0 a).mpr h1]
          simp
        · have := h2 z
          simp [q, this]
      · intro h
        refine ⟨?_, fun z => ?_⟩
        · have := h a
          rw [List.countP_cons] at this
          simp only [decide_true, if_true] at this
          exact (z0 a).mp (by omega)
        · have := h z
          rw [List.countP_cons] at this
          omega
  have mem1 : ∀ z ∈ zs, 1 ≤ (zs.countP fun a => decide (a = z)) := fun z hz => by
    have := List.countP_pos_iff (p := fun a => decide (a = z)) (l := zs)
    exact this.mpr ⟨z, hz, by simp⟩
  have mem0 : ∀ z, z ∉ zs → (zs.countP fun a => decide (a = z)) = 0 := fun z hz => by
    rw [List.countP_eq_zero]
    intro b hb
    simp
    rintro rfl
    exact hz hb
  rw [Bool.eq_iff_iff, List.all_eq_true, decide_eq_true_iff, key]
  constructor
  · intro h z
    rcases Classical.em (z ∈ zs) with q | q
    · have := of_decide_eq_true (h z q)
      omega
    · rw [mem0 z q]; decide
  · intro h z hz
    have a1 := h z
    have a2 := mem1 z hz
    apply decide_eq_true
    omega
section
variable {μ : Store} {P : Dv → Store → Prop}
theorem w_l_are_cols {d : D} (hd : ∀ ds, d = .tuple ds → ds.length ≤ 16000 ∧ ∀ x ∈ ds, Ln x) (fin : P (.d (.bool (colsB d))) μ) : Wp (F_l_are_cols [.d d] μ) P := by
  unfold F_l_are_cols B_l_are_cols
  apply Wp_run
  by_cases ht : isTup d = true
  · obtain ⟨ds, rfl⟩ : ∃ ds, d = .tuple ds := by cases d <;> first | exact ⟨_, rfl⟩ | cases ht
    obtain ⟨hl, hx⟩ := hd ds rfl
    have fin : P (.d (.bool (colsL ds))) μ := fin
    unfold colsL at fin
    by_cases h1 : 1 ≤ ds.length
    · have i1 : 0 < ds.length := by omega
      by_cases h2 : ds.length ≤ 6
      · have i2 : (ds.length : Int) < 7 := by omega
        simp -implicitDefEqProofs (disch := first | (with_reducible assumption) | ((with_reducible show List.length _ = _); rfl) | (simp only [allD_cons, allD_nil, Option.map_some, Option.isSome_some]; done) | (simp only [List.length_cons, List.length_nil, List.length_map]; done) | ((with_reducible refine cMod_of ?_); omega) | ((with_reducible refine cDiv_of ?_ ?_) <;> omega) | ((with_reducible refine okR_of ?_ ?_) <;> omega) | omega | (simp only [List.length_take, List.length_drop, List.length_append, List.length_cons, List.length_nil, List.length_map, List.length_range, List.length_replicate]; omega)) [-sSeq_r, -sRet_r, -sDrop_r, -sSet_r, -sIf_r, -sPar_r, -sAsg_r, -sSetIx_r, -sFor_r, -gsCons_r, -gT_r, -e1_r, -e2_r, -tV_r, -tAndM_r, -tOrM_r, -tNotM_r, -eAnd_r, -eOr_r, -eNot_r, -eIf_r, -aCons_r, -eN_r, -fCall_r, -eCallK_r, -eM_r, -eSl_r, -oSome_r, -eIsN_r, -eLc_r, -iSeq_r, -iRng_r, dIsi_tup, isTup, i1, i2]
        refine Wp_eq (lcF_data (f := fun x => .bool (nameB x)) (by omega) fun x hxm => ?_) ?_
        · have := is_word_eq (μ := μ) (hx x hxm)
          simp only [c1_l_are_cols, wipeD]
          simp [this]
        · by_cases hn : ds.all nameB = true
          · simp -implicitDefEqProofs (disch := first | (with_reducible assumption) | ((with_reducible show List.length _ = _); rfl) | (simp only [allD_cons, allD_nil, Option.map_some, Option.isSome_some]; done) | (simp only [List.length_cons, List.length_nil, List.length_map]; done) | ((with_reducible refine cMod_of ?_); omega) | ((with_reducible refine cDiv_of ?_ ?_) <;> omega) | ((with_reducible refine okR_of ?_ ?_) <;> omega) | omega | (simp only [List.length_take, List.length_drop, List.length_append, List.length_cons, List.length_nil, List.length_map, List.length_range, List.length_replicate]; omega)) [-sSeq_r, -sRet_r, -sDrop_r, -sSet_r, -sIf_r, -sPar_r, -sAsg_r, -sSetIx_r, -sFor_r, -gsCons_r, -gT_r, -e1_r, -e2_r, -tV_r, -tAndM_r, -tOrM_r, -tNotM_r, -eAnd_r, -eOr_r, -eNot_r, -eIf_r, -aCons_r, -eN_r, -fCall_r, -eCallK_r, -eM_r, -eSl_r, -oSome_r, -eIsN_r, -eLc_r, -iSeq_r, -iRng_r, all_bools, hn, r1_l_are_cols]
            have e := names_strs hn
            rw [hn] at fin
            generalize ds.map strOf = zs at e fin
            subst e
            rw [List.length_map] at h1 h2
            refine Wp_eq (lcF_data (f := fun x => .bool (cntF zs x)) (by rw [List.length_map]; omega) fun x hxm => ?_) ?_
            · obtain ⟨z, _, rfl⟩ := List.mem_map.mp hxm
              have := eCnt_r (ρ := (wipeD [some (.d (.tuple (zs.map PyData.str))), none] [1]).set 1 (some (.d (.str z)))) (zs := zs) (z := z) (i := 0) (j := 1) (μ := μ) rfl rfl
              unfold c2_l_are_cols
              rw [e2_r, this]
              simp [cntF]
            · simp -implicitDefEqProofs (disch := first | (with_reducible assumption) | ((with_reducible show List.length _ = _); rfl) | (simp only [allD_cons, allD_nil, Option.map_some, Option.isSome_some]; done) | (simp only [List.length_cons, List.length_nil, List.length_map]; done) | ((with_reducible refine cMod_of ?_); omega) | ((with_reducible refine cDiv_of ?_ ?_) <;> omega) | ((with_reducible refine okR_of ?_ ?_) <;> omega) | omega | (simp only [List.length_take, List.length_drop, List.length_append, List.length_cons, List.length_nil, List.length_map, List.length_range, List.length_replicate]; omega)) [-sSeq_r, -sRet_r, -sDrop_r, -sSet_r, -sIf_r, -sPar_r, -sAsg_r, -sSetIx_r, -sFor_r, -gsCons_r, -gT_r, -e1_r, -e2_r, -tV_r, -tAndM_r, -tOrM_r, -tNotM_r, -eAnd_r, -eOr_r, -eNot_r, -eIf_r, -aCons_r, -eN_r, -fCall_r, -eCallK_r, -eM_r, -eSl_r, -oSome_r, -eIsN_r, -eLc_r, -iSeq_r, -iRng_r, -List.map_map, all_bools]
              have e : ((zs.map PyData.str).all (cntF zs)) = zs.all fun z => decide (((zs.countP fun a => decide (a = z) : Nat) : Int) = 1) := by
                rw [List.all_map]; rfl
              simp only [List.length_map, h1, h2, decide_true, Bool.true_and] at fin
              rw [← nodup_count, ← e] at fin
              simpa using fin
          · have hn : ds.all nameB = false := by simpa using hn
            simp -implicitDefEqProofs (disch := first | (with_reducible assumption) | ((with_reducible show List.length _ = _); rfl) | (simp only [allD_cons, allD_nil, Option.map_some, Option.isSome_some]; done) | (simp only [List.length_cons, List.length_nil, List.length_map]; done) | ((with_reducible refine cMod_of ?_); omega) | ((with_reducible refine cDiv_of ?_ ?_) <;> omega) | ((with_reducible refine okR_of ?_ ?_) <;> omega) | omega | (simp only [List.length_take, List.length_drop, List.length_append, List.length_cons, List.length_nil, List.length_map, List.length_range, List.length_replicate]; omega)) [-sSeq_r, -sRet_r, -sDrop_r, -sSet_r, -sIf_r, -sPar_r, -sAsg_r, -sSetIx_r, -sFor_r, -gsCons_r, -gT_r, -e1_r, -e2_r, -tV_r, -tAndM_r, -tOrM_r, -tNotM_r, -eAnd_r, -eOr_r, -eNot_r, -eIf_r, -aCons_r, -eN_r, -fCall_r, -eCallK_r, -eM_r, -eSl_r, -oSome_r, -eIsN_r, -eLc_r, -iSeq_r, -iRng_r, all_bools, hn]
            simpa [h1, h2, hn] using fin
      · have i2 : ¬ (ds.length : Int) < 7 := by omega
        simp -implicitDefEqProofs (disch := first | (with_reducible assumption) | ((with_reducible show List.length _ = _); rfl) | (simp only [allD_cons, allD_nil, Option.map_some, Option.isSome_some]; done) | (simp only [List.length_cons, List.length_nil, List.length_map]; done) | ((with_reducible refine cMod_of ?_); omega) | ((with_reducible refine cDiv_of ?_ ?_) <;> omega) | ((with_reducible refine okR_of ?_ ?_) <;> omega) | omega | (simp only [List.length_take, List.length_drop, List.length_append, List.length_cons, List.length_nil, List.length_map, List.length_range, List.length_replicate]; omega)) [-sSeq_r, -sRet_r, -sDrop_r, -sSet_r, -sIf_r, -sPar_r, -sAsg_r, -sSetIx_r, -sFor_r, -gsCons_r, -gT_r, -e1_r, -e2_r, -tV_r, -tAndM_r, -tOrM_r, -tNotM_r, -eAnd_r, -eOr_r, -eNot_r, -eIf_r, -aCons_r, -eN_r, -fCall_r, -eCallK_r, -eM_r, -eSl_r, -oSome_r, -eIsN_r, -eLc_r, -iSeq_r, -iRng_r, dIsi_tup, isTup, i1, i2]
        simpa [h1, h2] using fin
    · have i1 : ¬ 0 < ds.length := by omega
      simp -implicitDefEqProofs (disch := first | (with_reducible assumption) | ((with_reducible show List.length _ = _); rfl) | (simp only [allD_cons, allD_nil, Option.map_some, Option.isSome_some]; done) | (simp only [List.length_cons, List.length_nil, List.length_map]; done) | ((with_reducible refine cMod_of ?_); omega) | ((with_reducible refine cDiv_of ?_ ?_) <;> omega) | ((with_reducible refine okR_of ?_ ?_) <;> omega) | omega | (simp only [List.length_take, List.length_drop, List.length_append, List.length_cons, List.length_nil, List.length_map, List.length_range, List.length_replicate]; omega)) [-sSeq_r, -sRet_r, -sDrop_r, -sSet_r, -sIf_r, -sPar_r, -sAsg_r, -sSetIx_r, -sFor_r, -gsCons_r, -gT_r, -e1_r, -e2_r, -tV_r, -tAndM_r, -tOrM_r, -tNotM_r, -eAnd_r, -eOr_r, -eNot_r, -eIf_r, -aCons_r, -eN_r, -fCall_r, -eCallK_r, -eM_r, -eSl_r, -oSome_r, -eIsN_r, -eLc_r, -iSeq_r, -iRng_r, dIsi_tup, isTup, i1]
      simpa [h1] using fin
  · have ht : isTup d = false := by simpa using ht
    simp -implicitDefEqProofs (disch := first | (with_reducible assumption) | ((with_reducible show List.length _ = _); rfl) | (simp only [allD_cons, allD_nil, Option.map_some, Option.isSome_some]; done) | (simp only [List.length_cons, List.length_nil, List.length_map]; done) | ((with_reducible refine cMod_of ?_); omega) | ((with_reducible refine cDiv_of ?_ ?_) <;> omega) | ((with_reducible refine okR_of ?_ ?_) <;> omega) | omega | (simp only [List.length_take, List.length_drop, List.length_append, List.length_cons, List.length_nil, List.length_map, List.length_range, List.length_replicate]; omega)) [-sSeq_r, -sRet_r, -sDrop_r, -sSet_r, -sIf_r, -sPar_r, -sAsg_r, -sSetIx_r, -sFor_r, -gsCons_r, -gT_r, -e1_r, -e2_r, -tV_r, -tAndM_r, -tOrM_r, -tNotM_r, -eAnd_r, -eOr_r, -eNot_r, -eIf_r, -aCons_r, -eN_r, -fCall_r, -eCallK_r, -eM_r, -eSl_r, -oSome_r, -eIsN_r, -eLc_r, -iSeq_r, -iRng_r, dIsi_tup, ht]
    have : colsB d = false := by cases d <;> first | rfl | cases ht
    rw [this] at fin
    exact fin
end
end LW

namespace LW
open PySem PySem.Spec PyProof.Rows L2 DL
def inS (zs : List Str) : D → Bool
  | .str z => decide (z ∈ zs)
  | _ => false
def wB : D → Bool
  | .int k => decide (1 ≤ k) && decide (k ≤ 20)
  | _ => false
def tupL : D → List D
  | .tuple ds => ds
  | _ => []
def widthsB (n : Nat) : D → Bool
  | .tuple ws => decide (ws.length = n) && ws.all wB
  | _ => false
def sg4 : List Str := [T [44], T [59], T [124], T [58]]
def sg3 : List Str := [T [44], T [59], T [124]]
def qts : List Str := [T [34], T [39]]
def sh4 (x a b c : D) : Bool := inS [T [115, 105, 103, 110, 115]] x && (colsB c && (inS sg4 a && inS qts b))
def sh3 (x a c : D) : Bool := colsB c && (if inS [T [110, 97, 109, 101, 100]] x = true then inS sg3 a else (inS [T [112, 108, 97, 99, 101, 115]] x && widthsB (tupL c).length a))
def isSh : D → Bool
  | .tuple [x, a, c] => sh3 x a c
  | .tuple [x, a, b, c] => sh4 x a b c
  | _ => false
theorem dInX_r {a : D} {y : Dv} {μ : Store} : dInX (.d a) y μ = (if bigD a = true then (match itemsA y μ with | some bs => (match allDD bs with | some ds => if allStr ds = true then Out.ok (Dv.d (.bool false)) μ else .bad | none => .bad) | none => .bad) else dIn false (.d a) y μ) := by
  unfold dInX
  rfl
theorem dInX_strs {d : D} {zs : List Str} {μ : Store} (h : okD d = true) : dInX (.d d) (.d (.tuple (zs.map .str))) μ = .ok (.d (.bool (inS zs d))) μ := by
  have big : bigD d = true → dInX (.d d) (.d (.tuple (zs.map .str))) μ = .ok (.d (.bool false)) μ := fun hb => by
    have e : allDD ((zs.map PyData.str).map Dv.d) = some (zs.map .str) := by
      have : ∀ ds : List D, allDD (ds.map Dv.d) = some ds := fun ds => by
        induction ds with
        | nil => rfl
        | cons d ds ih => rw [List.map_cons, allDD, ih]
      exact this _
    rw [dInX_r, if_pos hb]
    show (match allDD ((zs.map PyData.str).map Dv.d) with | some ds => (if allStr ds = true then Out.ok (Dv.d (PyData.bool false)) μ else .bad) | none => .bad) = _
    rw [e]
    show (if allStr (zs.map PyData.str) = true then _ else _) = _
    rw [if_pos (allStr_map zs)]
  have flat : ∀ x : D, bigD x = false → flatD x = true → (∀ z : Str, PyData.eqv (.str z) x = false) → dInX (.d x) (.d (.tuple (zs.map .str))) μ = .ok (.d (.bool false)) μ := fun x h1 h2 h3 => by
    rw [dInX_r, if_neg (by rw [h1]; decide)]
    have e : allFlat ((zs.map PyData.str).map Dv.d) = some (zs.map PyData.str) := allFlat_map fun d hd => by
      obtain ⟨z, _, rfl⟩ := List.mem_map.mp hd
      rfl
    have e2 : ((zs.map PyData.str).any fun y => PyData.eqv y x) = false := by
      rw [List.any_eq_false]
      intro y hy
      obtain ⟨z, _, rfl⟩ := List.mem_map.mp hy
      rw [h3 z]
      decide
    cases x with
    | str z => have := h3 z; rw [str_eqv] at this; simp at this
    | none =>
      show (match allFlat ((zs.map PyData.str).map Dv.d) with | some (ds : List D) => (if flatD .none = true then Out.ok (Dv.d (PyData.bool (if false then !(ds.any fun y => PyData.eqv y .none) else ds.any fun y => PyData.eqv y .none))) μ else Out.bad) | none => Out.bad) = _
      rw [e]
      show (if flatD .none = true then _ else _) = _
      rw [if_pos h2, e2]
      rfl
    | bool b =>
      show (match allFlat ((zs.map PyData.str).map Dv.d) with | some (ds : List D) => (if flatD (.bool b) = true then Out.ok (Dv.d (PyData.bool (if false then !(ds.any fun y => PyData.eqv y (.bool b)) else ds.any fun y => PyData.eqv y (.bool b)))) μ else Out.bad) | none => Out.bad) = _
      rw [e]
      show (if flatD (.bool b) = true then _ else _) = _
      rw [if_pos h2, e2]
      rfl
    | int b =>
      show (match allFlat ((zs.map PyData.str).map Dv.d) with | some (ds : List D) => (if flatD (.int b) = true then Out.ok (Dv.d (PyData.bool (if false then !(ds.any fun y => PyData.eqv y (.int b)) else ds.any fun y => PyData.eqv y (.int b)))) μ else Out.bad) | none => Out.bad) = _
      rw [e]
      show (if flatD (.int b) = true then _ else _) = _
      rw [if_pos h2, e2]
      rfl
    | list _ => cases h2
    | tuple _ => cases h2
    | dict _ => cases h2
  cases d with
  | str z =>
    rw [dInX_r, if_neg (show ¬ bigD (.str z) = true from fun q => by cases q), dIn_strs]
    rfl
  | none => exact flat _ rfl rfl fun z => by simp [PyData.eqv]
  | bool _ => exact flat _ rfl rfl fun z => by simp [PyData.eqv]
  | int _ => exact flat _ rfl rfl fun z => by simp [PyData.eqv]
  | list _ => exact big rfl
  | tuple _ => exact big rfl
  | dict ps => cases ps with
    | nil => exact big rfl
    | cons _ _ => simp [okD] at h
theorem are_names_eq {d : D} {μ : Store} (hd : ∀ ds, d = .tuple ds → ds.length ≤ 16000 ∧ ∀ x ∈ ds, Ln x) : F_are_names [.d d, .d (.int 6)] μ = .ok (.d (.bool (colsB d))) μ := of_w (w_are_names hd ⟨rfl, rfl⟩)
theorem are_cols_eq {d : D} {μ : Store} (hd : ∀ ds, d = .tuple ds → ds.length ≤ 16000 ∧ ∀ x ∈ ds, Ln x) : F_l_are_cols [.d d] μ = .ok (.d (.bool (colsB d))) μ := of_w (w_l_are_cols hd ⟨rfl, rfl⟩)
section
variable {μ : Store} {P : Dv → Store → Prop}
theorem w_are_widths {d : D} {n : Nat} (hd : ∀ ds, d = .tuple ds → ds.length ≤ 16000) (fin : P (.d (.bool (widthsB n d))) μ) : Wp (F_are_widths [.d d, .d (.int n)] μ) P := by
  unfold F_are_widths B_are_widths
  apply Wp_run
  by_cases ht : isTup d = true
  · obtain ⟨ds, rfl⟩ : ∃ ds, d = .tuple ds := by cases d <;> first | exact ⟨_, rfl⟩ | cases ht
    have hl := hd ds rfl
    have fin : P (.d (.bool (decide (ds.length = n) && ds.all wB))) μ := fin
    by_cases h1 : ds.length = n
    · have i1 : (ds.length : Int) = (n : Int) := by omega
      simp -implicitDefEqProofs (disch := first | (with_reducible assumption) | ((with_reducible show List.length _ = _); rfl) | (simp only [allD_cons, allD_nil, Option.map_some, Option.isSome_some]; done) | (simp only [List.length_cons, List.length_nil, List.length_map]; done) | ((with_reducible refine cMod_of ?_); omega) | ((with_reducible refine cDiv_of ?_ ?_) <;> omega) | ((with_reducible refine okR_of ?_ ?_) <;> omega) | omega | (simp only [List.length_take, List.length_drop, List.length_append, List.length_cons, List.length_nil, List.length_map, List.length_range, List.length_replicate]; omega)) [-sSeq_r, -sRet_r, -sDrop_r, -sSet_r, -sIf_r, -sPar_r, -sAsg_r, -sSetIx_r, -sFor_r, -gsCons_r, -gT_r, -e1_r, -e2_r, -tV_r, -tAndM_r, -tOrM_r, -tNotM_r, -eAnd_r, -eOr_r, -eNot_r, -eIf_r, -aCons_r, -eN_r, -fCall_r, -eCallK_r, -eM_r, -eSl_r, -oSome_r, -eIsN_r, -eLc_r, -iSeq_r, -iRng_r, dIsi_tup, isTup, h1, r1_are_widths]
      refine Wp_eq (lcF_data (f := fun x => .bool (wB x)) (by omega) fun x hxm => ?_) ?_
      · have := is_whole_eq (d := x) (μ := μ)
        refine of_w ?_
        simp only [c1_are_widths, wipeD]
        simp -implicitDefEqProofs (disch := first | (with_reducible assumption) | ((with_reducible show List.length _ = _); rfl) | (simp only [allD_cons, allD_nil, Option.map_some, Option.isSome_some]; done) | (simp only [List.length_cons, List.length_nil, List.length_map]; done) | ((with_reducible refine cMod_of ?_); omega) | ((with_reducible refine cDiv_of ?_ ?_) <;> omega) | ((with_reducible refine okR_of ?_ ?_) <;> omega) | omega | (simp only [List.length_take, List.length_drop, List.length_append, List.length_cons, List.length_nil, List.length_map, List.length_range, List.length_replicate]; omega)) [-sSeq_r, -sRet_r, -sDrop_r, -sSet_r, -sIf_r, -sPar_r, -sAsg_r, -sSetIx_r, -sFor_r, -gsCons_r, -gT_r, -e1_r, -e2_r, -tV_r, -tAndM_r, -tOrM_r, -tNotM_r, -eAnd_r, -eOr_r, -eNot_r, -eIf_r, -aCons_r, -eN_r, -fCall_r, -eCallK_r, -eM_r, -eSl_r, -oSome_r, -eIsN_r, -eLc_r, -iSeq_r, -iRng_r, this]
        by_cases hi : isI x = true
        · obtain ⟨k, rfl⟩ : ∃ k, x = .int k := by cases x <;> first | exact ⟨_, rfl⟩ | cases hi
          by_cases k1 : 1 ≤ k
          · by_cases k2 : k ≤ 20
            · simp -implicitDefEqProofs (disch := first | (with_reducible assumption) | ((with_reducible show List.length _ = _); rfl) | (simp only [allD_cons, allD_nil, Option.map_some, Option.isSome_some]; done) | (simp only [List.length_cons, List.length_nil, List.length_map]; done) | ((with_reducible refine cMod_of ?_); omega) | ((with_reducible refine cDiv_of ?_ ?_) <;> omega) | ((with_reducible refine okR_of ?_ ?_) <;> omega) | omega | (simp only [List.length_take, List.length_drop, List.length_append, List.length_cons, List.length_nil, List.length_map, List.length_range, List.length_replicate]; omega)) [-sSeq_r, -sRet_r, -sDrop_r, -sSet_r, -sIf_r, -sPar_r, -sAsg_r, -sSetIx_r, -sFor_r, -gsCons_r, -gT_r, -e1_r, -e2_r, -tV_r, -tAndM_r, -tOrM_r, -tNotM_r, -eAnd_r, -eOr_r, -eNot_r, -eIf_r, -aCons_r, -eN_r, -fCall_r, -eCallK_r, -eM_r, -eSl_r, -oSome_r, -eIsN_r, -eLc_r, -iSeq_r, -iRng_r, isI, k1, k2, wB]
            · simp -implicitDefEqProofs (disch := first | (with_reducible assumption) | ((with_reducible show List.length _ = _); rfl) | (simp only [allD_cons, allD_nil, Option.map_some, Option.isSome_some]; done) | (simp only [List.length_cons, List.length_nil, List.length_map]; done) | ((with_reducible refine cMod_of ?_); omega) | ((with_reducible refine cDiv_of ?_ ?_) <;> omega) | ((with_reducible refine okR_of ?_ ?_) <;> omega) | omega | (simp only [List.length_take, List.length_drop, List.length_append, List.length_cons, List.length_nil, List.length_map, List.length_range, List.length_replicate]; omega)) [-sSeq_r, -sRet_r, -sDrop_r, -sSet_r, -sIf_r, -sPar_r, -sAsg_r, -sSetIx_r, -sFor_r, -gsCons_r, -gT_r, -e1_r, -e2_r, -tV_r, -tAndM_r, -tOrM_r, -tNotM_r, -eAnd_r, -eOr_r, -eNot_r, -eIf_r, -aCons_r, -eN_r, -fCall_r, -eCallK_r, -eM_r, -eSl_r, -oSome_r, -eIsN_r, -eLc_r, -iSeq_r, -iRng_r, isI, k1, k2, wB]
          · simp -implicitDefEqProofs (disch := first | (with_reducible assumption) | ((with_reducible show List.length _ = _); rfl) | (simp only [allD_cons, allD_nil, Option.map_some, Option.isSome_some]; done) | (simp only [List.length_cons, List.length_nil, List.length_map]; done) | ((with_reducible refine cMod_of ?_); omega) | ((with_reducible refine cDiv_of ?_ ?_) <;> omega) | ((with_reducible refine okR_of ?_ ?_) <;> omega) | omega | (simp only [List.length_take, List.length_drop, List.length_append, List.length_cons, List.length_nil, List.length_map, List.length_range, List.length_replicate]; omega)) [-sSeq_r, -sRet_r, -sDrop_r, -sSet_r, -sIf_r, -sPar_r, -sAsg_r, -sSetIx_r, -sFor_r, -gsCons_r, -gT_r, -e1_r, -e2_r, -tV_r, -tAndM_r, -tOrM_r, -tNotM_r, -eAnd_r, -eOr_r, -eNot_r, -eIf_r, -aCons_r, -eN_r, -fCall_r, -eCallK_r, -eM_r, -eSl_r, -oSome_r, -eIsN_r, -eLc_r, -iSeq_r, -iRng_r, isI, k1, wB]
        · have hi : isI x = false := by simpa using hi
          have : wB x = false := by cases x <;> first | rfl | cases hi
          simp -implicitDefEqProofs (disch := first | (with_reducible assumption) | ((with_reducible show List.length _ = _); rfl) | (simp only [allD_cons, allD_nil, Option.map_some, Option.isSome_some]; done) | (simp only [List.length_cons, List.length_nil, List.length_map]; done) | ((with_reducible refine cMod_of ?_); omega) | ((with_reducible refine cDiv_of ?_ ?_) <;> omega) | ((with_reducible refine okR_of ?_ ?_) <;> omega) | omega | (simp only [List.length_take, List.length_drop, List.length_append, List.length_cons, List.length_nil, List.length_map, List.length_range, List.length_replicate]; omega)) [-sSeq_r, -sRet_r, -sDrop_r, -sSet_r, -sIf_r, -sPar_r, -sAsg_r, -sSetIx_r, -sFor_r, -gsCons_r, -gT_r, -e1_r, -e2_r, -tV_r, -tAndM_r, -tOrM_r, -tNotM_r, -eAnd_r, -eOr_r, -eNot_r, -eIf_r, -aCons_r, -eN_r, -fCall_r, -eCallK_r, -eM_r, -eSl_r, -oSome_r, -eIsN_r, -eLc_r, -iSeq_r, -iRng_r, hi, this]
      · simp -implicitDefEqProofs (disch := first | (with_reducible assumption) | ((with_reducible show List.length _ = _); rfl) | (simp only [allD_cons, allD_nil, Option.map_some, Option.isSome_some]; done) | (simp only [List.length_cons, List.length_nil, List.length_map]; done) | ((with_reducible refine cMod_of ?_); omega) | ((with_reducible refine cDiv_of ?_ ?_) <;> omega) | ((with_reducible refine okR_of ?_ ?_) <;> omega) | omega | (simp only [List.length_take, List.length_drop, List.length_append, List.length_cons, List.length_nil, List.length_map, List.length_range, List.length_replicate]; omega)) [-sSeq_r, -sRet_r, -sDrop_r, -sSet_r, -sIf_r, -sPar_r, -sAsg_r, -sSetIx_r, -sFor_r, -gsCons_r, -gT_r, -e1_r, -e2_r, -tV_r, -tAndM_r, -tOrM_r, -tNotM_r, -eAnd_r, -eOr_r, -eNot_r, -eIf_r, -aCons_r, -eN_r, -fCall_r, -eCallK_r, -eM_r, -eSl_r, -oSome_r, -eIsN_r, -eLc_r, -iSeq_r, -iRng_r, all_bools]
        simpa [h1] using fin
    · have i1 : ¬ (ds.length : Int) = (n : Int) := by omega
      simp -implicitDefEqProofs (disch := first | (with_reducible assumption) | ((with_reducible show List.length _ = _); rfl) | (simp only [allD_cons, allD_nil, Option.map_some, Option.isSome_some]; done) | (simp only [List.length_cons, List.length_nil, List.length_map]; done) | ((with_reducible refine cMod_of ?_); omega) | ((with_reducible refine cDiv_of ?_ ?_) <;> omega) | ((with_reducible refine okR_of ?_ ?_) <;> omega) | omega | (simp only [List.length_take, List.length_drop, List.length_append, List.length_cons, List.length_nil, List.length_map, List.length_range, List.length_replicate]; omega)) [-sSeq_r, -sRet_r, -sDrop_r, -sSet_r, -sIf_r, -sPar_r, -sAsg_r, -sSetIx_r, -sFor_r, -gsCons_r, -gT_r, -e1_r, -e2_r, -tV_r, -tAndM_r, -tOrM_r, -tNotM_r, -eAnd_r, -eOr_r, -eNot_r, -eIf_r, -aCons_r, -eN_r, -fCall_r, -eCallK_r, -eM_r, -eSl_r, -oSome_r, -eIsN_r, -eLc_r, -iSeq_r, -iRng_r, dIsi_tup, isTup, i1]
      simpa [h1] using fin
  · have ht : isTup d = false := by simpa using ht
    simp -implicitDefEqProofs (disch := first | (with_reducible assumption) | ((with_reducible show List.length _ = _); rfl) | (simp only [allD_cons, allD_nil, Option.map_some, Option.isSome_some]; done) | (simp only [List.length_cons, List.length_nil, List.length_map]; done) | ((with_reducible refine cMod_of ?_); omega) | ((with_reducible refine cDiv_of ?_ ?_) <;> omega) | ((with_reducible refine okR_of ?_ ?_) <;> omega) | omega | (simp only [List.length_take, List.length_drop, List.length_append, List.length_cons, List.length_nil, List.length_map, List.length_range, List.length_replicate]; omega)) [-sSeq_r, -sRet_r, -sDrop_r, -sSet_r, -sIf_r, -sPar_r, -sAsg_r, -sSetIx_r, -sFor_r, -gsCons_r, -gT_r, -e1_r, -e2_r, -tV_r, -tAndM_r, -tOrM_r, -tNotM_r, -eAnd_r, -eOr_r, -eNot_r, -eIf_r, -aCons_r, -eN_r, -fCall_r, -eCallK_r, -eM_r, -eSl_r, -oSome_r, -eIsN_r, -eLc_r, -iSeq_r, -iRng_r, dIsi_tup, ht]
    have : widthsB n d = false := by cases d <;> first | rfl | cases ht
    rw [this] at fin
    exact fin
end
end LW

namespace LW
open PySem PySem.Spec PyProof.Rows L2 DL
theorem kget {l : List Nat} {μ : Store} : dKGet [(T [115, 105, 103, 110, 115], 4), (T [112, 108, 97, 99, 101, 115], 3), (T [110, 97, 109, 101, 100], 3)] (.d (.str (T l))) μ = .ok (.d (if l = [115, 105, 103, 110, 115] then .int 4 else if l = [112, 108, 97, 99, 101, 115] then .int 3 else if l = [110, 97, 109, 101, 100] then .int 3 else .none)) μ := by
  show Out.ok (Dv.d (optD (lkS [(T [115, 105, 103, 110, 115], 4), (T [112, 108, 97, 99, 101, 115], 3), (T [110, 97, 109, 101, 100], 3)] (T l)))) μ = _
  have q : ∀ m : List Nat, (T m == T l) = decide (l = m) := fun m => by
    by_cases h : l = m
    · subst h; simp
    · have : ¬ T m = T l := fun z => h (T_eq.mp z).symm
      simp [h, this]
  simp only [lkS, q]
  by_cases h1 : l = [115, 105, 103, 110, 115]
  · subst h1; simp [optD]
  · by_cases h2 : l = [112, 108, 97, 99, 101, 115]
    · subst h2; simp [optD]
    · by_cases h3 : l = [110, 97, 109, 101, 100]
      · subst h3; simp [optD]
      · simp [h1, h2, h3, optD]
theorem atI_m1 {α : Type} {l : List α} {x : α} : L2.atI (l ++ [x]) (-1) = some x := by
  have : L2.ixN (l ++ [x]).length (-1) = some l.length := by
    unfold L2.ixN
    simp
    omega
  unfold L2.atI
  rw [this]
  simp
theorem inS_str {l m : List Nat} : inS [T m] (.str (T l)) = decide (l = m) := by
  show decide (T l ∈ [T m]) = _
  rw [decide_eq_decide, List.mem_singleton, T_eq]
theorem inS_no {zs : List Str} {x : D} (h : isS x = false) : inS zs x = false := by cases x <;> first | rfl | cases h
/-- the things that shapes are told of -/
structure Qs (d : D) : Prop where
  ok : okD d = true
  tp : ∀ ds, d = .tuple ds → ds.length ≤ 16000 ∧ ∀ x ∈ ds, Ln x
theorem dEq_ni {n : Int} {μ : Store} : dEq true (.d .none) (.d (.int n)) μ = .ok (.d (.bool true)) μ := by
  rw [dEq_dd rfl]
  simp [PyData.eqv]
theorem isSh_no {x : D} {r : List D} (h : isS x = false) : isSh (.tuple (x :: r)) = false := by
  match r with
  | [] => simp [isSh]
  | [a] => simp [isSh]
  | [a, c] => simp [isSh, sh3, inS_no h]
  | [a, b, c] => simp [isSh, sh4, inS_no h]
  | a :: b :: c :: e :: r => simp [isSh]
theorem sh_a {r : List D} (hr : ¬ r.length = 3) : isSh (.tuple (.str (T [115, 105, 103, 110, 115]) :: r)) = false := by
  match r with
  | [] => simp [isSh]
  | [a] => simp [isSh]
  | [a, c] => simp [isSh, sh3, inS_str]
  | [a, b, c] => exact absurd rfl hr
  | a :: b :: c :: e :: r => simp [isSh]
theorem sh_b {l : List Nat} {r : List D} (h1 : ¬ l = [115, 105, 103, 110, 115]) (hr : ¬ r.length = 2) : isSh (.tuple (.str (T l) :: r)) = false := by
  match r with
  | [] => simp [isSh]
  | [a] => simp [isSh]
  | [a, c] => exact absurd rfl hr
  | [a, b, c] => simp [isSh, sh4, inS_str, h1]
  | a :: b :: c :: e :: r => simp [isSh]
theorem sh_c {l : List Nat} {r : List D} (h1 : ¬ l = [115, 105, 103, 110, 115]) (n2 : ¬ l = [112, 108, 97, 99, 101, 115]) (n3 : ¬ l = [110, 97, 109, 101, 100]) : isSh (.tuple (.str (T l) :: r)) = false := by
  match r with
  | [] => simp [isSh]
  | [a] => simp [isSh]
  | [a, c] => simp [isSh, sh3, inS_str, n2, n3]
  | [a, b, c] => simp [isSh, sh4, inS_str, h1]
  | a :: b :: c :: e :: r => simp [isSh]
theorem three {r : List D} (h : r.length = 3) : ∃ a b c, r = [a, b, c] := by
  match r with
  | [a, b, c] => exact ⟨a, b, c, rfl⟩
  | [] => cases h
  | [_] => cases h
  | [_, _] => cases h
  | _ :: _ :: _ :: _ :: _ => simp at h
theorem two {r : List D} (h : r.length = 2) : ∃ a c, r = [a, c] := by
  match r with
  | [a, c] => exact ⟨a, c, rfl⟩
  | [] => cases h
  | [_] => cases h
  | _ :: _ :: _ :: _ => simp at h
section
variable {μ : Store} {P : Dv → Store → Prop}
set_option maxHeartbeats 3200000 in
theorem w_is_shape {d : D} (hd : ∀ ds, d = .tuple ds → ds.length ≤ 16000 ∧ ∀ x ∈ ds, Qs x) (fin : P (.d (.bool (isSh d))) μ) : Wp (F_is_shape [.d d] μ) P := by
  unfold F_is_shape B_is_shape
  apply Wp_run
  have notT : isTup d = false → Wp (B_is_shape ([Dv.d d].map some ++ List.replicate (3 - [Dv.d d].length) none) μ) (finP P) := fun h => by
    have : isSh d = false := by cases d <;> first | rfl | cases h
    rw [this] at fin
    simp -implicitDefEqProofs (disch := first | (with_reducible assumption) | ((with_reducible show List.length _ = _); rfl) | (simp only [allD_cons, allD_nil, Option.map_some, Option.isSome_some]; done) | (simp only [List.length_cons, List.length_nil, List.length_map]; done) | ((with_reducible refine cMod_of ?_); omega) | ((with_reducible refine cDiv_of ?_ ?_) <;> omega) | ((with_reducible refine okR_of ?_ ?_) <;> omega) | omega | (simp only [List.length_take, List.length_drop, List.length_append, List.length_cons, List.length_nil, List.length_map, List.length_range, List.length_replicate]; omega)) [-sSeq_r, -sRet_r, -sDrop_r, -sSet_r, -sIf_r, -sPar_r, -sAsg_r, -sSetIx_r, -sFor_r, -gsCons_r, -gT_r, -e1_r, -e2_r, -tV_r, -tAndM_r, -tOrM_r, -tNotM_r, -eAnd_r, -eOr_r, -eNot_r, -eIf_r, -aCons_r, -eN_r, -fCall_r, -eCallK_r, -eM_r, -eSl_r, -oSome_r, -eIsN_r, -eLc_r, -iSeq_r, -iRng_r, B_is_shape, dIsi_tup, h]
    exact fin
  cases d with
  | tuple ds =>
    obtain ⟨hl, hq⟩ := hd ds rfl
    have hlI : (ds.length : Int) ≤ 16000 := by omega
    match ds, hl, hq, fin with
    | [], _, _, fin =>
      simp -implicitDefEqProofs (disch := first | (with_reducible assumption) | ((with_reducible show List.length _ = _); rfl) | (simp only [allD_cons, allD_nil, Option.map_some, Option.isSome_some]; done) | (simp only [List.length_cons, List.length_nil, List.length_map]; done) | ((with_reducible refine cMod_of ?_); omega) | ((with_reducible refine cDiv_of ?_ ?_) <;> omega) | ((with_reducible refine okR_of ?_ ?_) <;> omega) | omega | (simp only [List.length_take, List.length_drop, List.length_append, List.length_cons, List.length_nil, List.length_map, List.length_range, List.length_replicate]; omega)) [-sSeq_r, -sRet_r, -sDrop_r, -sSet_r, -sIf_r, -sPar_r, -sAsg_r, -sSetIx_r, -sFor_r, -gsCons_r, -gT_r, -e1_r, -e2_r, -tV_r, -tAndM_r, -tOrM_r, -tNotM_r, -eAnd_r, -eOr_r, -eNot_r, -eIf_r, -aCons_r, -eN_r, -fCall_r, -eCallK_r, -eM_r, -eSl_r, -oSome_r, -eIsN_r, -eLc_r, -iSeq_r, -iRng_r, dIsi_tup, isTup]
      exact fin
    | x :: r, hl, hq, fin =>
      by_cases hs : isS x = true
      · obtain ⟨l, rfl⟩ := isS_iff hs
        have hg : (1 ≤ (PyData.str (T l) :: r).length ∧ (PyData.str (T l) :: r).length ≤ 16384) := ⟨by simp, by omega⟩
        have hg' : r.length + 1 ≤ 16384 := by simpa using hg.2
        have z0 : ¬ ((r.length : Int) + 1 = 0) := by omega
        have g1 : gStar 1 = gStar 1 := rfl
        by_cases h1 : l = [115, 105, 103, 110, 115]
        · subst h1
          by_cases hr : r.length = 3
          · obtain ⟨a, b, c, rfl⟩ := three hr
            have qa := hq a (by simp)
            have qb := hq b (by simp)
            have qc := hq c (by simp)
            have fin : P (.d (.bool (colsB c && (inS sg4 a && inS qts b)))) μ := by
              have e : isSh (.tuple [.str (T [115, 105, 103, 110, 115]), a, b, c]) = (colsB c && (inS sg4 a && inS qts b)) := by
                simp [isSh, sh4, inS_str]
              rw [e] at fin
              exact fin
            have ix : dIx (.d (.list [a, b, c])) (.d (.int (-1))) μ = .ok (.d c) μ := dIx_l (by rfl)
            have ix0 : dIx (.d (.list [a, b, c])) (.d (.int 0)) μ = .ok (.d a) μ := dIx_l (by rfl)
            have ix1 : dIx (.d (.list [a, b, c])) (.d (.int 1)) μ = .ok (.d b) μ := dIx_l (by rfl)
            have an := are_names_eq (μ := μ) qc.tp
            have e4 : dInX (.d a) (.d (.tuple [.str (T [44]), .str (T [59]), .str (T [124]), .str (T [58])])) μ = .ok (.d (.bool (inS sg4 a))) μ := dInX_strs (zs := sg4) qa.ok
            have e2 : dInX (.d b) (.d (.tuple [.str (T [34]), .str (T [39])])) μ = .ok (.d (.bool (inS qts b))) μ := dInX_strs (zs := qts) qb.ok
            have k := kget (l := [115, 105, 103, 110, 115]) (μ := μ)
            rw [if_pos rfl] at k
            by_cases hc : colsB c = true
            · rw [hc] at fin an
              simp -implicitDefEqProofs (disch := first | (with_reducible assumption) | ((with_reducible show List.length _ = _); rfl) | (simp only [allD_cons, allD_nil, Option.map_some, Option.isSome_some]; done) | (simp only [List.length_cons, List.length_nil, List.length_map]; done) | ((with_reducible refine cMod_of ?_); omega) | ((with_reducible refine cDiv_of ?_ ?_) <;> omega) | ((with_reducible refine okR_of ?_ ?_) <;> omega) | omega | (simp only [List.length_take, List.length_drop, List.length_append, List.length_cons, List.length_nil, List.length_map, List.length_range, List.length_replicate]; omega)) [-sSeq_r, -sRet_r, -sDrop_r, -sSet_r, -sIf_r, -sPar_r, -sAsg_r, -sSetIx_r, -sFor_r, -gsCons_r, -gT_r, -e1_r, -e2_r, -tV_r, -tAndM_r, -tOrM_r, -tNotM_r, -eAnd_r, -eOr_r, -eNot_r, -eIf_r, -aCons_r, -eN_r, -fCall_r, -eCallK_r, -eM_r, -eSl_r, -oSome_r, -eIsN_r, -eLc_r, -iSeq_r, -iRng_r, dIsi_tup, isTup, dIx_t0, dIsi_s, isS_s, r4_is_shape, gStar_w, r3_is_shape, k, ix, an, r2_is_shape, ix0, ix1, e4, e2]
              by_cases ha : inS sg4 a = true
              · simp -implicitDefEqProofs (disch := first | (with_reducible assumption) | ((with_reducible show List.length _ = _); rfl) | (simp only [allD_cons, allD_nil, Option.map_some, Option.isSome_some]; done) | (simp only [List.length_cons, List.length_nil, List.length_map]; done) | ((with_reducible refine cMod_of ?_); omega) | ((with_reducible refine cDiv_of ?_ ?_) <;> omega) | ((with_reducible refine okR_of ?_ ?_) <;> omega) | omega | (simp only [List.length_take, List.length_drop, List.length_append, List.length_cons, List.length_nil, List.length_map, List.length_range, List.length_replicate]; omega)) [-sSeq_r, -sRet_r, -sDrop_r, -sSet_r, -sIf_r, -sPar_r, -sAsg_r, -sSetIx_r, -sFor_r, -gsCons_r, -gT_r, -e1_r, -e2_r, -tV_r, -tAndM_r, -tOrM_r, -tNotM_r, -eAnd_r, -eOr_r, -eNot_r, -eIf_r, -aCons_r, -eN_r, -fCall_r, -eCallK_r, -eM_r, -eSl_r, -oSome_r, -eIsN_r, -eLc_r, -iSeq_r, -iRng_r, ha, ix1, e2]
                simpa [ha] using fin
              · have ha : inS sg4 a = false := by simpa using ha
                simp -implicitDefEqProofs (disch := first | (with_reducible assumption) | ((with_reducible show List.length _ = _); rfl) | (simp only [allD_cons, allD_nil, Option.map_some, Option.isSome_some]; done) | (simp only [List.length_cons, List.length_nil, List.length_map]; done) | ((with_reducible refine cMod_of ?_); omega) | ((with_reducible refine cDiv_of ?_ ?_) <;> omega) | ((with_reducible refine okR_of ?_ ?_) <;> omega) | omega | (simp only [List.length_take, List.length_drop, List.length_append, List.length_cons, List.length_nil, List.length_map, List.length_range, List.length_replicate]; omega)) [-sSeq_r, -sRet_r, -sDrop_r, -sSet_r, -sIf_r, -sPar_r, -sAsg_r, -sSetIx_r, -sFor_r, -gsCons_r, -gT_r, -e1_r, -e2_r, -tV_r, -tAndM_r, -tOrM_r, -tNotM_r, -eAnd_r, -eOr_r, -eNot_r, -eIf_r, -aCons_r, -eN_r, -fCall_r, -eCallK_r, -eM_r, -eSl_r, -oSome_r, -eIsN_r, -eLc_r, -iSeq_r, -iRng_r, ha]
                simpa [ha] using fin
            · have hc : colsB c = false := by simpa using hc
              rw [hc] at fin an
              simp -implicitDefEqProofs (disch := first | (with_reducible assumption) | ((with_reducible show List.length _ = _); rfl) | (simp only [allD_cons, allD_nil, Option.map_some, Option.isSome_some]; done) | (simp only [List.length_cons, List.length_nil, List.length_map]; done) | ((with_reducible refine cMod_of ?_); omega) | ((with_reducible refine cDiv_of ?_ ?_) <;> omega) | ((with_reducible refine okR_of ?_ ?_) <;> omega) | omega | (simp only [List.length_take, List.length_drop, List.length_append, List.length_cons, List.length_nil, List.length_map, List.length_range, List.length_replicate]; omega)) [-sSeq_r, -sRet_r, -sDrop_r, -sSet_r, -sIf_r, -sPar_r, -sAsg_r, -sSetIx_r, -sFor_r, -gsCons_r, -gT_r, -e1_r, -e2_r, -tV_r, -tAndM_r, -tOrM_r, -tNotM_r, -eAnd_r, -eOr_r, -eNot_r, -eIf_r, -aCons_r, -eN_r, -fCall_r, -eCallK_r, -eM_r, -eSl_r, -oSome_r, -eIsN_r, -eLc_r, -iSeq_r, -iRng_r, dIsi_tup, isTup, dIx_t0, dIsi_s, isS_s, r4_is_shape, gStar_w, r3_is_shape, k, ix, an]
              exact fin
          · have e := sh_a hr
            rw [e] at fin
            have k := kget (l := [115, 105, 103, 110, 115]) (μ := μ)
            rw [if_pos rfl] at k
            have i1 : ¬ ((4 : Int) = (r.length : Int) + 1) := by omega
            simp -implicitDefEqProofs (disch := first | (with_reducible assumption) | ((with_reducible show List.length _ = _); rfl) | (simp only [allD_cons, allD_nil, Option.map_some, Option.isSome_some]; done) | (simp only [List.length_cons, List.length_nil, List.length_map]; done) | ((with_reducible refine cMod_of ?_); omega) | ((with_reducible refine cDiv_of ?_ ?_) <;> omega) | ((with_reducible refine okR_of ?_ ?_) <;> omega) | omega | (simp only [List.length_take, List.length_drop, List.length_append, List.length_cons, List.length_nil, List.length_map, List.length_range, List.length_replicate]; omega)) [-sSeq_r, -sRet_r, -sDrop_r, -sSet_r, -sIf_r, -sPar_r, -sAsg_r, -sSetIx_r, -sFor_r, -gsCons_r, -gT_r, -e1_r, -e2_r, -tV_r, -tAndM_r, -tOrM_r, -tNotM_r, -eAnd_r, -eOr_r, -eNot_r, -eIf_r, -aCons_r, -eN_r, -fCall_r, -eCallK_r, -eM_r, -eSl_r, -oSome_r, -eIsN_r, -eLc_r, -iSeq_r, -iRng_r, dIsi_tup, isTup, dIx_t0, dIsi_s, isS_s, r4_is_shape, gStar_w hg, r3_is_shape, k, i1, z0]
            exact fin
        · by_cases h23 : l = [112, 108, 97, 99, 101, 115] ∨ l = [110, 97, 109, 101, 100]
          · have k : dKGet [(T [115, 105, 103, 110, 115], 4), (T [112, 108, 97, 99, 101, 115], 3), (T [110, 97, 109, 101, 100], 3)] (.d (.str (T l))) μ = .ok (.d (.int 3)) μ := by
              rw [kget, if_neg h1]
              rcases h23 with h | h
              · rw [if_pos h]
              · subst h
                rfl
            by_cases hr : r.length = 2
            · obtain ⟨a, c, rfl⟩ := two hr
              have qa := hq a (by simp)
              have qc := hq c (by simp)
              have ix : dIx (.d (.list [a, c])) (.d (.int (-1))) μ = .ok (.d c) μ := dIx_l (by rfl)
              have ix0 : dIx (.d (.list [a, c])) (.d (.int 0)) μ = .ok (.d a) μ := dIx_l (by rfl)
              have ix1 : dIx (.d (.list [a, c])) (.d (.int 1)) μ = .ok (.d c) μ := dIx_l (by rfl)
              have an := are_names_eq (μ := μ) qc.tp
              have e3 : dInX (.d a) (.d (.tuple [.str (T [44]), .str (T [59]), .str (T [124])])) μ = .ok (.d (.bool (inS sg3 a))) μ := dInX_strs (zs := sg3) qa.ok
              have fin : P (.d (.bool (sh3 (.str (T l)) a c))) μ := fin
              unfold sh3 at fin
              rw [inS_str, inS_str] at fin
              by_cases hc : colsB c = true
              · rw [hc] at fin an
                obtain ⟨cs, rfl⟩ : ∃ cs, c = .tuple cs := by cases c <;> first | exact ⟨_, rfl⟩ | cases hc
                by_cases hn : l = [110, 97, 109, 101, 100]
                · subst hn
                  simp -implicitDefEqProofs (disch := first | (with_reducible assumption) | ((with_reducible show List.length _ = _); rfl) | (simp only [allD_cons, allD_nil, Option.map_some, Option.isSome_some]; done) | (simp only [List.length_cons, List.length_nil, List.length_map]; done) | ((with_reducible refine cMod_of ?_); omega) | ((with_reducible refine cDiv_of ?_ ?_) <;> omega) | ((with_reducible refine okR_of ?_ ?_) <;> omega) | omega | (simp only [List.length_take, List.length_drop, List.length_append, List.length_cons, List.length_nil, List.length_map, List.length_range, List.length_replicate]; omega)) [-sSeq_r, -sRet_r, -sDrop_r, -sSet_r, -sIf_r, -sPar_r, -sAsg_r, -sSetIx_r, -sFor_r, -gsCons_r, -gT_r, -e1_r, -e2_r, -tV_r, -tAndM_r, -tOrM_r, -tNotM_r, -eAnd_r, -eOr_r, -eNot_r, -eIf_r, -aCons_r, -eN_r, -fCall_r, -eCallK_r, -eM_r, -eSl_r, -oSome_r, -eIsN_r, -eLc_r, -iSeq_r, -iRng_r, dIsi_tup, isTup, dIx_t0, dIsi_s, isS_s, r4_is_shape, gStar_w, r3_is_shape, k, ix, an, r2_is_shape, r1_is_shape, ix0, ix1, e3]
                  simpa using fin
                · have hp : l = [112, 108, 97, 99, 101, 115] := h23.resolve_right hn
                  subst hp
                  simp -implicitDefEqProofs (disch := first | (with_reducible assumption) | ((with_reducible show List.length _ = _); rfl) | (simp only [allD_cons, allD_nil, Option.map_some, Option.isSome_some]; done) | (simp only [List.length_cons, List.length_nil, List.length_map]; done) | ((with_reducible refine cMod_of ?_); omega) | ((with_reducible refine cDiv_of ?_ ?_) <;> omega) | ((with_reducible refine okR_of ?_ ?_) <;> omega) | omega | (simp only [List.length_take, List.length_drop, List.length_append, List.length_cons, List.length_nil, List.length_map, List.length_range, List.length_replicate]; omega)) [-sSeq_r, -sRet_r, -sDrop_r, -sSet_r, -sIf_r, -sPar_r, -sAsg_r, -sSetIx_r, -sFor_r, -gsCons_r, -gT_r, -e1_r, -e2_r, -tV_r, -tAndM_r, -tOrM_r, -tNotM_r, -eAnd_r, -eOr_r, -eNot_r, -eIf_r, -aCons_r, -eN_r, -fCall_r, -eCallK_r, -eM_r, -eSl_r, -oSome_r, -eIsN_r, -eLc_r, -iSeq_r, -iRng_r, dIsi_tup, isTup, dIx_t0, dIsi_s, isS_s, r4_is_shape, gStar_w, r3_is_shape, k, ix, an, r2_is_shape, r1_is_shape, ix0, ix1]
                  refine w_are_widths (fun ds e => (qa.tp ds e).1) ?_
                  simp -implicitDefEqProofs (disch := first | (with_reducible assumption) | ((with_reducible show List.length _ = _); rfl) | (simp only [allD_cons, allD_nil, Option.map_some, Option.isSome_some]; done) | (simp only [List.length_cons, List.length_nil, List.length_map]; done) | ((with_reducible refine cMod_of ?_); omega) | ((with_reducible refine cDiv_of ?_ ?_) <;> omega) | ((with_reducible refine okR_of ?_ ?_) <;> omega) | omega | (simp only [List.length_take, List.length_drop, List.length_append, List.length_cons, List.length_nil, List.length_map, List.length_range, List.length_replicate]; omega)) [-sSeq_r, -sRet_r, -sDrop_r, -sSet_r, -sIf_r, -sPar_r, -sAsg_r, -sSetIx_r, -sFor_r, -gsCons_r, -gT_r, -e1_r, -e2_r, -tV_r, -tAndM_r, -tOrM_r, -tNotM_r, -eAnd_r, -eOr_r, -eNot_r, -eIf_r, -aCons_r, -eN_r, -fCall_r, -eCallK_r, -eM_r, -eSl_r, -oSome_r, -eIsN_r, -eLc_r, -iSeq_r, -iRng_r, ]
                  simpa [tupL] using fin
              · have hc : colsB c = false := by simpa using hc
                rw [hc] at fin an
                simp -implicitDefEqProofs (disch := first | (with_reducible assumption) | ((with_reducible show List.length _ = _); rfl) | (simp only [allD_cons, allD_nil, Option.map_some, Option.isSome_some]; done) | (simp only [List.length_cons, List.length_nil, List.length_map]; done) | ((with_reducible refine cMod_of ?_); omega) | ((with_reducible refine cDiv_of ?_ ?_) <;> omega) | ((with_reducible refine okR_of ?_ ?_) <;> omega) | omega | (simp only [List.length_take, List.length_drop, List.length_append, List.length_cons, List.length_nil, List.length_map, List.length_range, List.length_replicate]; omega)) [-sSeq_r, -sRet_r, -sDrop_r, -sSet_r, -sIf_r, -sPar_r, -sAsg_r, -sSetIx_r, -sFor_r, -gsCons_r, -gT_r, -e1_r, -e2_r, -tV_r, -tAndM_r, -tOrM_r, -tNotM_r, -eAnd_r, -eOr_r, -eNot_r, -eIf_r, -aCons_r, -eN_r, -fCall_r, -eCallK_r, -eM_r, -eSl_r, -oSome_r, -eIsN_r, -eLc_r, -iSeq_r, -iRng_r, dIsi_tup, isTup, dIx_t0, dIsi_s, isS_s, r4_is_shape, gStar_w, r3_is_shape, k, ix, an]
                exact fin
            · have e := sh_b h1 hr
              rw [e] at fin
              have i1 : ¬ ((3 : Int) = (r.length : Int) + 1) := by omega
              simp -implicitDefEqProofs (disch := first | (with_reducible assumption) | ((with_reducible show List.length _ = _); rfl) | (simp only [allD_cons, allD_nil, Option.map_some, Option.isSome_some]; done) | (simp only [List.length_cons, List.length_nil, List.length_map]; done) | ((with_reducible refine cMod_of ?_); omega) | ((with_reducible refine cDiv_of ?_ ?_) <;> omega) | ((with_reducible refine okR_of ?_ ?_) <;> omega) | omega | (simp only [List.length_take, List.length_drop, List.length_append, List.length_cons, List.length_nil, List.length_map, List.length_range, List.length_replicate]; omega)) [-sSeq_r, -sRet_r, -sDrop_r, -sSet_r, -sIf_r, -sPar_r, -sAsg_r, -sSetIx_r, -sFor_r, -gsCons_r, -gT_r, -e1_r, -e2_r, -tV_r, -tAndM_r, -tOrM_r, -tNotM_r, -eAnd_r, -eOr_r, -eNot_r, -eIf_r, -aCons_r, -eN_r, -fCall_r, -eCallK_r, -eM_r, -eSl_r, -oSome_r, -eIsN_r, -eLc_r, -iSeq_r, -iRng_r, dIsi_tup, isTup, dIx_t0, dIsi_s, isS_s, r4_is_shape, gStar_w hg, r3_is_shape, k, i1, z0]
              exact fin
          · have k : dKGet [(T [115, 105, 103, 110, 115], 4), (T [112, 108, 97, 99, 101, 115], 3), (T [110, 97, 109, 101, 100], 3)] (.d (.str (T l))) μ = .ok (.d .none) μ := by
              rw [kget, if_neg h1, if_neg (fun h => h23 (.inl h)), if_neg (fun h => h23 (.inr h))]
            have e := sh_c (r := r) h1 (fun h => h23 (.inl h)) (fun h => h23 (.inr h))
            rw [e] at fin
            simp -implicitDefEqProofs (disch := first | (with_reducible assumption) | ((with_reducible show List.length _ = _); rfl) | (simp only [allD_cons, allD_nil, Option.map_some, Option.isSome_some]; done) | (simp only [List.length_cons, List.length_nil, List.length_map]; done) | ((with_reducible refine cMod_of ?_); omega) | ((with_reducible refine cDiv_of ?_ ?_) <;> omega) | ((with_reducible refine okR_of ?_ ?_) <;> omega) | omega | (simp only [List.length_take, List.length_drop, List.length_append, List.length_cons, List.length_nil, List.length_map, List.length_range, List.length_replicate]; omega)) [-sSeq_r, -sRet_r, -sDrop_r, -sSet_r, -sIf_r, -sPar_r, -sAsg_r, -sSetIx_r, -sFor_r, -gsCons_r, -gT_r, -e1_r, -e2_r, -tV_r, -tAndM_r, -tOrM_r, -tNotM_r, -eAnd_r, -eOr_r, -eNot_r, -eIf_r, -aCons_r, -eN_r, -fCall_r, -eCallK_r, -eM_r, -eSl_r, -oSome_r, -eIsN_r, -eLc_r, -iSeq_r, -iRng_r, dIsi_tup, isTup, dIx_t0, dIsi_s, isS_s, r4_is_shape, gStar_w hg, r3_is_shape, k, z0, dEq_ni]
            exact fin
      · have hs : isS x = false := by simpa using hs
        have := isSh_no (r := r) hs
        rw [this] at fin
        have z0 : ¬ ((r.length : Int) + 1 = 0) := by omega
        simp -implicitDefEqProofs (disch := first | (with_reducible assumption) | ((with_reducible show List.length _ = _); rfl) | (simp only [allD_cons, allD_nil, Option.map_some, Option.isSome_some]; done) | (simp only [List.length_cons, List.length_nil, List.length_map]; done) | ((with_reducible refine cMod_of ?_); omega) | ((with_reducible refine cDiv_of ?_ ?_) <;> omega) | ((with_reducible refine okR_of ?_ ?_) <;> omega) | omega | (simp only [List.length_take, List.length_drop, List.length_append, List.length_cons, List.length_nil, List.length_map, List.length_range, List.length_replicate]; omega)) [-sSeq_r, -sRet_r, -sDrop_r, -sSet_r, -sIf_r, -sPar_r, -sAsg_r, -sSetIx_r, -sFor_r, -gsCons_r, -gT_r, -e1_r, -e2_r, -tV_r, -tAndM_r, -tOrM_r, -tNotM_r, -eAnd_r, -eOr_r, -eNot_r, -eIf_r, -aCons_r, -eN_r, -fCall_r, -eCallK_r, -eM_r, -eSl_r, -oSome_r, -eIsN_r, -eLc_r, -iSeq_r, -iRng_r, dIsi_tup, isTup, dIx_t0, dIsi_s, hs, z0]
        exact fin
  | none => exact notT rfl
  | bool _ => exact notT rfl
  | int _ => exact notT rfl
  | str _ => exact notT rfl
  | list _ => exact notT rfl
  | dict _ => exact notT rfl
end
end LW

namespace LW
open PySem PySem.Spec PyProof.Rows L2 DL
theorem dEq_str {n : Bool} {x y : Str} {μ : Store} : dEq n (.d (.str x)) (.d (.str y)) μ = .ok (.d (.bool (if n then !decide (x = y) else decide (x = y)))) μ := by
  rw [dEq_dd rfl, str_eqv]
theorem shown_mem {x : D} {zs : List Str} (hx : okD x = true) (hz : ∀ z ∈ zs, okD (.str z) = true) : decide (x.shown ∈ zs.map fun z => (PyData.str z).shown) = inS zs x := by
  have key : (x.shown ∈ zs.map fun z => (PyData.str z).shown) ↔ inS zs x = true := by
    constructor
    · intro h
      obtain ⟨z, hz', e⟩ := List.mem_map.mp h
      rw [← shown_inj (hz z hz') hx e]
      exact decide_eq_true hz'
    · intro h
      cases x with
      | str z => exact List.mem_map_of_mem (f := fun z => (PyData.str z).shown) (of_decide_eq_true h)
      | _ => cases h
  rw [Bool.eq_iff_iff, decide_eq_true_iff]
  exact key
theorem shown_one {x : D} {l : List Nat} {s : List Nat} (hx : okD x = true) (hl : okD (.str (T l)) = true) (e : (PyData.str (T l)).shown = T s) : decide (x.shown = T s) = inS [T l] x := by
  rw [← e]
  have := shown_mem (zs := [T l]) hx (fun z hz => by rw [List.mem_singleton] at hz; rw [hz]; exact hl)
  rw [← this, decide_eq_decide]
  simp
theorem sh_signs : (PyData.str (T [115, 105, 103, 110, 115])).shown = T [39, 115, 105, 103, 110, 115, 39] := by rw [PyData.shown_str]; decide +kernel
theorem sh_named : (PyData.str (T [110, 97, 109, 101, 100])).shown = T [39, 110, 97, 109, 101, 100, 39] := by rw [PyData.shown_str]; decide +kernel
theorem sh_places : (PyData.str (T [112, 108, 97, 99, 101, 115])).shown = T [39, 112, 108, 97, 99, 101, 115, 39] := by rw [PyData.shown_str]; decide +kernel
/-- widths by their reprs -/
def w20 : List D := (List.range 20).map fun (k : Nat) => PyData.int ((k : Int) + 1)
theorem w20_mem {x : D} (hx : okD x = true) : decide (x.shown ∈ w20.map PyData.shown) = wB x := by
  have ok20 : ∀ y ∈ w20, okD y = true := by
    have : (w20.all okD) = true := by decide +kernel
    exact List.all_eq_true.mp this
  have key : (x.shown ∈ w20.map PyData.shown) ↔ wB x = true := by
    constructor
    · intro h
      obtain ⟨y, hy, e⟩ := List.mem_map.mp h
      rw [← shown_inj (ok20 y hy) hx e]
      have : (w20.all wB) = true := by decide +kernel
      exact List.all_eq_true.mp this y hy
    · intro h
      refine List.mem_map_of_mem ?_
      cases x with
      | int k =>
        have h : (decide (1 ≤ k) && decide (k ≤ 20)) = true := h
        rw [Bool.and_eq_true, decide_eq_true_iff, decide_eq_true_iff] at h
        unfold w20
        rw [List.mem_map]
        exact ⟨(k - 1).toNat, by rw [List.mem_range]; omega, by congr 1; omega⟩
      | _ => cases h
  rw [Bool.eq_iff_iff, decide_eq_true_iff]
  exact key
theorem gd_str {l : List Nat} (h : (decide (l.length ≤ 10) && l.all fun c => decide (c < 128)) = true) : Gd 40 16000000 (.str (T l)) := by
  rw [Bool.and_eq_true, decide_eq_true_iff] at h
  refine ⟨h.2, Nat.zero_le _, ?_⟩
  rw [wt, T_len]
  omega
/-- the reprs of a few texts -/
theorem reprs {zs : List Str} {i : Nat} {te : ME} {vs : List Nat} {ρ : DEnv} {μ : Store} (hz : ∀ z ∈ zs, Gd 40 16000000 (.str z)) (hl : zs.length ≤ 100) (h : ∀ z ∈ zs, te ((wipeD ρ vs).set i (some (.d (.str z)))) μ = dReprE [.d (.str z)] μ) :
    lcF dList (gN i) tYesM te vs ρ ((zs.map PyData.str).map .d) μ = .ok (.d (.list ((zs.map fun z => (PyData.str z).shown).map .str))) μ := by
  have := lcF_data (i := i) (te := te) (vs := vs) (ρ := ρ) (ds := zs.map PyData.str) (f := fun x => .str x.shown) (μ := μ) (by rw [List.length_map]; omega) (fun x hx => by
    obtain ⟨z, hz', rfl⟩ := List.mem_map.mp hx
    rw [h z hz', dReprE_gd (hz z hz')])
  rw [this, List.map_map, List.map_map]
  rfl
structure Qg (d : D) : Prop extends Qs d where
  gd : Gd 40 16000000 d
section
variable {μ : Store} {P : Dv → Store → Prop}
set_option maxHeartbeats 3200000 in
theorem w_l_is_shape {d : D} (hd : ∀ ds, d = .tuple ds → ds.length ≤ 16000 ∧ ∀ x ∈ ds, Qg x) (hg : ∀ ds, d = .tuple ds → ∀ x ∈ ds, ∀ es, x = .tuple es → ∀ y ∈ es, Gd 40 16000000 y) (fin : P (.d (.bool (isSh d))) μ) : Wp (F_l_is_shape [.d d] μ) P := by
  unfold F_l_is_shape B_l_is_shape
  apply Wp_run
  have notT : isTup d = false → Wp (B_l_is_shape ([Dv.d d].map some ++ List.replicate (5 - [Dv.d d].length) none) μ) (finP P) := fun h => by
    have : isSh d = false := by cases d <;> first | rfl | cases h
    rw [this] at fin
    simp -implicitDefEqProofs (disch := first | (with_reducible assumption) | ((with_reducible show List.length _ = _); rfl) | (simp only [allD_cons, allD_nil, Option.map_some, Option.isSome_some]; done) | (simp only [List.length_cons, List.length_nil, List.length_map]; done) | ((with_reducible refine cMod_of ?_); omega) | ((with_reducible refine cDiv_of ?_ ?_) <;> omega) | ((with_reducible refine okR_of ?_ ?_) <;> omega) | omega | (simp only [List.length_take, List.length_drop, List.length_append, List.length_cons, List.length_nil, List.length_map, List.length_range, List.length_replicate]; omega)) [-sSeq_r, -sRet_r, -sDrop_r, -sSet_r, -sIf_r, -sPar_r, -sAsg_r, -sSetIx_r, -sFor_r, -gsCons_r, -gT_r, -e1_r, -e2_r, -tV_r, -tAndM_r, -tOrM_r, -tNotM_r, -eAnd_r, -eOr_r, -eNot_r, -eIf_r, -aCons_r, -eN_r, -fCall_r, -eCallK_r, -eM_r, -eSl_r, -oSome_r, -eIsN_r, -eLc_r, -iSeq_r, -iRng_r, B_l_is_shape, dIsi_tup, h]
    exact fin
  cases d with
  | tuple ds =>
    obtain ⟨hl, hq⟩ := hd ds rfl
    by_cases l3 : ds.length = 3
    · obtain ⟨x, a, c, rfl⟩ := three l3
      have qx := hq x (by simp)
      have qa := hq a (by simp)
      have qc := hq c (by simp)
      have ix : dIx (.d (.tuple [x, a, c])) (.d (.int (-1))) μ = .ok (.d c) μ := dIx_t (by rfl)
      have ix0 : dIx (.d (.tuple [x, a, c])) (.d (.int 0)) μ = .ok (.d x) μ := dIx_t (by rfl)
      have ix1 : dIx (.d (.tuple [x, a, c])) (.d (.int 1)) μ = .ok (.d a) μ := dIx_t (by rfl)
      have ix2 : dIx (.d (.tuple [x, a, c])) (.d (.int 2)) μ = .ok (.d c) μ := dIx_t (by rfl)
      have an := are_cols_eq (μ := μ) qc.tp
      have fin : P (.d (.bool (sh3 x a c))) μ := fin
      unfold sh3 at fin
      have s1 := shown_one (x := x) qx.ok (by decide) sh_signs
      have s2 := shown_one (x := x) qx.ok (by decide) sh_named
      have s3 := shown_one (x := x) qx.ok (by decide) sh_places
      by_cases hc : colsB c = true
      · rw [hc] at fin an
        simp -implicitDefEqProofs (disch := first | (with_reducible assumption) | ((with_reducible show List.length _ = _); rfl) | (simp only [allD_cons, allD_nil, Option.map_some, Option.isSome_some]; done) | (simp only [List.length_cons, List.length_nil, List.length_map]; done) | ((with_reducible refine cMod_of ?_); omega) | ((with_reducible refine cDiv_of ?_ ?_) <;> omega) | ((with_reducible refine okR_of ?_ ?_) <;> omega) | omega | (simp only [List.length_take, List.length_drop, List.length_append, List.length_cons, List.length_nil, List.length_map, List.length_range, List.length_replicate]; omega)) [-sSeq_r, -sRet_r, -sDrop_r, -sSet_r, -sIf_r, -sPar_r, -sAsg_r, -sSetIx_r, -sFor_r, -gsCons_r, -gT_r, -e1_r, -e2_r, -tV_r, -tAndM_r, -tOrM_r, -tNotM_r, -eAnd_r, -eOr_r, -eNot_r, -eIf_r, -aCons_r, -eN_r, -fCall_r, -eCallK_r, -eM_r, -eSl_r, -oSome_r, -eIsN_r, -eLc_r, -iSeq_r, -iRng_r, dIsi_tup, isTup, ix, an, r6_l_is_shape, ix0, dReprE_gd qx.gd, dEq_str, s1]
        have gs4 : ∀ z ∈ sg4, Gd 40 16000000 (.str z) := fun z hz => by
          simp only [sg4, List.mem_cons, List.not_mem_nil, or_false] at hz
          rcases hz with rfl | rfl | rfl | rfl <;> exact gd_str (by decide)
        have gs3 : ∀ z ∈ sg3, Gd 40 16000000 (.str z) := fun z hz => by
          simp only [sg3, List.mem_cons, List.not_mem_nil, or_false] at hz
          rcases hz with rfl | rfl | rfl <;> exact gd_str (by decide)
        by_cases hs : inS [T [115, 105, 103, 110, 115]] x = true
        · obtain ⟨l, rfl⟩ : ∃ l, x = .str (T l) := by
            cases q : isS x with
            | true => exact isS_iff q
            | false => rw [inS_no q] at hs; cases hs
          have hl2 : l = [115, 105, 103, 110, 115] := by rw [inS_str] at hs; exact of_decide_eq_true hs
          subst hl2
          simp -implicitDefEqProofs (disch := first | (with_reducible assumption) | ((with_reducible show List.length _ = _); rfl) | (simp only [allD_cons, allD_nil, Option.map_some, Option.isSome_some]; done) | (simp only [List.length_cons, List.length_nil, List.length_map]; done) | ((with_reducible refine cMod_of ?_); omega) | ((with_reducible refine cDiv_of ?_ ?_) <;> omega) | ((with_reducible refine okR_of ?_ ?_) <;> omega) | omega | (simp only [List.length_take, List.length_drop, List.length_append, List.length_cons, List.length_nil, List.length_map, List.length_range, List.length_replicate]; omega)) [-sSeq_r, -sRet_r, -sDrop_r, -sSet_r, -sIf_r, -sPar_r, -sAsg_r, -sSetIx_r, -sFor_r, -gsCons_r, -gT_r, -e1_r, -e2_r, -tV_r, -tAndM_r, -tOrM_r, -tNotM_r, -eAnd_r, -eOr_r, -eNot_r, -eIf_r, -aCons_r, -eN_r, -fCall_r, -eCallK_r, -eM_r, -eSl_r, -oSome_r, -eIsN_r, -eLc_r, -iSeq_r, -iRng_r, hs]
          refine Wp_eq (reprs (zs := sg4) gs4 (by decide) fun z hz => rfl) ?_
          simp -implicitDefEqProofs (disch := first | (with_reducible assumption) | ((with_reducible show List.length _ = _); rfl) | (simp only [allD_cons, allD_nil, Option.map_some, Option.isSome_some]; done) | (simp only [List.length_cons, List.length_nil, List.length_map]; done) | ((with_reducible refine cMod_of ?_); omega) | ((with_reducible refine cDiv_of ?_ ?_) <;> omega) | ((with_reducible refine okR_of ?_ ?_) <;> omega) | omega | (simp only [List.length_take, List.length_drop, List.length_append, List.length_cons, List.length_nil, List.length_map, List.length_range, List.length_replicate]; omega)) [-sSeq_r, -sRet_r, -sDrop_r, -sSet_r, -sIf_r, -sPar_r, -sAsg_r, -sSetIx_r, -sFor_r, -gsCons_r, -gT_r, -e1_r, -e2_r, -tV_r, -tAndM_r, -tOrM_r, -tNotM_r, -eAnd_r, -eOr_r, -eNot_r, -eIf_r, -aCons_r, -eN_r, -fCall_r, -eCallK_r, -eM_r, -eSl_r, -oSome_r, -eIsN_r, -eLc_r, -iSeq_r, -iRng_r, r1_l_is_shape]
          simpa [inS_str] using fin
        · have hs : inS [T [115, 105, 103, 110, 115]] x = false := by simpa using hs
          by_cases hn : inS [T [110, 97, 109, 101, 100]] x = true
          · rw [hn] at fin
            simp -implicitDefEqProofs (disch := first | (with_reducible assumption) | ((with_reducible show List.length _ = _); rfl) | (simp only [allD_cons, allD_nil, Option.map_some, Option.isSome_some]; done) | (simp only [List.length_cons, List.length_nil, List.length_map]; done) | ((with_reducible refine cMod_of ?_); omega) | ((with_reducible refine cDiv_of ?_ ?_) <;> omega) | ((with_reducible refine okR_of ?_ ?_) <;> omega) | omega | (simp only [List.length_take, List.length_drop, List.length_append, List.length_cons, List.length_nil, List.length_map, List.length_range, List.length_replicate]; omega)) [-sSeq_r, -sRet_r, -sDrop_r, -sSet_r, -sIf_r, -sPar_r, -sAsg_r, -sSetIx_r, -sFor_r, -gsCons_r, -gT_r, -e1_r, -e2_r, -tV_r, -tAndM_r, -tOrM_r, -tNotM_r, -eAnd_r, -eOr_r, -eNot_r, -eIf_r, -aCons_r, -eN_r, -fCall_r, -eCallK_r, -eM_r, -eSl_r, -oSome_r, -eIsN_r, -eLc_r, -iSeq_r, -iRng_r, hs, r5_l_is_shape, ix0, dReprE_gd qx.gd, dEq_str, s2, hn, ix1, dReprE_gd qa.gd]
            refine Wp_eq (reprs (zs := sg3) gs3 (by decide) fun z hz => rfl) ?_
            have m := shown_mem (zs := sg3) qa.ok fun z hz => (gs3 z hz).ok
            generalize (sg3.map fun z => (PyData.str z).shown) = rs at m
            simp -implicitDefEqProofs (disch := first | (with_reducible assumption) | ((with_reducible show List.length _ = _); rfl) | (simp only [allD_cons, allD_nil, Option.map_some, Option.isSome_some]; done) | (simp only [List.length_cons, List.length_nil, List.length_map]; done) | ((with_reducible refine cMod_of ?_); omega) | ((with_reducible refine cDiv_of ?_ ?_) <;> omega) | ((with_reducible refine okR_of ?_ ?_) <;> omega) | omega | (simp only [List.length_take, List.length_drop, List.length_append, List.length_cons, List.length_nil, List.length_map, List.length_range, List.length_replicate]; omega)) [-sSeq_r, -sRet_r, -sDrop_r, -sSet_r, -sIf_r, -sPar_r, -sAsg_r, -sSetIx_r, -sFor_r, -gsCons_r, -gT_r, -e1_r, -e2_r, -tV_r, -tAndM_r, -tOrM_r, -tNotM_r, -eAnd_r, -eOr_r, -eNot_r, -eIf_r, -aCons_r, -eN_r, -fCall_r, -eCallK_r, -eM_r, -eSl_r, -oSome_r, -eIsN_r, -eLc_r, -iSeq_r, -iRng_r, dIn_strsL, m]
            simpa using fin
          · have hn : inS [T [110, 97, 109, 101, 100]] x = false := by simpa using hn
            rw [hn] at fin
            by_cases hp : inS [T [112, 108, 97, 99, 101, 115]] x = true
            · rw [hp] at fin
              by_cases ha : isTup a = true
              · obtain ⟨as, rfl⟩ : ∃ as, a = .tuple as := by cases a <;> first | exact ⟨_, rfl⟩ | cases ha
                obtain ⟨cs, rfl⟩ : ∃ cs, c = .tuple cs := by cases c <;> first | exact ⟨_, rfl⟩ | cases hc
                simp -implicitDefEqProofs (disch := first | (with_reducible assumption) | ((with_reducible show List.length _ = _); rfl) | (simp only [allD_cons, allD_nil, Option.map_some, Option.isSome_some]; done) | (simp only [List.length_cons, List.length_nil, List.length_map]; done) | ((with_reducible refine cMod_of ?_); omega) | ((with_reducible refine cDiv_of ?_ ?_) <;> omega) | ((with_reducible refine okR_of ?_ ?_) <;> omega) | omega | (simp only [List.length_take, List.length_drop, List.length_append, List.length_cons, List.length_nil, List.length_map, List.length_range, List.length_replicate]; omega)) [-sSeq_r, -sRet_r, -sDrop_r, -sSet_r, -sIf_r, -sPar_r, -sAsg_r, -sSetIx_r, -sFor_r, -gsCons_r, -gT_r, -e1_r, -e2_r, -tV_r, -tAndM_r, -tOrM_r, -tNotM_r, -eAnd_r, -eOr_r, -eNot_r, -eIf_r, -aCons_r, -eN_r, -fCall_r, -eCallK_r, -eM_r, -eSl_r, -oSome_r, -eIsN_r, -eLc_r, -iSeq_r, -iRng_r, hs, r5_l_is_shape, ix0, dReprE_gd qx.gd, dEq_str, s2, hn, r4_l_is_shape, s3, hp, ix1, dIsi_tup, isTup, r3_l_is_shape]
                have er : rng2 [.d (.int 1), .d (.int 21)] μ = .ok (w20.map .d) μ := by rfl
                rw [er]
                have g20 : ∀ y ∈ w20, Gd 40 16000000 y := by
                  have : (w20.all fun d => okD d && decide (d.depth ≤ 40) && decide (wt d ≤ 16000000)) = true := by decide +kernel
                  intro y hy
                  have := List.all_eq_true.mp this y hy
                  simp only [Bool.and_eq_true, decide_eq_true_eq] at this
                  exact ⟨this.1.1, this.1.2, this.2⟩
                simp -implicitDefEqProofs (disch := first | (with_reducible assumption) | ((with_reducible show List.length _ = _); rfl) | (simp only [allD_cons, allD_nil, Option.map_some, Option.isSome_some]; done) | (simp only [List.length_cons, List.length_nil, List.length_map]; done) | ((with_reducible refine cMod_of ?_); omega) | ((with_reducible refine cDiv_of ?_ ?_) <;> omega) | ((with_reducible refine okR_of ?_ ?_) <;> omega) | omega | (simp only [List.length_take, List.length_drop, List.length_append, List.length_cons, List.length_nil, List.length_map, List.length_range, List.length_replicate]; omega)) [-sSeq_r, -sRet_r, -sDrop_r, -sSet_r, -sIf_r, -sPar_r, -sAsg_r, -sSetIx_r, -sFor_r, -gsCons_r, -gT_r, -e1_r, -e2_r, -tV_r, -tAndM_r, -tOrM_r, -tNotM_r, -eAnd_r, -eOr_r, -eNot_r, -eIf_r, -aCons_r, -eN_r, -fCall_r, -eCallK_r, -eM_r, -eSl_r, -oSome_r, -eIsN_r, -eLc_r, -iSeq_r, -iRng_r, ]
                refine Wp_eq (lcF_data (ds := w20) (f := fun y => .str y.shown) (by decide) fun y hy => dReprE_gd (g20 y hy)) ?_
                have ev : (w20.map fun y => PyData.str y.shown) = (w20.map PyData.shown).map .str := by rw [List.map_map]; rfl
                rw [ev]
                have m20 : ∀ y, okD y = true → decide (y.shown ∈ w20.map PyData.shown) = wB y := fun y hy => w20_mem hy
                generalize w20.map PyData.shown = rs at m20
                have ga := hg _ rfl (.tuple as) (by simp) as rfl
                have la := (qa.tp as rfl).1
                have fin : P (.d (.bool (widthsB cs.length (.tuple as)))) μ := by simpa [tupL] using fin
                have fin : P (.d (.bool (decide (as.length = cs.length) && as.all wB))) μ := fin
                by_cases hlen : as.length = cs.length
                · simp -implicitDefEqProofs (disch := first | (with_reducible assumption) | ((with_reducible show List.length _ = _); rfl) | (simp only [allD_cons, allD_nil, Option.map_some, Option.isSome_some]; done) | (simp only [List.length_cons, List.length_nil, List.length_map]; done) | ((with_reducible refine cMod_of ?_); omega) | ((with_reducible refine cDiv_of ?_ ?_) <;> omega) | ((with_reducible refine okR_of ?_ ?_) <;> omega) | omega | (simp only [List.length_take, List.length_drop, List.length_append, List.length_cons, List.length_nil, List.length_map, List.length_range, List.length_replicate]; omega)) [-sSeq_r, -sRet_r, -sDrop_r, -sSet_r, -sIf_r, -sPar_r, -sAsg_r, -sSetIx_r, -sFor_r, -gsCons_r, -gT_r, -e1_r, -e2_r, -tV_r, -tAndM_r, -tOrM_r, -tNotM_r, -eAnd_r, -eOr_r, -eNot_r, -eIf_r, -aCons_r, -eN_r, -fCall_r, -eCallK_r, -eM_r, -eSl_r, -oSome_r, -eIsN_r, -eLc_r, -iSeq_r, -iRng_r, r2_l_is_shape, ix1, ix2, hlen]
                  refine Wp_eq (lcF_data (ds := as) (f := fun y => .bool (wB y)) (by omega) fun y hy => ?_) ?_
                  · have := dReprE_gd (μ := μ) (ga y hy)
                    refine of_w ?_
                    simp only [c4_l_is_shape, wipeD]
                    simp -implicitDefEqProofs (disch := first | (with_reducible assumption) | ((with_reducible show List.length _ = _); rfl) | (simp only [allD_cons, allD_nil, Option.map_some, Option.isSome_some]; done) | (simp only [List.length_cons, List.length_nil, List.length_map]; done) | ((with_reducible refine cMod_of ?_); omega) | ((with_reducible refine cDiv_of ?_ ?_) <;> omega) | ((with_reducible refine okR_of ?_ ?_) <;> omega) | omega | (simp only [List.length_take, List.length_drop, List.length_append, List.length_cons, List.length_nil, List.length_map, List.length_range, List.length_replicate]; omega)) [-sSeq_r, -sRet_r, -sDrop_r, -sSet_r, -sIf_r, -sPar_r, -sAsg_r, -sSetIx_r, -sFor_r, -gsCons_r, -gT_r, -e1_r, -e2_r, -tV_r, -tAndM_r, -tOrM_r, -tNotM_r, -eAnd_r, -eOr_r, -eNot_r, -eIf_r, -aCons_r, -eN_r, -fCall_r, -eCallK_r, -eM_r, -eSl_r, -oSome_r, -eIsN_r, -eLc_r, -iSeq_r, -iRng_r, this, dIn_strsL, m20 y (ga y hy).ok]
                  · simp -implicitDefEqProofs (disch := first | (with_reducible assumption) | ((with_reducible show List.length _ = _); rfl) | (simp only [allD_cons, allD_nil, Option.map_some, Option.isSome_some]; done) | (simp only [List.length_cons, List.length_nil, List.length_map]; done) | ((with_reducible refine cMod_of ?_); omega) | ((with_reducible refine cDiv_of ?_ ?_) <;> omega) | ((with_reducible refine okR_of ?_ ?_) <;> omega) | omega | (simp only [List.length_take, List.length_drop, List.length_append, List.length_cons, List.length_nil, List.length_map, List.length_range, List.length_replicate]; omega)) [-sSeq_r, -sRet_r, -sDrop_r, -sSet_r, -sIf_r, -sPar_r, -sAsg_r, -sSetIx_r, -sFor_r, -gsCons_r, -gT_r, -e1_r, -e2_r, -tV_r, -tAndM_r, -tOrM_r, -tNotM_r, -eAnd_r, -eOr_r, -eNot_r, -eIf_r, -aCons_r, -eN_r, -fCall_r, -eCallK_r, -eM_r, -eSl_r, -oSome_r, -eIsN_r, -eLc_r, -iSeq_r, -iRng_r, all_bools]
                    simpa [hlen] using fin
                · have hlenI : ¬ (as.length : Int) = (cs.length : Int) := by omega
                  simp -implicitDefEqProofs (disch := first | (with_reducible assumption) | ((with_reducible show List.length _ = _); rfl) | (simp only [allD_cons, allD_nil, Option.map_some, Option.isSome_some]; done) | (simp only [List.length_cons, List.length_nil, List.length_map]; done) | ((with_reducible refine cMod_of ?_); omega) | ((with_reducible refine cDiv_of ?_ ?_) <;> omega) | ((with_reducible refine okR_of ?_ ?_) <;> omega) | omega | (simp only [List.length_take, List.length_drop, List.length_append, List.length_cons, List.length_nil, List.length_map, List.length_range, List.length_replicate]; omega)) [-sSeq_r, -sRet_r, -sDrop_r, -sSet_r, -sIf_r, -sPar_r, -sAsg_r, -sSetIx_r, -sFor_r, -gsCons_r, -gT_r, -e1_r, -e2_r, -tV_r, -tAndM_r, -tOrM_r, -tNotM_r, -eAnd_r, -eOr_r, -eNot_r, -eIf_r, -aCons_r, -eN_r, -fCall_r, -eCallK_r, -eM_r, -eSl_r, -oSome_r, -eIsN_r, -eLc_r, -iSeq_r, -iRng_r, r2_l_is_shape, ix1, ix2, hlenI]
                  simpa [hlen] using fin
              · have ha : isTup a = false := by simpa using ha
                have : widthsB (tupL c).length a = false := by cases a <;> first | rfl | cases ha
                rw [this] at fin
                simp -implicitDefEqProofs (disch := first | (with_reducible assumption) | ((with_reducible show List.length _ = _); rfl) | (simp only [allD_cons, allD_nil, Option.map_some, Option.isSome_some]; done) | (simp only [List.length_cons, List.length_nil, List.length_map]; done) | ((with_reducible refine cMod_of ?_); omega) | ((with_reducible refine cDiv_of ?_ ?_) <;> omega) | ((with_reducible refine okR_of ?_ ?_) <;> omega) | omega | (simp only [List.length_take, List.length_drop, List.length_append, List.length_cons, List.length_nil, List.length_map, List.length_range, List.length_replicate]; omega)) [-sSeq_r, -sRet_r, -sDrop_r, -sSet_r, -sIf_r, -sPar_r, -sAsg_r, -sSetIx_r, -sFor_r, -gsCons_r, -gT_r, -e1_r, -e2_r, -tV_r, -tAndM_r, -tOrM_r, -tNotM_r, -eAnd_r, -eOr_r, -eNot_r, -eIf_r, -aCons_r, -eN_r, -fCall_r, -eCallK_r, -eM_r, -eSl_r, -oSome_r, -eIsN_r, -eLc_r, -iSeq_r, -iRng_r, hs, r5_l_is_shape, ix0, dReprE_gd qx.gd, dEq_str, s2, hn, r4_l_is_shape, s3, hp, ix1, dIsi_tup, ha]
                simpa using fin
            · have hp : inS [T [112, 108, 97, 99, 101, 115]] x = false := by simpa using hp
              rw [hp] at fin
              simp -implicitDefEqProofs (disch := first | (with_reducible assumption) | ((with_reducible show List.length _ = _); rfl) | (simp only [allD_cons, allD_nil, Option.map_some, Option.isSome_some]; done) | (simp only [List.length_cons, List.length_nil, List.length_map]; done) | ((with_reducible refine cMod_of ?_); omega) | ((with_reducible refine cDiv_of ?_ ?_) <;> omega) | ((with_reducible refine okR_of ?_ ?_) <;> omega) | omega | (simp only [List.length_take, List.length_drop, List.length_append, List.length_cons, List.length_nil, List.length_map, List.length_range, List.length_replicate]; omega)) [-sSeq_r, -sRet_r, -sDrop_r, -sSet_r, -sIf_r, -sPar_r, -sAsg_r, -sSetIx_r, -sFor_r, -gsCons_r, -gT_r, -e1_r, -e2_r, -tV_r, -tAndM_r, -tOrM_r, -tNotM_r, -eAnd_r, -eOr_r, -eNot_r, -eIf_r, -aCons_r, -eN_r, -fCall_r, -eCallK_r, -eM_r, -eSl_r, -oSome_r, -eIsN_r, -eLc_r, -iSeq_r, -iRng_r, hs, r5_l_is_shape, ix0, dReprE_gd qx.gd, dEq_str, s2, hn, r4_l_is_shape, s3, hp]
              simpa using fin
      · have hc : colsB c = false := by simpa using hc
        rw [hc] at fin an
        simp -implicitDefEqProofs (disch := first | (with_reducible assumption) | ((with_reducible show List.length _ = _); rfl) | (simp only [allD_cons, allD_nil, Option.map_some, Option.isSome_some]; done) | (simp only [List.length_cons, List.length_nil, List.length_map]; done) | ((with_reducible refine cMod_of ?_); omega) | ((with_reducible refine cDiv_of ?_ ?_) <;> omega) | ((with_reducible refine okR_of ?_ ?_) <;> omega) | omega | (simp only [List.length_take, List.length_drop, List.length_append, List.length_cons, List.length_nil, List.length_map, List.length_range, List.length_replicate]; omega)) [-sSeq_r, -sRet_r, -sDrop_r, -sSet_r, -sIf_r, -sPar_r, -sAsg_r, -sSetIx_r, -sFor_r, -gsCons_r, -gT_r, -e1_r, -e2_r, -tV_r, -tAndM_r, -tOrM_r, -tNotM_r, -eAnd_r, -eOr_r, -eNot_r, -eIf_r, -aCons_r, -eN_r, -fCall_r, -eCallK_r, -eM_r, -eSl_r, -oSome_r, -eIsN_r, -eLc_r, -iSeq_r, -iRng_r, dIsi_tup, isTup, ix, an]
        exact fin
    · by_cases l4 : ds.length = 4
      · obtain ⟨x, a, b, c, rfl⟩ : ∃ x a b c, ds = [x, a, b, c] := by
          match ds, l4 with
          | x :: r, h =>
            obtain ⟨a, b, c, rfl⟩ := three (r := r) (by simpa using h)
            exact ⟨x, a, b, c, rfl⟩
        have qx := hq x (by simp)
        have qa := hq a (by simp)
        have qb := hq b (by simp)
        have qc := hq c (by simp)
        have ix : dIx (.d (.tuple [x, a, b, c])) (.d (.int (-1))) μ = .ok (.d c) μ := dIx_t (by rfl)
        have ix0 : dIx (.d (.tuple [x, a, b, c])) (.d (.int 0)) μ = .ok (.d x) μ := dIx_t (by rfl)
        have ix1 : dIx (.d (.tuple [x, a, b, c])) (.d (.int 1)) μ = .ok (.d a) μ := dIx_t (by rfl)
        have ix2 : dIx (.d (.tuple [x, a, b, c])) (.d (.int 2)) μ = .ok (.d b) μ := dIx_t (by rfl)
        have an := are_cols_eq (μ := μ) qc.tp
        have fin : P (.d (.bool (sh4 x a b c))) μ := fin
        unfold sh4 at fin
        have s1 := shown_one (x := x) qx.ok (by decide) sh_signs
        have s2 := shown_one (x := x) qx.ok (by decide) sh_named
        by_cases hc : colsB c = true
        · rw [hc] at fin an
          have gs4 : ∀ z ∈ sg4, Gd 40 16000000 (.str z) := fun z hz => by
            simp only [sg4, List.mem_cons, List.not_mem_nil, or_false] at hz
            rcases hz with rfl | rfl | rfl | rfl <;> exact gd_str (by decide)
          by_cases hs : inS [T [115, 105, 103, 110, 115]] x = true
          · rw [hs] at fin
            simp -implicitDefEqProofs (disch := first | (with_reducible assumption) | ((with_reducible show List.length _ = _); rfl) | (simp only [allD_cons, allD_nil, Option.map_some, Option.isSome_some]; done) | (simp only [List.length_cons, List.length_nil, List.length_map]; done) | ((with_reducible refine cMod_of ?_); omega) | ((with_reducible refine cDiv_of ?_ ?_) <;> omega) | ((with_reducible refine okR_of ?_ ?_) <;> omega) | omega | (simp only [List.length_take, List.length_drop, List.length_append, List.length_cons, List.length_nil, List.length_map, List.length_range, List.length_replicate]; omega)) [-sSeq_r, -sRet_r, -sDrop_r, -sSet_r, -sIf_r, -sPar_r, -sAsg_r, -sSetIx_r, -sFor_r, -gsCons_r, -gT_r, -e1_r, -e2_r, -tV_r, -tAndM_r, -tOrM_r, -tNotM_r, -eAnd_r, -eOr_r, -eNot_r, -eIf_r, -aCons_r, -eN_r, -fCall_r, -eCallK_r, -eM_r, -eSl_r, -oSome_r, -eIsN_r, -eLc_r, -iSeq_r, -iRng_r, dIsi_tup, isTup, ix, an, r6_l_is_shape, ix0, dReprE_gd qx.gd, dEq_str, s1, hs]
            refine Wp_eq (reprs (zs := sg4) gs4 (by decide) fun z hz => rfl) ?_
            have m := shown_mem (zs := sg4) qa.ok fun z hz => (gs4 z hz).ok
            have okq : ∀ z ∈ qts, okD (.str z) = true := fun z hz => by
              simp only [qts, List.mem_cons, List.not_mem_nil, or_false] at hz
              rcases hz with rfl | rfl <;> decide
            have m2 : decide (b.shown ∈ [(PyData.str (T [39])).shown, (PyData.str (T [34])).shown]) = inS qts b := by
              rw [← shown_mem qb.ok okq, decide_eq_decide]
              simp only [qts, List.map_cons, List.map_nil, List.mem_cons, List.not_mem_nil, or_false]
              exact or_comm
            generalize (sg4.map fun z => (PyData.str z).shown) = rs at m
            have d2 : dIn false (.d (.str b.shown)) (.d (.list [.str (PyData.str (T [39])).shown, .str (PyData.str (T [34])).shown])) μ = .ok (.d (.bool (inS qts b))) μ := by
              have := dIn_strsL (n := false) (s := b.shown) (zs := [(PyData.str (T [39])).shown, (PyData.str (T [34])).shown]) (μ := μ)
              rw [← m2]
              exact this
            by_cases hm : inS sg4 a = true
            · rw [hm] at m fin
              simp -implicitDefEqProofs (disch := first | (with_reducible assumption) | ((with_reducible show List.length _ = _); rfl) | (simp only [allD_cons, allD_nil, Option.map_some, Option.isSome_some]; done) | (simp only [List.length_cons, List.length_nil, List.length_map]; done) | ((with_reducible refine cMod_of ?_); omega) | ((with_reducible refine cDiv_of ?_ ?_) <;> omega) | ((with_reducible refine okR_of ?_ ?_) <;> omega) | omega | (simp only [List.length_take, List.length_drop, List.length_append, List.length_cons, List.length_nil, List.length_map, List.length_range, List.length_replicate]; omega)) [-sSeq_r, -sRet_r, -sDrop_r, -sSet_r, -sIf_r, -sPar_r, -sAsg_r, -sSetIx_r, -sFor_r, -gsCons_r, -gT_r, -e1_r, -e2_r, -tV_r, -tAndM_r, -tOrM_r, -tNotM_r, -eAnd_r, -eOr_r, -eNot_r, -eIf_r, -aCons_r, -eN_r, -fCall_r, -eCallK_r, -eM_r, -eSl_r, -oSome_r, -eIsN_r, -eLc_r, -iSeq_r, -iRng_r, r1_l_is_shape, ix1, ix2, dReprE_gd qa.gd, dReprE_gd qb.gd, dIn_strsL, m, dReprE_gd (gd_str (l := [39]) (by decide)), dReprE_gd (gd_str (l := [34]) (by decide)), d2]
              simpa using fin
            · have hm : inS sg4 a = false := by simpa using hm
              rw [hm] at m fin
              simp -implicitDefEqProofs (disch := first | (with_reducible assumption) | ((with_reducible show List.length _ = _); rfl) | (simp only [allD_cons, allD_nil, Option.map_some, Option.isSome_some]; done) | (simp only [List.length_cons, List.length_nil, List.length_map]; done) | ((with_reducible refine cMod_of ?_); omega) | ((with_reducible refine cDiv_of ?_ ?_) <;> omega) | ((with_reducible refine okR_of ?_ ?_) <;> omega) | omega | (simp only [List.length_take, List.length_drop, List.length_append, List.length_cons, List.length_nil, List.length_map, List.length_range, List.length_replicate]; omega)) [-sSeq_r, -sRet_r, -sDrop_r, -sSet_r, -sIf_r, -sPar_r, -sAsg_r, -sSetIx_r, -sFor_r, -gsCons_r, -gT_r, -e1_r, -e2_r, -tV_r, -tAndM_r, -tOrM_r, -tNotM_r, -eAnd_r, -eOr_r, -eNot_r, -eIf_r, -aCons_r, -eN_r, -fCall_r, -eCallK_r, -eM_r, -eSl_r, -oSome_r, -eIsN_r, -eLc_r, -iSeq_r, -iRng_r, r1_l_is_shape, ix1, ix2, dReprE_gd qa.gd, dReprE_gd qb.gd, dIn_strsL, m]
              simpa using fin
          · have hs : inS [T [115, 105, 103, 110, 115]] x = false := by simpa using hs
            rw [hs] at fin
            by_cases hn : inS [T [110, 97, 109, 101, 100]] x = true
            · simp -implicitDefEqProofs (disch := first | (with_reducible assumption) | ((with_reducible show List.length _ = _); rfl) | (simp only [allD_cons, allD_nil, Option.map_some, Option.isSome_some]; done) | (simp only [List.length_cons, List.length_nil, List.length_map]; done) | ((with_reducible refine cMod_of ?_); omega) | ((with_reducible refine cDiv_of ?_ ?_) <;> omega) | ((with_reducible refine okR_of ?_ ?_) <;> omega) | omega | (simp only [List.length_take, List.length_drop, List.length_append, List.length_cons, List.length_nil, List.length_map, List.length_range, List.length_replicate]; omega)) [-sSeq_r, -sRet_r, -sDrop_r, -sSet_r, -sIf_r, -sPar_r, -sAsg_r, -sSetIx_r, -sFor_r, -gsCons_r, -gT_r, -e1_r, -e2_r, -tV_r, -tAndM_r, -tOrM_r, -tNotM_r, -eAnd_r, -eOr_r, -eNot_r, -eIf_r, -aCons_r, -eN_r, -fCall_r, -eCallK_r, -eM_r, -eSl_r, -oSome_r, -eIsN_r, -eLc_r, -iSeq_r, -iRng_r, dIsi_tup, isTup, ix, an, r6_l_is_shape, ix0, dReprE_gd qx.gd, dEq_str, s1, hs, r5_l_is_shape, s2, hn]
              simpa using fin
            · have hn : inS [T [110, 97, 109, 101, 100]] x = false := by simpa using hn
              have s3 := shown_one (x := x) qx.ok (by decide) sh_places
              by_cases hp : inS [T [112, 108, 97, 99, 101, 115]] x = true
              · simp -implicitDefEqProofs (disch := first | (with_reducible assumption) | ((with_reducible show List.length _ = _); rfl) | (simp only [allD_cons, allD_nil, Option.map_some, Option.isSome_some]; done) | (simp only [List.length_cons, List.length_nil, List.length_map]; done) | ((with_reducible refine cMod_of ?_); omega) | ((with_reducible refine cDiv_of ?_ ?_) <;> omega) | ((with_reducible refine okR_of ?_ ?_) <;> omega) | omega | (simp only [List.length_take, List.length_drop, List.length_append, List.length_cons, List.length_nil, List.length_map, List.length_range, List.length_replicate]; omega)) [-sSeq_r, -sRet_r, -sDrop_r, -sSet_r, -sIf_r, -sPar_r, -sAsg_r, -sSetIx_r, -sFor_r, -gsCons_r, -gT_r, -e1_r, -e2_r, -tV_r, -tAndM_r, -tOrM_r, -tNotM_r, -eAnd_r, -eOr_r, -eNot_r, -eIf_r, -aCons_r, -eN_r, -fCall_r, -eCallK_r, -eM_r, -eSl_r, -oSome_r, -eIsN_r, -eLc_r, -iSeq_r, -iRng_r, dIsi_tup, isTup, ix, an, r6_l_is_shape, ix0, dReprE_gd qx.gd, dEq_str, s1, hs, r5_l_is_shape, s2, hn, r4_l_is_shape, s3, hp]
                simpa using fin
              · have hp : inS [T [112, 108, 97, 99, 101, 115]] x = false := by simpa using hp
                simp -implicitDefEqProofs (disch := first | (with_reducible assumption) | ((with_reducible show List.length _ = _); rfl) | (simp only [allD_cons, allD_nil, Option.map_some, Option.isSome_some]; done) | (simp only [List.length_cons, List.length_nil, List.length_map]; done) | ((with_reducible refine cMod_of ?_); omega) | ((with_reducible refine cDiv_of ?_ ?_) <;> omega) | ((with_reducible refine okR_of ?_ ?_) <;> omega) | omega | (simp only [List.length_take, List.length_drop, List.length_append, List.length_cons, List.length_nil, List.length_map, List.length_range, List.length_replicate]; omega)) [-sSeq_r, -sRet_r, -sDrop_r, -sSet_r, -sIf_r, -sPar_r, -sAsg_r, -sSetIx_r, -sFor_r, -gsCons_r, -gT_r, -e1_r, -e2_r, -tV_r, -tAndM_r, -tOrM_r, -tNotM_r, -eAnd_r, -eOr_r, -eNot_r, -eIf_r, -aCons_r, -eN_r, -fCall_r, -eCallK_r, -eM_r, -eSl_r, -oSome_r, -eIsN_r, -eLc_r, -iSeq_r, -iRng_r, dIsi_tup, isTup, ix, an, r6_l_is_shape, ix0, dReprE_gd qx.gd, dEq_str, s1, hs, r5_l_is_shape, s2, hn, r4_l_is_shape, s3, hp]
                simpa using fin
        · have hc : colsB c = false := by simpa using hc
          rw [hc] at fin an
          simp -implicitDefEqProofs (disch := first | (with_reducible assumption) | ((with_reducible show List.length _ = _); rfl) | (simp only [allD_cons, allD_nil, Option.map_some, Option.isSome_some]; done) | (simp only [List.length_cons, List.length_nil, List.length_map]; done) | ((with_reducible refine cMod_of ?_); omega) | ((with_reducible refine cDiv_of ?_ ?_) <;> omega) | ((with_reducible refine okR_of ?_ ?_) <;> omega) | omega | (simp only [List.length_take, List.length_drop, List.length_append, List.length_cons, List.length_nil, List.length_map, List.length_range, List.length_replicate]; omega)) [-sSeq_r, -sRet_r, -sDrop_r, -sSet_r, -sIf_r, -sPar_r, -sAsg_r, -sSetIx_r, -sFor_r, -gsCons_r, -gT_r, -e1_r, -e2_r, -tV_r, -tAndM_r, -tOrM_r, -tNotM_r, -eAnd_r, -eOr_r, -eNot_r, -eIf_r, -aCons_r, -eN_r, -fCall_r, -eCallK_r, -eM_r, -eSl_r, -oSome_r, -eIsN_r, -eLc_r, -iSeq_r, -iRng_r, dIsi_tup, isTup, ix, an]
          simpa using fin
      · have e : isSh (.tuple ds) = false := by
          match ds, l3, l4 with
          | [], _, _ => simp [isSh]
          | [x], _, _ => simp [isSh]
          | [x, y], _, _ => simp [isSh]
          | [x, y, z], h, _ => exact absurd rfl h
          | [x, y, z, w], _, h => exact absurd rfl h
          | x :: y :: z :: w :: v :: r, _, _ => simp [isSh]
        rw [e] at fin
        by_cases l2 : 2 < ds.length
        · have i1 : (2 : Int) < (ds.length : Int) := by omega
          have i2 : ¬ (ds.length : Int) < 5 := by omega
          simp -implicitDefEqProofs (disch := first | (with_reducible assumption) | ((with_reducible show List.length _ = _); rfl) | (simp only [allD_cons, allD_nil, Option.map_some, Option.isSome_some]; done) | (simp only [List.length_cons, List.length_nil, List.length_map]; done) | ((with_reducible refine cMod_of ?_); omega) | ((with_reducible refine cDiv_of ?_ ?_) <;> omega) | ((with_reducible refine okR_of ?_ ?_) <;> omega) | omega | (simp only [List.length_take, List.length_drop, List.length_append, List.length_cons, List.length_nil, List.length_map, List.length_range, List.length_replicate]; omega)) [-sSeq_r, -sRet_r, -sDrop_r, -sSet_r, -sIf_r, -sPar_r, -sAsg_r, -sSetIx_r, -sFor_r, -gsCons_r, -gT_r, -e1_r, -e2_r, -tV_r, -tAndM_r, -tOrM_r, -tNotM_r, -eAnd_r, -eOr_r, -eNot_r, -eIf_r, -aCons_r, -eN_r, -fCall_r, -eCallK_r, -eM_r, -eSl_r, -oSome_r, -eIsN_r, -eLc_r, -iSeq_r, -iRng_r, dIsi_tup, isTup, i1, i2]
          exact fin
        · have i1 : ¬ (2 : Int) < (ds.length : Int) := by omega
          simp -implicitDefEqProofs (disch := first | (with_reducible assumption) | ((with_reducible show List.length _ = _); rfl) | (simp only [allD_cons, allD_nil, Option.map_some, Option.isSome_some]; done) | (simp only [List.length_cons, List.length_nil, List.length_map]; done) | ((with_reducible refine cMod_of ?_); omega) | ((with_reducible refine cDiv_of ?_ ?_) <;> omega) | ((with_reducible refine okR_of ?_ ?_) <;> omega) | omega | (simp only [List.length_take, List.length_drop, List.length_append, List.length_cons, List.length_nil, List.length_map, List.length_range, List.length_replicate]; omega)) [-sSeq_r, -sRet_r, -sDrop_r, -sSet_r, -sIf_r, -sPar_r, -sAsg_r, -sSetIx_r, -sFor_r, -gsCons_r, -gT_r, -e1_r, -e2_r, -tV_r, -tAndM_r, -tOrM_r, -tNotM_r, -eAnd_r, -eOr_r, -eNot_r, -eIf_r, -aCons_r, -eN_r, -fCall_r, -eCallK_r, -eM_r, -eSl_r, -oSome_r, -eIsN_r, -eLc_r, -iSeq_r, -iRng_r, dIsi_tup, isTup, i1]
          exact fin
  | none => exact notT rfl
  | bool _ => exact notT rfl
  | int _ => exact notT rfl
  | str _ => exact notT rfl
  | list _ => exact notT rfl
  | dict _ => exact notT rfl
end
end LW

namespace LW
open PySem PySem.Spec PyProof.Rows L2 DL
theorem Gd.item {k c : Nat} {ds : List D} (h : Gd k c (.tuple ds)) {x : D} (hx : x ∈ ds) : Gd k c x := by
  have a := h.ok
  have b := h.dp
  have e := h.ln
  simp only [PyData.depth] at b
  rw [wt] at e
  have w := wts_mem hx
  have dd := depth_le.mp (Nat.le_refl _) x hx
  exact ⟨okDs_iff.mp (by simpa [okD] using a) x hx, by omega, by omega⟩
theorem Gd.len {k : Nat} {ds : List D} (h : Gd k 30000 (.tuple ds)) : ds.length ≤ 16000 := by
  have e := h.ln
  rw [wt] at e
  have := wts_len ds
  omega
theorem Gd.ln' {k : Nat} {d : D} (h : Gd k 30000 d) : Ln d := fun z e => by
  subst e
  have := h.ln
  rw [wt] at this
  omega
theorem Gd.qs {k : Nat} {d : D} (h : Gd k 30000 d) : Qs d := ⟨h.ok, fun ds e => by subst e; exact ⟨h.len, fun x hx => (h.item hx).ln'⟩⟩
theorem Gd.qg {d : D} (h : Gd 30 30000 d) : Qg d := ⟨h.qs, h.mono (by decide) (by decide)⟩
section
variable {μ : Store} {P : Dv → Store → Prop}
theorem told_right {d : D} (h : Gd 30 30000 d) (fin : P (.d (.bool true)) μ) : Wp (F_l_told_right [.d d] μ) P := by
  have f1 : F_is_worth [.d d] μ = .ok (.d (.bool (isW d))) μ := of_w (w_is_worth h.ln' ⟨rfl, rfl⟩)
  have f2 : F_is_form [.d d] μ = .ok (.d (.bool (isF d))) μ := of_w (w_is_form (fun ds e => by subst e; exact h.len) ⟨rfl, rfl⟩)
  have f3 : F_is_shape [.d d] μ = .ok (.d (.bool (isSh d))) μ := of_w (w_is_shape (fun ds e => by subst e; exact ⟨h.len, fun x hx => (h.item hx).qs⟩) ⟨rfl, rfl⟩)
  have g1 : F_l_is_worth [.d d] μ = .ok (.d (.bool (isW d))) μ := of_w (w_l_is_worth h.ln' ⟨rfl, rfl⟩)
  have g2 : F_l_is_form [.d d] μ = .ok (.d (.bool (isF d))) μ := of_w (w_l_is_form (h.mono (by decide) (by decide)) ⟨rfl, rfl⟩)
  have g3 : F_l_is_shape [.d d] μ = .ok (.d (.bool (isSh d))) μ := of_w (w_l_is_shape (fun ds e => by subst e; exact ⟨h.len, fun x hx => (h.item hx).qg⟩) (fun ds e x hx es e2 y hy => by subst e; subst e2; exact ((h.item hx).item hy).mono (by decide) (by decide)) ⟨rfl, rfl⟩)
  have rp := dReprE_gd (μ := μ) (h.mono (k' := 40) (c' := 16000000) (by decide) (by decide))
  have r2 : ∀ a b c : Bool, dReprE [.d (.list [.bool a, .bool a, .bool b, .bool b, .bool c, .bool c])] μ = .ok (.d (.str (PyData.list [.bool a, .bool a, .bool b, .bool b, .bool c, .bool c]).shown)) μ := fun a b c => dReprE_gd ⟨rfl, by simp [PyData.depth, PyData.depthAll], by simp [wt, wts]⟩
  have rr : ∀ a : Bool, dRep 2 [.d (.bool a)] μ = .ok (.d (.list [.bool a, .bool a])) μ := fun a => dList_map (ds := [.bool a, .bool a]) (by simp)
  have pk : pickL (.d .none) [0] [Dv.d d] = [.d d] := rfl
  unfold F_l_told_right B_l_told_right
  apply Wp_run
  simp -implicitDefEqProofs (disch := first | (with_reducible assumption) | ((with_reducible show List.length _ = _); rfl) | (simp only [allD_cons, allD_nil, Option.map_some, Option.isSome_some]; done) | (simp only [List.length_cons, List.length_nil, List.length_map]; done) | ((with_reducible refine cMod_of ?_); omega) | ((with_reducible refine cDiv_of ?_ ?_) <;> omega) | ((with_reducible refine okR_of ?_ ?_) <;> omega) | omega | (simp only [List.length_take, List.length_drop, List.length_append, List.length_cons, List.length_nil, List.length_map, List.length_range, List.length_replicate]; omega)) [-sSeq_r, -sRet_r, -sDrop_r, -sSet_r, -sIf_r, -sPar_r, -sAsg_r, -sSetIx_r, -sFor_r, -gsCons_r, -gT_r, -e1_r, -e2_r, -tV_r, -tAndM_r, -tOrM_r, -tNotM_r, -eAnd_r, -eOr_r, -eNot_r, -eIf_r, -aCons_r, -eN_r, -fCall_r, -eCallK_r, -eM_r, -eSl_r, -oSome_r, -eIsN_r, -eLc_r, -iSeq_r, -iRng_r, r4_l_told_right, r3_l_told_right, r2_l_told_right, r1_l_told_right, rp, f1, f2, f3, g1, g2, g3, rr, dAdd_ll, r2, dEq_str, pk]
  exact fin
end
end LW

namespace LW
open PySem PySem.Spec PyProof.Rows L2 DL PySem.W
theorem le_lt (k : D → D) (a b : D) : dataLe false k a b = !dataLt (k b) (k a) := rfl
theorem rk_lt {a b : D} (ha : isNone a = false) (hb : isNone b = false) (al : alike a b = true) : dataLt (rkD a) (rkD b) = dataLt a b := by
  have ea : rkD a = .tuple [.int 1, a] := by cases a <;> first | rfl | cases ha
  have eb : rkD b = .tuple [.int 1, b] := by cases b <;> first | rfl | cases hb
  rw [ea, eb, dataLt_tuple]
  rw [dataLt_all_yes (by simp [alike]) (by simp [PyData.eqv])]
  cases q : PyData.eqv a b with
  | false => exact dataLt_all_no al q
  | true =>
    rw [dataLt_all_yes al q, lex_irrefl]
    unfold dataLt
    rw [(toks_eqv a b al).1 q, lex_irrefl]
theorem none_lt {b : D} (hb : isNone b = false) : dataLt (rkD .none) (rkD b) = true ∧ dataLt (rkD b) (rkD .none) = false := by
  have eb : rkD b = .tuple [.int 1, b] := by cases b <;> first | rfl | cases hb
  have e0 : rkD .none = .tuple [.int 0, .int 0] := rfl
  rw [eb, e0, dataLt_tuple, dataLt_tuple, dataLt_all_no (by simp [alike]) (by simp [PyData.eqv]), dataLt_all_no (by simp [alike]) (by simp [PyData.eqv])]
  exact ⟨by decide +kernel, by decide +kernel⟩
theorem srtR_eq {ns : List D} (h1 : ∀ a ∈ ns, isNone a = false) (h2 : ∀ a ∈ ns, ∀ b ∈ ns, alike a b = true) : srtR (ns ++ [.none]) = .none :: srt ns := by
  have T := sortLe_total (listOrd itemOrd) false fun b : D => keyToks (rkD b)
  have es : srt ns = ns.mergeSort (dataLe false rkD) := sort_congr fun a ha b hb => by
    rw [le_lt, le_lt, rk_lt (h1 b hb) (h1 a ha) (h2 b hb a ha)]
    rfl
  have key : (PyData.none :: srt ns) = (ns ++ [PyData.none]).mergeSort (sortLe (listOrd itemOrd) false fun b : D => keyToks (rkD b)) := by
    refine sort_unique T ?_ fun c => ?_
    · rw [List.pairwise_cons]
      refine ⟨fun a ha => ?_, ?_⟩
      · have ha := srt_mem.mp ha
        show dataLe false rkD .none a = true
        rw [le_lt, (none_lt (h1 a ha)).2]
        rfl
      · rw [es]
        exact sort_pairwise T ns
    · rw [List.filter_cons, List.filter_append, es, show (dataLe false rkD) = (sortLe (listOrd itemOrd) false fun b : D => keyToks (rkD b)) from rfl, sort_stable T ns c]
      cases q : sameRank (sortLe (listOrd itemOrd) false fun b : D => keyToks (rkD b)) c .none with
      | false => simp [q]
      | true =>
        have : ns.filter (sameRank (sortLe (listOrd itemOrd) false fun b : D => keyToks (rkD b)) c) = [] := by
          rw [List.filter_eq_nil_iff]
          intro a ha z
          have q : (dataLe false rkD c .none && dataLe false rkD .none c) = true := q
          have z : (dataLe false rkD c a && dataLe false rkD a c) = true := z
          rw [Bool.and_eq_true] at q z
          have t := T.trans a c .none z.2 q.1
          have t : dataLe false rkD a .none = true := t
          rw [le_lt, (none_lt (h1 a ha)).1] at t
          cases t
        rw [this]
        simp [q]
  exact key.symm
end LW

namespace LW
open PySem PySem.Spec PyProof.Rows L2 DL PySem.W
/-- four numbers, or four texts -/
structure At (ns : List D) : Prop where
  at_ : (∀ d ∈ ns, ∃ i, d = .int i) ∨ ∀ d ∈ ns, ∃ z, d = .str z
  len : ns.length ≤ 10
  sk : ∀ z, PyData.str z ∈ ns → PyData.strOk z = true
structure Flat (d : D) : Prop where
  ly : d.canLay0 = true
  dp : d.depth ≤ 10
  al : alike d d = true
theorem flat_all : ∀ {l : List D}, (∀ d ∈ l, Flat d) → PyData.canLayAll0 l = true ∧ PyData.depthAll l ≤ 10 ∧ PySem.W.alikeAll l l = true
  | [], _ => ⟨rfl, by decide, by simp [PySem.W.alikeAll]⟩
  | d :: ds, h => by
    obtain ⟨a, b, c⟩ := flat_all (l := ds) fun e he => h e (List.mem_cons_of_mem _ he)
    obtain ⟨x, y, z⟩ := h d List.mem_cons_self
    refine ⟨by rw [PyData.canLayAll0, x, a]; rfl, ?_, by simp [PySem.W.alikeAll, z, c]⟩
    rw [PyData.depthAll]
    omega
theorem flat_list {l : List D} (h : ∀ d ∈ l, Flat d) : SeqAt.shaped (.list l) = true ∧ alike (.list l) (.list l) = true := by
  obtain ⟨a, b, c⟩ := flat_all h
  refine ⟨?_, by simp [alike, c]⟩
  unfold SeqAt.shaped
  rw [PyData.canLay0, PyData.depth, a, Bool.true_and]
  exact decide_eq_true (by omega)
theorem At.flat {ns : List D} (h : At ns) : ∀ d ∈ ns, Flat d := fun d hd => by
  rcases h.at_ with q | q
  · obtain ⟨i, rfl⟩ := q d hd
    exact ⟨rfl, by simp [PyData.depth], by simp [alike]⟩
  · obtain ⟨z, rfl⟩ := q d hd
    exact ⟨h.sk z hd, by simp [PyData.depth], by simp [alike]⟩
theorem At.d9 {ns : List D} (h : At ns) : ∀ d ∈ ns ++ [PyData.none], d.depth ≤ 9 := fun d hd => by
  rcases List.mem_append.mp hd with q | q
  · rcases h.at_ with r | r <;> (obtain ⟨z, rfl⟩ := r d q; simp [PyData.depth])
  · rw [List.mem_singleton.mp q]
    simp [PyData.depth]
theorem At.fn {ns : List D} (h : At ns) : ∀ d ∈ ns ++ [PyData.none], Flat d := fun d hd => by
  rcases List.mem_append.mp hd with q | q
  · exact h.flat d q
  · rw [List.mem_singleton.mp q]
    exact ⟨rfl, by simp [PyData.depth], by simp [alike]⟩
theorem At.fs {ns : List D} (h : At ns) : ∀ d ∈ PyData.none :: srt ns, Flat d := fun d hd => by
  refine h.fn d ?_
  rcases List.mem_cons.mp hd with q | q
  · rw [q]; simp
  · exact List.mem_append_left _ (srt_mem.mp q)
theorem Flat.rk {d : D} (h : Flat d) (h9 : d.depth ≤ 9) : Flat (rkD d) := by
  have k : ∀ i : Int, ∀ e : D, Flat e → e.depth ≤ 9 → Flat (.tuple [.int i, e]) := fun i e h h9 => by
    obtain ⟨a, b, c⟩ := h
    refine ⟨?_, ?_, by simp [alike, PySem.W.alikeAll, c]⟩
    · rw [PyData.canLay0, PyData.canLayAll0, PyData.canLayAll0, PyData.canLayAll0, a, PyData.canLay0]; rfl
    · simp [PyData.depth, PyData.depthAll]; omega
  have z : Flat (.int 0) := ⟨rfl, by simp [PyData.depth], by simp [alike]⟩
  cases d with
  | none => exact k 0 _ z (by simp [PyData.depth])
  | _ => exact k 1 _ h h9
theorem At.not {ns : List D} (h : At ns) : ∀ a ∈ ns, isNone a = false := fun a ha => by
  rcases h.at_ with q | q <;> (obtain ⟨x, rfl⟩ := q a ha; rfl)
theorem At.atom {ns : List D} (h : At ns) : ∀ a ∈ ns, atomD a = true := fun a ha => by
  rcases h.at_ with q | q <;> (obtain ⟨x, rfl⟩ := q a ha; rfl)
theorem At.alike {ns : List D} (h : At ns) : ∀ a ∈ ns, ∀ b ∈ ns, alike a b = true := fun a ha b hb => by
  rcases h.at_ with q | q <;> (obtain ⟨x, rfl⟩ := q a ha; obtain ⟨y, rfl⟩ := q b hb; rfl)
theorem At.sort {ns : List D} (h : At ns) : canSort ns = true := by
  rcases h.at_ with q | q
  · exact sort_ints q
  · exact sort_strs q
theorem lcM_filter {x0 x1 x2 x3 x4 x5 : Option Dv} {μ : Store} : ∀ ds : List D, lcM (gN 6) t1_l_ranks_right c3_l_ranks_right [x0, x1, x2, x3, x4, x5, none] (ds.map .d) μ = .ok ((ds.filter fun d => !isNone d).map .d) μ
  | [] => rfl
  | d :: ds => by
    have ih := lcM_filter (x0 := x0) (x1 := x1) (x2 := x2) (x3 := x3) (x4 := x4) (x5 := x5) (μ := μ) ds
    rw [List.map_cons, lcM]
    have g1 : gN 6 (.d d) [x0, x1, x2, x3, x4, x5, none] μ = .ok [x0, x1, x2, x3, x4, x5, some (.d d)] μ := rfl
    have t1e : t1_l_ranks_right [x0, x1, x2, x3, x4, x5, some (.d d)] μ = .ok (!isNone d) μ := by cases d <;> rfl
    have c3e : c3_l_ranks_right [x0, x1, x2, x3, x4, x5, some (.d d)] μ = .ok (.d d) μ := rfl
    rw [g1, gb_ok, t1e, gb_ok, c3e, ih, List.filter_cons]
    cases isNone d with
    | true => rfl
    | false =>
      rw [if_pos (by decide), if_pos (by decide), gb_ok, ih]
      rfl
theorem canKey_of {ns : List D} (h : At ns) : canKey (ns ++ [.none]) = true := by
  unfold canKey
  rw [Bool.and_eq_true, List.all_eq_true, List.all_eq_true]
  have cases_ : ∀ d ∈ ns ++ [PyData.none], d ∈ ns ∨ d = .none := fun d hd => by
    rcases List.mem_append.mp hd with q | q
    · exact .inl q
    · exact .inr (List.mem_singleton.mp q)
  have er : ∀ a ∈ ns, rkD a = .tuple [.int 1, a] := fun a ha => by
    have := h.not a ha
    cases a <;> first | rfl | cases this
  refine ⟨fun d hd => ?_, fun d hd => ?_⟩
  · rw [List.all_eq_true]
    intro e he
    rcases cases_ d hd with q | rfl <;> rcases cases_ e he with r | rfl
    · rw [er d q, er e r]
      have := h.alike d q e r
      simp [keyAl, lexAl, PySem.W.alike, PyData.eqv, this]
    · rw [er d q]
      simp [rkD, keyAl, lexAl, PySem.W.alike, PyData.eqv]
    · rw [er e r]
      show (PySem.W.alike (.int 0) (.int 1) && (!PyData.eqv (.int 0) (.int 1) || lexAl [.int 0] [e])) = true
      have q1 : PySem.W.alike (.int 0) (.int 1) = true := by simp [PySem.W.alike]
      have q2 : PyData.eqv (.int 0) (.int 1) = false := by simp [PyData.eqv]
      rw [q1, q2]
      rfl
    · simp [rkD, keyAl, lexAl, PySem.W.alike, PyData.eqv]
  · rcases cases_ d hd with q | rfl
    · exact h.atom d q
    · rfl
section
variable {μ : Store} {P : Dv → Store → Prop}
theorem rank_eq {d : D} : F_rank [.d d] μ = .ok (.d (rkD d)) μ := by
  refine of_w ?_
  unfold F_rank B_rank
  apply Wp_run
  cases d <;> (simp -implicitDefEqProofs (disch := first | (with_reducible assumption) | ((with_reducible show List.length _ = _); rfl) | (simp only [allD_cons, allD_nil, Option.map_some, Option.isSome_some]; done) | (simp only [List.length_cons, List.length_nil, List.length_map]; done) | ((with_reducible refine cMod_of ?_); omega) | ((with_reducible refine cDiv_of ?_ ?_) <;> omega) | ((with_reducible refine okR_of ?_ ?_) <;> omega) | omega | (simp only [List.length_take, List.length_drop, List.length_append, List.length_cons, List.length_nil, List.length_map, List.length_range, List.length_replicate]; omega)) [-sSeq_r, -sRet_r, -sDrop_r, -sSet_r, -sIf_r, -sPar_r, -sAsg_r, -sSetIx_r, -sFor_r, -gsCons_r, -gT_r, -e1_r, -e2_r, -tV_r, -tAndM_r, -tOrM_r, -tNotM_r, -eAnd_r, -eOr_r, -eNot_r, -eIf_r, -aCons_r, -eN_r, -fCall_r, -eCallK_r, -eM_r, -eSl_r, -oSome_r, -eIsN_r, -eLc_r, -iSeq_r, -iRng_r, DL.isNone, rkD])
theorem dSortK_d {ns : List D} (h : At ns) : dSortK (.d (.list (ns ++ [.none]))) μ = .ok (.d (.list (.none :: srt ns))) μ := by
  show (match allD ((ns ++ [PyData.none]).map Dv.d) with | some ds => (if canKey ds = true then dList ((srtR ds).map .d) μ else .bad) | none => .bad) = _
  rw [allD_map]
  show (if canKey (ns ++ [PyData.none]) = true then dList ((srtR (ns ++ [PyData.none])).map .d) μ else .bad) = _
  rw [if_pos (canKey_of h), srtR_eq h.not h.alike, dList_map (by rw [List.length_cons, srt_len]; have := h.len; omega)]
theorem eq_self {l : List D} (h : SeqAt.shaped (.list l) = true) (h2 : PySem.W.alike (.list l) (.list l) = true) : dEq true (.d (.list l)) (.d (.list l)) μ = .ok (.d (.bool false)) μ := by
  rw [dEq_dd (by rw [h]; simp), PySem.W.eqv_refl_alike _ h2]
  rfl
theorem dSl_l {ds : List D} {i j : Option Int} : dSl (.d (.list ds)) i j μ = .ok (.d (.list (cutL ds i j))) μ := by
  show (match allD (cutL (ds.map Dv.d) i j) with | some ds => Out.ok (Dv.d (.list ds)) μ | none => .bad) = _
  have : cutL (ds.map Dv.d) i j = (cutL ds i j).map .d := by
    unfold cutL
    simp only [List.length_map, List.map_take, List.map_drop]
  rw [this, allD_map]
theorem rk1 {ns : List D} (h : At ns) : rkD .none :: (srt ns).map rkD = .tuple [.int 0, .int 0] :: (srt ns).map (fun x => PyData.tuple [.int 1, x]) := by
  congr 1
  refine List.map_congr_left fun a ha => ?_
  have := h.not a (srt_mem.mp ha)
  cases a <;> first | rfl | cases this
theorem w_turn {ns : List D} (h : At ns) {x0 x1 x2 a4 a5 a6 : Option Dv} {K : Fl → Store → Prop} (fin : ∀ a3 a4 a5 a6, K (.nx [x0, x1, x2, a3, a4, a5, a6]) μ) : Wp (w1_l_ranks_right [x0, x1, x2, some (.d (.list (ns ++ [.none]))), a4, a5, a6] μ) K := by
  have hl := h.len
  have hsl := srt_len ns
  simp -implicitDefEqProofs (disch := first | (with_reducible assumption) | ((with_reducible show List.length _ = _); rfl) | (simp only [allD_cons, allD_nil, Option.map_some, Option.isSome_some]; done) | (simp only [List.length_cons, List.length_nil, List.length_map]; done) | ((with_reducible refine cMod_of ?_); omega) | ((with_reducible refine cDiv_of ?_ ?_) <;> omega) | ((with_reducible refine okR_of ?_ ?_) <;> omega) | omega | (simp only [List.length_take, List.length_drop, List.length_append, List.length_cons, List.length_nil, List.length_map, List.length_range, List.length_replicate]; omega)) [-sSeq_r, -sRet_r, -sDrop_r, -sSet_r, -sIf_r, -sPar_r, -sAsg_r, -sSetIx_r, -sFor_r, -gsCons_r, -gT_r, -e1_r, -e2_r, -tV_r, -tAndM_r, -tOrM_r, -tNotM_r, -eAnd_r, -eOr_r, -eNot_r, -eIf_r, -aCons_r, -eN_r, -fCall_r, -eCallK_r, -eM_r, -eSl_r, -oSome_r, -eIsN_r, -eLc_r, -iSeq_r, -iRng_r, w1_l_ranks_right]
  refine Wp_lcF (by simp; omega) ?_
  have e1 : ns.map Dv.d ++ [Dv.d .none] = (ns ++ [PyData.none]).map Dv.d := by rw [List.map_append]; rfl
  have e2 : (ns ++ [PyData.none]).filter (fun d => !isNone d) = ns := by
    rw [List.filter_append, List.filter_eq_self.mpr (fun a ha => by rw [h.not a ha]; rfl)]
    exact List.append_nil ns
  rw [e1]
  refine Wp_eq (lcM_filter _) ?_
  rw [e2]
  refine Wp_eq (dList_map (by omega)) ?_
  simp -implicitDefEqProofs (disch := first | (with_reducible assumption) | ((with_reducible show List.length _ = _); rfl) | (simp only [allD_cons, allD_nil, Option.map_some, Option.isSome_some]; done) | (simp only [List.length_cons, List.length_nil, List.length_map]; done) | ((with_reducible refine cMod_of ?_); omega) | ((with_reducible refine cDiv_of ?_ ?_) <;> omega) | ((with_reducible refine okR_of ?_ ?_) <;> omega) | omega | (simp only [List.length_take, List.length_drop, List.length_append, List.length_cons, List.length_nil, List.length_map, List.length_range, List.length_replicate]; omega)) [-sSeq_r, -sRet_r, -sDrop_r, -sSet_r, -sIf_r, -sPar_r, -sAsg_r, -sSetIx_r, -sFor_r, -gsCons_r, -gT_r, -e1_r, -e2_r, -tV_r, -tAndM_r, -tOrM_r, -tNotM_r, -eAnd_r, -eOr_r, -eNot_r, -eIf_r, -aCons_r, -eN_r, -fCall_r, -eCallK_r, -eM_r, -eSl_r, -oSome_r, -eIsN_r, -eLc_r, -iSeq_r, -iRng_r, w1_l_ranks_right]
  refine Wp_eq (dSort_d (ds := ns) rfl h.sort (by omega)) ?_
  simp -implicitDefEqProofs (disch := first | (with_reducible assumption) | ((with_reducible show List.length _ = _); rfl) | (simp only [allD_cons, allD_nil, Option.map_some, Option.isSome_some]; done) | (simp only [List.length_cons, List.length_nil, List.length_map]; done) | ((with_reducible refine cMod_of ?_); omega) | ((with_reducible refine cDiv_of ?_ ?_) <;> omega) | ((with_reducible refine okR_of ?_ ?_) <;> omega) | omega | (simp only [List.length_take, List.length_drop, List.length_append, List.length_cons, List.length_nil, List.length_map, List.length_range, List.length_replicate]; omega)) [-sSeq_r, -sRet_r, -sDrop_r, -sSet_r, -sIf_r, -sPar_r, -sAsg_r, -sSetIx_r, -sFor_r, -gsCons_r, -gT_r, -e1_r, -e2_r, -tV_r, -tAndM_r, -tOrM_r, -tNotM_r, -eAnd_r, -eOr_r, -eNot_r, -eIf_r, -aCons_r, -eN_r, -fCall_r, -eCallK_r, -eM_r, -eSl_r, -oSome_r, -eIsN_r, -eLc_r, -iSeq_r, -iRng_r, dAdd_ll, kE2b, kSet, kSeq, r2_l_ranks_right]
  refine Wp_eq (dSortK_d h) ?_
  simp -implicitDefEqProofs (disch := first | (with_reducible assumption) | ((with_reducible show List.length _ = _); rfl) | (simp only [allD_cons, allD_nil, Option.map_some, Option.isSome_some]; done) | (simp only [List.length_cons, List.length_nil, List.length_map]; done) | ((with_reducible refine cMod_of ?_); omega) | ((with_reducible refine cDiv_of ?_ ?_) <;> omega) | ((with_reducible refine okR_of ?_ ?_) <;> omega) | omega | (simp only [List.length_take, List.length_drop, List.length_append, List.length_cons, List.length_nil, List.length_map, List.length_range, List.length_replicate]; omega)) [-sSeq_r, -sRet_r, -sDrop_r, -sSet_r, -sIf_r, -sPar_r, -sAsg_r, -sSetIx_r, -sFor_r, -gsCons_r, -gT_r, -e1_r, -e2_r, -tV_r, -tAndM_r, -tOrM_r, -tNotM_r, -eAnd_r, -eOr_r, -eNot_r, -eIf_r, -aCons_r, -eN_r, -fCall_r, -eCallK_r, -eM_r, -eSl_r, -oSome_r, -eIsN_r, -eLc_r, -iSeq_r, -iRng_r, w1_l_ranks_right]
  refine Wp_eq (eq_self (flat_list h.fs).1 (flat_list h.fs).2) ?_
  simp -implicitDefEqProofs (disch := first | (with_reducible assumption) | ((with_reducible show List.length _ = _); rfl) | (simp only [allD_cons, allD_nil, Option.map_some, Option.isSome_some]; done) | (simp only [List.length_cons, List.length_nil, List.length_map]; done) | ((with_reducible refine cMod_of ?_); omega) | ((with_reducible refine cDiv_of ?_ ?_) <;> omega) | ((with_reducible refine okR_of ?_ ?_) <;> omega) | omega | (simp only [List.length_take, List.length_drop, List.length_append, List.length_cons, List.length_nil, List.length_map, List.length_range, List.length_replicate]; omega)) [-sSeq_r, -sRet_r, -sDrop_r, -sSet_r, -sIf_r, -sPar_r, -sAsg_r, -sSetIx_r, -sFor_r, -gsCons_r, -gT_r, -e1_r, -e2_r, -tV_r, -tAndM_r, -tOrM_r, -tNotM_r, -eAnd_r, -eOr_r, -eNot_r, -eIf_r, -aCons_r, -eN_r, -fCall_r, -eCallK_r, -eM_r, -eSl_r, -oSome_r, -eIsN_r, -eLc_r, -iSeq_r, -iRng_r, w1_l_ranks_right]
  have dd : (ns ++ [PyData.none]).length ≤ 16000000 := by rw [List.length_append]; simp; omega
  rw [e1]
  have fr : ∀ d ∈ (ns ++ [PyData.none]).map rkD, Flat d := fun d hd => by
    obtain ⟨x, hx, rfl⟩ := List.mem_map.mp hd
    exact (h.fn x hx).rk (h.d9 x hx)
  refine Wp_eq (lcF_data (f := rkD) dd fun x hx => rank_eq) ?_
  simp -implicitDefEqProofs (disch := first | (with_reducible assumption) | ((with_reducible show List.length _ = _); rfl) | (simp only [allD_cons, allD_nil, Option.map_some, Option.isSome_some]; done) | (simp only [List.length_cons, List.length_nil, List.length_map]; done) | ((with_reducible refine cMod_of ?_); omega) | ((with_reducible refine cDiv_of ?_ ?_) <;> omega) | ((with_reducible refine okR_of ?_ ?_) <;> omega) | omega | (simp only [List.length_take, List.length_drop, List.length_append, List.length_cons, List.length_nil, List.length_map, List.length_range, List.length_replicate]; omega)) [-sSeq_r, -sRet_r, -sDrop_r, -sSet_r, -sIf_r, -sPar_r, -sAsg_r, -sSetIx_r, -sFor_r, -gsCons_r, -gT_r, -e1_r, -e2_r, -tV_r, -tAndM_r, -tOrM_r, -tNotM_r, -eAnd_r, -eOr_r, -eNot_r, -eIf_r, -aCons_r, -eN_r, -fCall_r, -eCallK_r, -eM_r, -eSl_r, -oSome_r, -eIsN_r, -eLc_r, -iSeq_r, -iRng_r, w1_l_ranks_right]
  rw [e1]
  refine Wp_eq (lcF_data (f := rkD) dd fun x hx => rank_eq) ?_
  simp -implicitDefEqProofs (disch := first | (with_reducible assumption) | ((with_reducible show List.length _ = _); rfl) | (simp only [allD_cons, allD_nil, Option.map_some, Option.isSome_some]; done) | (simp only [List.length_cons, List.length_nil, List.length_map]; done) | ((with_reducible refine cMod_of ?_); omega) | ((with_reducible refine cDiv_of ?_ ?_) <;> omega) | ((with_reducible refine okR_of ?_ ?_) <;> omega) | omega | (simp only [List.length_take, List.length_drop, List.length_append, List.length_cons, List.length_nil, List.length_map, List.length_range, List.length_replicate]; omega)) [-sSeq_r, -sRet_r, -sDrop_r, -sSet_r, -sIf_r, -sPar_r, -sAsg_r, -sSetIx_r, -sFor_r, -gsCons_r, -gT_r, -e1_r, -e2_r, -tV_r, -tAndM_r, -tOrM_r, -tNotM_r, -eAnd_r, -eOr_r, -eNot_r, -eIf_r, -aCons_r, -eN_r, -fCall_r, -eCallK_r, -eM_r, -eSl_r, -oSome_r, -eIsN_r, -eLc_r, -iSeq_r, -iRng_r, w1_l_ranks_right]
  rw [show ns.map rkD ++ [rkD .none] = (ns ++ [PyData.none]).map rkD from by rw [List.map_append]; rfl]
  refine Wp_eq (eq_self (flat_list fr).1 (flat_list fr).2) ?_
  simp -implicitDefEqProofs (disch := first | (with_reducible assumption) | ((with_reducible show List.length _ = _); rfl) | (simp only [allD_cons, allD_nil, Option.map_some, Option.isSome_some]; done) | (simp only [List.length_cons, List.length_nil, List.length_map]; done) | ((with_reducible refine cMod_of ?_); omega) | ((with_reducible refine cDiv_of ?_ ?_) <;> omega) | ((with_reducible refine okR_of ?_ ?_) <;> omega) | omega | (simp only [List.length_take, List.length_drop, List.length_append, List.length_cons, List.length_nil, List.length_map, List.length_range, List.length_replicate]; omega)) [-sSeq_r, -sRet_r, -sDrop_r, -sSet_r, -sIf_r, -sPar_r, -sAsg_r, -sSetIx_r, -sFor_r, -gsCons_r, -gT_r, -e1_r, -e2_r, -tV_r, -tAndM_r, -tOrM_r, -tNotM_r, -eAnd_r, -eOr_r, -eNot_r, -eIf_r, -aCons_r, -eN_r, -fCall_r, -eCallK_r, -eM_r, -eSl_r, -oSome_r, -eIsN_r, -eLc_r, -iSeq_r, -iRng_r, r1_l_ranks_right]
  have d2 : (PyData.none :: srt ns).length ≤ 16000000 := by rw [List.length_cons]; omega
  refine Wp_eq (lcF_data (f := rkD) (ds := .none :: srt ns) d2 fun x hx => rank_eq) ?_
  simp -implicitDefEqProofs (disch := first | (with_reducible assumption) | ((with_reducible show List.length _ = _); rfl) | (simp only [allD_cons, allD_nil, Option.map_some, Option.isSome_some]; done) | (simp only [List.length_cons, List.length_nil, List.length_map]; done) | ((with_reducible refine cMod_of ?_); omega) | ((with_reducible refine cDiv_of ?_ ?_) <;> omega) | ((with_reducible refine okR_of ?_ ?_) <;> omega) | omega | (simp only [List.length_take, List.length_drop, List.length_append, List.length_cons, List.length_nil, List.length_map, List.length_range, List.length_replicate]; omega)) [-sSeq_r, -sRet_r, -sDrop_r, -sSet_r, -sIf_r, -sPar_r, -sAsg_r, -sSetIx_r, -sFor_r, -gsCons_r, -gT_r, -e1_r, -e2_r, -tV_r, -tAndM_r, -tOrM_r, -tNotM_r, -eAnd_r, -eOr_r, -eNot_r, -eIf_r, -aCons_r, -eN_r, -fCall_r, -eCallK_r, -eM_r, -eSl_r, -oSome_r, -eIsN_r, -eLc_r, -iSeq_r, -iRng_r, r1_l_ranks_right]
  have e3 : cutL (PyData.none :: srt ns) (some 1) none = srt ns := cut_from (a := 1)
  refine Wp_eq (b := .d (.list (srt ns))) (μ := μ) ?_ ?_
  · rw [dSl_l, e3]
  simp -implicitDefEqProofs (disch := first | (with_reducible assumption) | ((with_reducible show List.length _ = _); rfl) | (simp only [allD_cons, allD_nil, Option.map_some, Option.isSome_some]; done) | (simp only [List.length_cons, List.length_nil, List.length_map]; done) | ((with_reducible refine cMod_of ?_); omega) | ((with_reducible refine cDiv_of ?_ ?_) <;> omega) | ((with_reducible refine okR_of ?_ ?_) <;> omega) | omega | (simp only [List.length_take, List.length_drop, List.length_append, List.length_cons, List.length_nil, List.length_map, List.length_range, List.length_replicate]; omega)) [-sSeq_r, -sRet_r, -sDrop_r, -sSet_r, -sIf_r, -sPar_r, -sAsg_r, -sSetIx_r, -sFor_r, -gsCons_r, -gT_r, -e1_r, -e2_r, -tV_r, -tAndM_r, -tOrM_r, -tNotM_r, -eAnd_r, -eOr_r, -eNot_r, -eIf_r, -aCons_r, -eN_r, -fCall_r, -eCallK_r, -eM_r, -eSl_r, -oSome_r, -eIsN_r, -eLc_r, -iSeq_r, -iRng_r, r1_l_ranks_right]
  refine Wp_eq (lcF_data (f := fun x => .tuple [.int 1, x]) (by omega) fun x hx => ?_) ?_
  · exact (of_w (by unfold c7_l_ranks_right; simp -implicitDefEqProofs (disch := first | (with_reducible assumption) | ((with_reducible show List.length _ = _); rfl) | (simp only [allD_cons, allD_nil, Option.map_some, Option.isSome_some]; done) | (simp only [List.length_cons, List.length_nil, List.length_map]; done) | ((with_reducible refine cMod_of ?_); omega) | ((with_reducible refine cDiv_of ?_ ?_) <;> omega) | ((with_reducible refine okR_of ?_ ?_) <;> omega) | omega | (simp only [List.length_take, List.length_drop, List.length_append, List.length_cons, List.length_nil, List.length_map, List.length_range, List.length_replicate]; omega)) [-sSeq_r, -sRet_r, -sDrop_r, -sSet_r, -sIf_r, -sPar_r, -sAsg_r, -sSetIx_r, -sFor_r, -gsCons_r, -gT_r, -e1_r, -e2_r, -tV_r, -tAndM_r, -tOrM_r, -tNotM_r, -eAnd_r, -eOr_r, -eNot_r, -eIf_r, -aCons_r, -eN_r, -fCall_r, -eCallK_r, -eM_r, -eSl_r, -oSome_r, -eIsN_r, -eLc_r, -iSeq_r, -iRng_r, wipeD]))
  simp -implicitDefEqProofs (disch := first | (with_reducible assumption) | ((with_reducible show List.length _ = _); rfl) | (simp only [allD_cons, allD_nil, Option.map_some, Option.isSome_some]; done) | (simp only [List.length_cons, List.length_nil, List.length_map]; done) | ((with_reducible refine cMod_of ?_); omega) | ((with_reducible refine cDiv_of ?_ ?_) <;> omega) | ((with_reducible refine okR_of ?_ ?_) <;> omega) | omega | (simp only [List.length_take, List.length_drop, List.length_append, List.length_cons, List.length_nil, List.length_map, List.length_range, List.length_replicate]; omega)) [-sSeq_r, -sRet_r, -sDrop_r, -sSet_r, -sIf_r, -sPar_r, -sAsg_r, -sSetIx_r, -sFor_r, -gsCons_r, -gT_r, -e1_r, -e2_r, -tV_r, -tAndM_r, -tOrM_r, -tNotM_r, -eAnd_r, -eOr_r, -eNot_r, -eIf_r, -aCons_r, -eN_r, -fCall_r, -eCallK_r, -eM_r, -eSl_r, -oSome_r, -eIsN_r, -eLc_r, -iSeq_r, -iRng_r, dAdd_ll]
  rw [← rk1 h]
  have f1 : ∀ d ∈ rkD .none :: (srt ns).map rkD, Flat d := fun d hd => by
    refine fr d ?_
    rcases List.mem_cons.mp hd with q | q
    · rw [q]; simp
    · obtain ⟨x, hx, rfl⟩ := List.mem_map.mp q
      exact List.mem_map.mpr ⟨x, List.mem_append_left _ (srt_mem.mp hx), rfl⟩
  refine Wp_eq (eq_self (flat_list f1).1 (flat_list f1).2) ?_
  simp -implicitDefEqProofs (disch := first | (with_reducible assumption) | ((with_reducible show List.length _ = _); rfl) | (simp only [allD_cons, allD_nil, Option.map_some, Option.isSome_some]; done) | (simp only [List.length_cons, List.length_nil, List.length_map]; done) | ((with_reducible refine cMod_of ?_); omega) | ((with_reducible refine cDiv_of ?_ ?_) <;> omega) | ((with_reducible refine okR_of ?_ ?_) <;> omega) | omega | (simp only [List.length_take, List.length_drop, List.length_append, List.length_cons, List.length_nil, List.length_map, List.length_range, List.length_replicate]; omega)) [-sSeq_r, -sRet_r, -sDrop_r, -sSet_r, -sIf_r, -sPar_r, -sAsg_r, -sSetIx_r, -sFor_r, -gsCons_r, -gT_r, -e1_r, -e2_r, -tV_r, -tAndM_r, -tOrM_r, -tNotM_r, -eAnd_r, -eOr_r, -eNot_r, -eIf_r, -aCons_r, -eN_r, -fCall_r, -eCallK_r, -eM_r, -eSl_r, -oSome_r, -eIsN_r, -eLc_r, -iSeq_r, -iRng_r, r1_l_ranks_right]
  exact fin _ _ _ _
end
end LW

namespace LW
open PySem PySem.Spec PyProof.Rows L2 DL PySem.W
theorem mem_rng {k j : Nat} {b : Dv} (h : ((List.range k).map fun (i : Nat) => Dv.d (.int i))[j]? = some b) : ∃ i : Nat, i < k ∧ b = .d (.int i) := by
  rw [List.getElem?_map] at h
  obtain ⟨x, hx, rfl⟩ := Option.map_eq_some_iff.mp h
  have := List.mem_of_getElem? hx
  exact ⟨x, by simpa using this, rfl⟩
theorem rng1_n {μ : Store} {k : Nat} (h : k ≤ 1000000) : rng1 [.d (.int k)] μ = .ok ((List.range k).map fun (i : Nat) => Dv.d (.int i)) μ := by
  have := rng1_r (μ := μ) (j := (k : Int)) (okR_of (by omega) (by omega))
  rw [Int.toNat_natCast] at this
  exact this
theorem mem_map_d {ds : List D} {j : Nat} {b : Dv} (h : (ds.map Dv.d)[j]? = some b) : ∃ d, d ∈ ds ∧ b = .d d := by
  rw [List.getElem?_map] at h
  obtain ⟨x, hx, rfl⟩ := Option.map_eq_some_iff.mp h
  exact ⟨x, List.mem_of_getElem? hx, rfl⟩
theorem dd_list {R : D → Prop} : ∀ {ys : List Dv}, (∀ y ∈ ys, ∃ d, y = .d d ∧ R d) → ∃ ds : List D, ys = ds.map .d ∧ ∀ d ∈ ds, R d
  | [], _ => ⟨[], rfl, fun _ h => by cases h⟩
  | y :: ys, h => by
    obtain ⟨ds, e, q⟩ := dd_list (ys := ys) fun z hz => h z (List.mem_cons_of_mem _ hz)
    obtain ⟨d, rfl, r⟩ := h y List.mem_cons_self
    refine ⟨d :: ds, by rw [e]; rfl, fun x hx => ?_⟩
    rcases List.mem_cons.mp hx with k | k
    · rw [k]; exact r
    · exact q x k
theorem At.ints {ds : List D} (h : ∀ d ∈ ds, ∃ i, d = PyData.int i) (l : ds.length ≤ 10) : At ds := ⟨.inl h, l, fun z hz => by obtain ⟨i, e⟩ := h _ hz; cases e⟩
theorem At.strs {ds : List D} (h : ∀ d ∈ ds, ∃ z, d = PyData.str z ∧ PyData.strOk z = true) (l : ds.length ≤ 10) : At ds := ⟨.inr fun d hd => by obtain ⟨z, e, _⟩ := h d hd; exact ⟨z, e⟩, l, fun z hz => by obtain ⟨i, e, k⟩ := h _ hz; cases e; exact k⟩
theorem w_ranks {h m : Nat} {μ : Store} {P : Dv → Store → Prop} (H : Bx h m μ) (hm : m + 20 ≤ 10 ^ 9) (fin : ∀ μ', Bx h (m + 8) μ' → Ext h μ μ' → P (.d (.bool true)) μ') : Wp (F_l_ranks_right [.c h] μ) P := by
  unfold F_l_ranks_right B_l_ranks_right
  apply Wp_run
  have r4 := rng1_n (μ := μ) (k := 4) (by decide)
  simp -implicitDefEqProofs (disch := first | (with_reducible assumption) | ((with_reducible show List.length _ = _); rfl) | (simp only [allD_cons, allD_nil, Option.map_some, Option.isSome_some]; done) | (simp only [List.length_cons, List.length_nil, List.length_map]; done) | ((with_reducible refine cMod_of ?_); omega) | ((with_reducible refine cDiv_of ?_ ?_) <;> omega) | ((with_reducible refine okR_of ?_ ?_) <;> omega) | omega | (simp only [List.length_take, List.length_drop, List.length_append, List.length_cons, List.length_nil, List.length_map, List.length_range, List.length_replicate]; omega)) [-sSeq_r, -sRet_r, -sDrop_r, -sSet_r, -sIf_r, -sPar_r, -sAsg_r, -sSetIx_r, -sFor_r, -gsCons_r, -gT_r, -e1_r, -e2_r, -tV_r, -tAndM_r, -tOrM_r, -tNotM_r, -eAnd_r, -eOr_r, -eNot_r, -eIf_r, -aCons_r, -eN_r, -fCall_r, -eCallK_r, -eM_r, -eSl_r, -oSome_r, -eIsN_r, -eLc_r, -iSeq_r, -iRng_r, r4]
  refine Wp_lcF (by simp) ?_
  refine Wp_lcM_y (bs := (List.range 4).map fun (i : Nat) => Dv.d (.int i)) (fun i μ' => Bx h (m + i) μ' ∧ Ext h μ μ') (fun y => ∃ d, y = .d d ∧ ∃ i, d = PyData.int i) (i := 0) ⟨H, Ext.refl _ _⟩ (fun j b μ1 hb I => ?_) fun ys μ1 hl hy I => ?_
  · obtain ⟨J, E⟩ := I
    obtain ⟨u, hu, rfl⟩ := mem_rng hb
    have hj : j < 4 := by
      have := (List.getElem?_eq_some_iff.mp hb).1
      simpa using this
    simp -implicitDefEqProofs (disch := first | (with_reducible assumption) | ((with_reducible show List.length _ = _); rfl) | (simp only [allD_cons, allD_nil, Option.map_some, Option.isSome_some]; done) | (simp only [List.length_cons, List.length_nil, List.length_map]; done) | ((with_reducible refine cMod_of ?_); omega) | ((with_reducible refine cDiv_of ?_ ?_) <;> omega) | ((with_reducible refine okR_of ?_ ?_) <;> omega) | omega | (simp only [List.length_take, List.length_drop, List.length_append, List.length_cons, List.length_nil, List.length_map, List.length_range, List.length_replicate]; omega)) [-sSeq_r, -sRet_r, -sDrop_r, -sSet_r, -sIf_r, -sPar_r, -sAsg_r, -sSetIx_r, -sFor_r, -gsCons_r, -gT_r, -e1_r, -e2_r, -tV_r, -tAndM_r, -tOrM_r, -tNotM_r, -eAnd_r, -eOr_r, -eNot_r, -eIf_r, -aCons_r, -eN_r, -fCall_r, -eCallK_r, -eM_r, -eSl_r, -oSome_r, -eIsN_r, -eLc_r, -iSeq_r, -iRng_r, c1_l_ranks_right, wipeD]
    refine w_take J (by omega) (by decide) (by decide) fun r μ2 hr H2 O => ?_
    simp -implicitDefEqProofs (disch := first | (with_reducible assumption) | ((with_reducible show List.length _ = _); rfl) | (simp only [allD_cons, allD_nil, Option.map_some, Option.isSome_some]; done) | (simp only [List.length_cons, List.length_nil, List.length_map]; done) | ((with_reducible refine cMod_of ?_); omega) | ((with_reducible refine cDiv_of ?_ ?_) <;> omega) | ((with_reducible refine okR_of ?_ ?_) <;> omega) | omega | (simp only [List.length_take, List.length_drop, List.length_append, List.length_cons, List.length_nil, List.length_map, List.length_range, List.length_replicate]; omega)) [-sSeq_r, -sRet_r, -sDrop_r, -sSet_r, -sIf_r, -sPar_r, -sAsg_r, -sSetIx_r, -sFor_r, -gsCons_r, -gT_r, -e1_r, -e2_r, -tV_r, -tAndM_r, -tOrM_r, -tNotM_r, -eAnd_r, -eOr_r, -eNot_r, -eIf_r, -aCons_r, -eN_r, -fCall_r, -eCallK_r, -eM_r, -eSl_r, -oSome_r, -eIsN_r, -eLc_r, -iSeq_r, -iRng_r, ]
    exact ⟨H2.mono (by omega), E.trans (Ext.oth O)⟩
  obtain ⟨J, E⟩ := I
  obtain ⟨ds, rfl, hds⟩ := dd_list (R := fun d => ∃ i, d = PyData.int i) hy
  have l4 : ds.length = 4 := by simpa using hl
  have A := At.ints hds (by omega)
  rw [dList_map (by omega)]
  have r5 := rng1_n (μ := μ1) (k := 4) (by decide)
  simp -implicitDefEqProofs (disch := first | (with_reducible assumption) | ((with_reducible show List.length _ = _); rfl) | (simp only [allD_cons, allD_nil, Option.map_some, Option.isSome_some]; done) | (simp only [List.length_cons, List.length_nil, List.length_map]; done) | ((with_reducible refine cMod_of ?_); omega) | ((with_reducible refine cDiv_of ?_ ?_) <;> omega) | ((with_reducible refine okR_of ?_ ?_) <;> omega) | omega | (simp only [List.length_take, List.length_drop, List.length_append, List.length_cons, List.length_nil, List.length_map, List.length_range, List.length_replicate]; omega)) [-sSeq_r, -sRet_r, -sDrop_r, -sSet_r, -sIf_r, -sPar_r, -sAsg_r, -sSetIx_r, -sFor_r, -gsCons_r, -gT_r, -e1_r, -e2_r, -tV_r, -tAndM_r, -tOrM_r, -tNotM_r, -eAnd_r, -eOr_r, -eNot_r, -eIf_r, -aCons_r, -eN_r, -fCall_r, -eCallK_r, -eM_r, -eSl_r, -oSome_r, -eIsN_r, -eLc_r, -iSeq_r, -iRng_r, dAdd_ll, r5_l_ranks_right, r5]
  refine Wp_lcF (by simp) ?_
  refine Wp_lcM_y (bs := (List.range 4).map fun (i : Nat) => Dv.d (.int i)) (fun i μ' => Bx h (m + 4 + i) μ' ∧ Ext h μ μ') (fun y => ∃ d, y = .d d ∧ ∃ z, d = PyData.str z ∧ PyData.strOk z = true) (i := 0) ⟨J.mono (by simp), E⟩ (fun j b μ2 hb I => ?_) fun ys μ2 hl hy I => ?_
  · obtain ⟨J, E⟩ := I
    obtain ⟨u, hu, rfl⟩ := mem_rng hb
    have hj : j < 4 := by
      have := (List.getElem?_eq_some_iff.mp hb).1
      simpa using this
    simp -implicitDefEqProofs (disch := first | (with_reducible assumption) | ((with_reducible show List.length _ = _); rfl) | (simp only [allD_cons, allD_nil, Option.map_some, Option.isSome_some]; done) | (simp only [List.length_cons, List.length_nil, List.length_map]; done) | ((with_reducible refine cMod_of ?_); omega) | ((with_reducible refine cDiv_of ?_ ?_) <;> omega) | ((with_reducible refine okR_of ?_ ?_) <;> omega) | omega | (simp only [List.length_take, List.length_drop, List.length_append, List.length_cons, List.length_nil, List.length_map, List.length_range, List.length_replicate]; omega)) [-sSeq_r, -sRet_r, -sDrop_r, -sSet_r, -sIf_r, -sPar_r, -sAsg_r, -sSetIx_r, -sFor_r, -gsCons_r, -gT_r, -e1_r, -e2_r, -tV_r, -tAndM_r, -tOrM_r, -tNotM_r, -eAnd_r, -eOr_r, -eNot_r, -eIf_r, -aCons_r, -eN_r, -fCall_r, -eCallK_r, -eM_r, -eSl_r, -oSome_r, -eIsN_r, -eLc_r, -iSeq_r, -iRng_r, c2_l_ranks_right, wipeD]
    refine w_pick J (by omega) (by decide) (by decide) fun c μ3 hc H2 O => ?_
    simp -implicitDefEqProofs (disch := first | (with_reducible assumption) | ((with_reducible show List.length _ = _); rfl) | (simp only [allD_cons, allD_nil, Option.map_some, Option.isSome_some]; done) | (simp only [List.length_cons, List.length_nil, List.length_map]; done) | ((with_reducible refine cMod_of ?_); omega) | ((with_reducible refine cDiv_of ?_ ?_) <;> omega) | ((with_reducible refine okR_of ?_ ?_) <;> omega) | omega | (simp only [List.length_take, List.length_drop, List.length_append, List.length_cons, List.length_nil, List.length_map, List.length_range, List.length_replicate]; omega)) [-sSeq_r, -sRet_r, -sDrop_r, -sSet_r, -sIf_r, -sPar_r, -sAsg_r, -sSetIx_r, -sFor_r, -gsCons_r, -gT_r, -e1_r, -e2_r, -tV_r, -tAndM_r, -tOrM_r, -tNotM_r, -eAnd_r, -eOr_r, -eNot_r, -eIf_r, -aCons_r, -eN_r, -fCall_r, -eCallK_r, -eM_r, -eSl_r, -oSome_r, -eIsN_r, -eLc_r, -iSeq_r, -iRng_r, ]
    refine ⟨?_, H2.mono (by omega), E.trans (Ext.oth O)⟩
    simp only [List.mem_cons, List.not_mem_nil, or_false] at hc
    rcases hc with rfl | rfl | rfl | rfl | rfl | rfl | rfl | rfl | rfl <;> exact ⟨_, rfl, by decide +kernel⟩
  obtain ⟨J, E⟩ := I
  obtain ⟨es, rfl, hes⟩ := dd_list (R := fun d => ∃ z, d = PyData.str z ∧ PyData.strOk z = true) hy
  have k4 : es.length = 4 := by simpa using hl
  have B := At.strs hes (by omega)
  rw [dList_map (by omega)]
  simp -implicitDefEqProofs (disch := first | (with_reducible assumption) | ((with_reducible show List.length _ = _); rfl) | (simp only [allD_cons, allD_nil, Option.map_some, Option.isSome_some]; done) | (simp only [List.length_cons, List.length_nil, List.length_map]; done) | ((with_reducible refine cMod_of ?_); omega) | ((with_reducible refine cDiv_of ?_ ?_) <;> omega) | ((with_reducible refine okR_of ?_ ?_) <;> omega) | omega | (simp only [List.length_take, List.length_drop, List.length_append, List.length_cons, List.length_nil, List.length_map, List.length_range, List.length_replicate]; omega)) [-sSeq_r, -sRet_r, -sDrop_r, -sSet_r, -sIf_r, -sPar_r, -sAsg_r, -sSetIx_r, -sFor_r, -gsCons_r, -gT_r, -e1_r, -e2_r, -tV_r, -tAndM_r, -tOrM_r, -tNotM_r, -eAnd_r, -eOr_r, -eNot_r, -eIf_r, -aCons_r, -eN_r, -fCall_r, -eCallK_r, -eM_r, -eSl_r, -oSome_r, -eIsN_r, -eLc_r, -iSeq_r, -iRng_r, dAdd_ll, r4_l_ranks_right]
  trace_state
  refine Wp_forL (fun i ρ μ' => (∃ a3 a4 a5 a6, ρ = [some (.c h), some (.d (.list (ds ++ [.none]))), some (.d (.list (es ++ [.none]))), a3, a4, a5, a6]) ∧ μ' = μ2) (i := 0) ⟨⟨_, _, _, _, rfl⟩, rfl⟩ (fun t b ρ μ3 hb I => ?_) fun ρ' μ3 I => ?_
  · obtain ⟨⟨a3, a4, a5, a6, rfl⟩, rfl⟩ := I
    have hb2 := List.mem_of_getElem? hb
    simp only [List.mem_cons, List.not_mem_nil, or_false] at hb2
    rcases hb2 with rfl | rfl
    · simp -implicitDefEqProofs (disch := first | (with_reducible assumption) | ((with_reducible show List.length _ = _); rfl) | (simp only [allD_cons, allD_nil, Option.map_some, Option.isSome_some]; done) | (simp only [List.length_cons, List.length_nil, List.length_map]; done) | ((with_reducible refine cMod_of ?_); omega) | ((with_reducible refine cDiv_of ?_ ?_) <;> omega) | ((with_reducible refine okR_of ?_ ?_) <;> omega) | omega | (simp only [List.length_take, List.length_drop, List.length_append, List.length_cons, List.length_nil, List.length_map, List.length_range, List.length_replicate]; omega)) [-sSeq_r, -sRet_r, -sDrop_r, -sSet_r, -sIf_r, -sPar_r, -sAsg_r, -sSetIx_r, -sFor_r, -gsCons_r, -gT_r, -e1_r, -e2_r, -tV_r, -tAndM_r, -tOrM_r, -tNotM_r, -eAnd_r, -eOr_r, -eNot_r, -eIf_r, -aCons_r, -eN_r, -fCall_r, -eCallK_r, -eM_r, -eSl_r, -oSome_r, -eIsN_r, -eLc_r, -iSeq_r, -iRng_r, ]
      exact w_turn A fun a3 a4 a5 a6 => ⟨⟨_, _, _, _, rfl⟩, rfl⟩
    · simp -implicitDefEqProofs (disch := first | (with_reducible assumption) | ((with_reducible show List.length _ = _); rfl) | (simp only [allD_cons, allD_nil, Option.map_some, Option.isSome_some]; done) | (simp only [List.length_cons, List.length_nil, List.length_map]; done) | ((with_reducible refine cMod_of ?_); omega) | ((with_reducible refine cDiv_of ?_ ?_) <;> omega) | ((with_reducible refine okR_of ?_ ?_) <;> omega) | omega | (simp only [List.length_take, List.length_drop, List.length_append, List.length_cons, List.length_nil, List.length_map, List.length_range, List.length_replicate]; omega)) [-sSeq_r, -sRet_r, -sDrop_r, -sSet_r, -sIf_r, -sPar_r, -sAsg_r, -sSetIx_r, -sFor_r, -gsCons_r, -gT_r, -e1_r, -e2_r, -tV_r, -tAndM_r, -tOrM_r, -tNotM_r, -eAnd_r, -eOr_r, -eNot_r, -eIf_r, -aCons_r, -eN_r, -fCall_r, -eCallK_r, -eM_r, -eSl_r, -oSome_r, -eIsN_r, -eLc_r, -iSeq_r, -iRng_r, ]
      exact w_turn B fun a3 a4 a5 a6 => ⟨⟨_, _, _, _, rfl⟩, rfl⟩
  · obtain ⟨⟨a3, a4, a5, a6, rfl⟩, rfl⟩ := I
    simp -implicitDefEqProofs (disch := first | (with_reducible assumption) | ((with_reducible show List.length _ = _); rfl) | (simp only [allD_cons, allD_nil, Option.map_some, Option.isSome_some]; done) | (simp only [List.length_cons, List.length_nil, List.length_map]; done) | ((with_reducible refine cMod_of ?_); omega) | ((with_reducible refine cDiv_of ?_ ?_) <;> omega) | ((with_reducible refine okR_of ?_ ?_) <;> omega) | omega | (simp only [List.length_take, List.length_drop, List.length_append, List.length_cons, List.length_nil, List.length_map, List.length_range, List.length_replicate]; omega)) [-sSeq_r, -sRet_r, -sDrop_r, -sSet_r, -sIf_r, -sPar_r, -sAsg_r, -sSetIx_r, -sFor_r, -gsCons_r, -gT_r, -e1_r, -e2_r, -tV_r, -tAndM_r, -tOrM_r, -tNotM_r, -eAnd_r, -eOr_r, -eNot_r, -eIf_r, -aCons_r, -eN_r, -fCall_r, -eCallK_r, -eM_r, -eSl_r, -oSome_r, -eIsN_r, -eLc_r, -iSeq_r, -iRng_r, r3_l_ranks_right]
    exact fin _ (J.mono (by simp)) E
end LW

namespace LW
open PySem PySem.Spec PyProof.Rows L2 DL PySem.W
theorem items_c {μ : Store} {n : Nat} {xs : List Dv} (e : μ[n]? = some (.lst xs)) : items (.c n) μ = some xs := by
  unfold items
  simp only [e]
theorem dSl_c {μ : Store} {n : Nat} {ds : List D} {i j : Option Int} (e : μ[n]? = some (.lst (ds.map .d))) : dSl (.c n) i j μ = .ok (.d (.list (cutL ds i j))) μ := by
  show (match items (.c n) μ with | some bs => (match allD (cutL bs i j) with | some ds => Out.ok (Dv.d (.list ds)) μ | none => .bad) | none => .bad) = _
  rw [items_c e]
  have : cutL (ds.map Dv.d) i j = (cutL ds i j).map .d := by
    unfold cutL
    simp only [List.length_map, List.map_take, List.map_drop]
  show (match allD (cutL (ds.map Dv.d) i j) with | some ds => Out.ok (Dv.d (.list ds)) μ | none => .bad) = _
  rw [this, allD_map]
theorem mem_cut {α : Type} {l : List α} {i j : Option Int} {d : α} (h : d ∈ cutL l i j) : d ∈ l := by
  unfold cutL at h
  first
    | exact List.mem_of_mem_drop (List.mem_of_mem_take h)
    | exact List.mem_of_mem_take (List.mem_of_mem_drop h)
theorem len_cut {α : Type} {l : List α} {i j : Option Int} : (cutL l i j).length ≤ l.length := by
  unfold cutL
  simp only [List.length_take, List.length_drop]
  omega
theorem dToTup_l {ds : List D} {μ : Store} (h : ds.length ≤ 16000000) : dToTup (.d (.list ds)) μ = .ok (.d (.tuple ds)) μ := by
  show dTup (ds.map .d) μ = _
  exact dTup_l h
theorem Bx.app' {h m : Nat} {μ ν : Store} (H : Bx h m μ) : Bx h m (μ ++ ν) := by
  obtain ⟨a, b, c, e, r⟩ := H
  exact ⟨a, b, c, (List.getElem?_append_left (lt_of_get e)).trans e, r⟩
theorem Bx.set' {h m n : Nat} {μ : Store} {c : Cell} (H : Bx h m μ) (hn : n ≠ h) : Bx h m (μ.set n c) := by
  obtain ⟨x, y, z, e, r⟩ := H
  exact ⟨x, y, z, by rw [List.getElem?_set_ne hn]; exact e, r⟩
theorem Bx.ne {h m : Nat} {μ : Store} (H : Bx h m μ) : μ.length ≠ h := by
  obtain ⟨x, y, z, e, r⟩ := H
  have := lt_of_get e
  omega
def Tp (d : D) : Prop := ∃ ds, d = .tuple ds ∧ okDs ds = true ∧ PyData.depthAll ds ≤ 4 ∧ wts ds ≤ 4000
theorem sx_wt : ∀ {ds : List D}, (∀ d ∈ ds, Sx d) → okDs ds = true ∧ PyData.depthAll ds = 0 ∧ wts ds ≤ 204 * ds.length
  | [], _ => ⟨rfl, rfl, by simp [wts]⟩
  | d :: ds, h => by
    obtain ⟨a, b, c⟩ := sx_wt (ds := ds) fun e he => h e (List.mem_cons_of_mem _ he)
    obtain ⟨l, rfl, l1, l2⟩ := h d List.mem_cons_self
    refine ⟨?_, ?_, ?_⟩
    · rw [okDs, a, Bool.and_true]
      show (T l).cps.toList.all _ = true
      rw [List.all_eq_true]
      intro c hc
      exact decide_eq_true (l2 c hc)
    · rw [PyData.depthAll, b]
      rfl
    · rw [wts, List.length_cons]
      have : wt (.str (T l)) = 10 * l.length + 2 := rfl
      omega
theorem dAdd_lc {n : Nat} {fs ss : List D} {μ : Store} (e : μ[n]? = some (.lst (ss.map .d))) (h : fs.length + ss.length ≤ 1000) : dAdd (.d (.list fs)) (.c n) μ = .ok (.d (.list (fs ++ ss))) μ := by
  show (match items (.d (.list fs)) μ, items (.c n) μ with | some xs, some ys => dList (xs ++ ys) μ | _, _ => .bad) = _
  rw [items_c e]
  show dList (fs.map Dv.d ++ ss.map Dv.d) μ = _
  rw [← List.map_append]
  exact dList_map (by rw [List.length_append]; omega)
theorem Tp.gd {d : D} (h : Tp d) : Gd 30 30000 d := by
  obtain ⟨ds, rfl, a, b, c⟩ := h
  refine ⟨a, ?_, ?_⟩
  · rw [PyData.depth]; omega
  · rw [wt]; omega
theorem all_true : ∀ {ys : List Dv}, (∀ y ∈ ys, y = .d (.bool true)) → ys = ((List.replicate ys.length true).map PyData.bool).map Dv.d
  | [], _ => rfl
  | y :: ys, hy => by
    have e := hy y List.mem_cons_self
    subst e
    have := all_true (ys := ys) fun z hz => hy z (List.mem_cons_of_mem _ hz)
    rw [List.length_cons, List.replicate_succ, List.map_cons, List.map_cons, ← this]
theorem w_bend {h m n : Nat} {μ : Store} {fs ss : List D} {x0 x1 x3 a7 a8 a9 : Option Dv} {Q : Fl → Store → Prop} {t : Nat} (H : Bx h m μ) (hm : m + 1000 ≤ 10 ^ 9) (hn : n ≠ h) (e : μ[n]? = some (.lst (ss.map .d))) (l1 : fs.length = 3) (l2 : ss.length = 3) (hf : ∀ d ∈ fs, Tp d) (hs : ∀ d ∈ ss, Tp d)
    (fin : ∀ a7 μ', Bx h (m + 30) μ' → Oth h μ μ' → Q (.nx [x0, x1, some (.c h), x3, some (.d (.list fs)), some (.c n), some (.d (.int t)), a7, a8, a9]) μ') :
    Wp (w1_law [x0, x1, some (.c h), x3, some (.d (.list fs)), some (.c n), some (.d (.int t)), a7, a8, a9] μ) Q := by
  have e2 : dAdd (.d (.list (fs ++ ss))) (.c n) μ = .ok (.d (.list (fs ++ ss ++ ss))) μ := dAdd_lc e (by rw [List.length_append]; omega)
  simp -implicitDefEqProofs (disch := first | (with_reducible assumption) | ((with_reducible show List.length _ = _); rfl) | (simp only [allD_cons, allD_nil, Option.map_some, Option.isSome_some]; done) | (simp only [List.length_cons, List.length_nil, List.length_map]; done) | ((with_reducible refine cMod_of ?_); omega) | ((with_reducible refine cDiv_of ?_ ?_) <;> omega) | ((with_reducible refine okR_of ?_ ?_) <;> omega) | omega | (simp only [List.length_take, List.length_drop, List.length_append, List.length_cons, List.length_nil, List.length_map, List.length_range, List.length_replicate]; omega)) [-sSeq_r, -sRet_r, -sDrop_r, -sSet_r, -sIf_r, -sPar_r, -sAsg_r, -sSetIx_r, -sFor_r, -gsCons_r, -gT_r, -e1_r, -e2_r, -tV_r, -tAndM_r, -tOrM_r, -tNotM_r, -eAnd_r, -eOr_r, -eNot_r, -eIf_r, -aCons_r, -eN_r, -fCall_r, -eCallK_r, -eM_r, -eSl_r, -oSome_r, -eIsN_r, -eLc_r, -iSeq_r, -iRng_r, w1_law, dAdd_lc e (show fs.length + ss.length ≤ 1000 by omega), e2]
  refine w_pick H (by omega) (by simp only [List.length_append]; omega) (by simp only [List.length_append]; omega) fun c μ1 hc H1 O1 => ?_
  have tc : Tp c := by
    have q : c ∈ fs ∨ c ∈ ss := by simpa [or_assoc] using hc
    rcases q with q | q
    · exact hf c q
    · exact hs c q
  obtain ⟨ds, rfl, a, b, cc⟩ := tc
  simp -implicitDefEqProofs (disch := first | (with_reducible assumption) | ((with_reducible show List.length _ = _); rfl) | (simp only [allD_cons, allD_nil, Option.map_some, Option.isSome_some]; done) | (simp only [List.length_cons, List.length_nil, List.length_map]; done) | ((with_reducible refine cMod_of ?_); omega) | ((with_reducible refine cDiv_of ?_ ?_) <;> omega) | ((with_reducible refine okR_of ?_ ?_) <;> omega) | omega | (simp only [List.length_take, List.length_drop, List.length_append, List.length_cons, List.length_nil, List.length_map, List.length_range, List.length_replicate]; omega)) [-sSeq_r, -sRet_r, -sDrop_r, -sSet_r, -sIf_r, -sPar_r, -sAsg_r, -sSetIx_r, -sFor_r, -gsCons_r, -gT_r, -e1_r, -e2_r, -tV_r, -tAndM_r, -tOrM_r, -tNotM_r, -eAnd_r, -eOr_r, -eNot_r, -eIf_r, -aCons_r, -eN_r, -fCall_r, -eCallK_r, -eM_r, -eSl_r, -oSome_r, -eIsN_r, -eLc_r, -iSeq_r, -iRng_r, ]
  refine w_bent H1 (by omega) a (by omega) fun r μ2 B H2 O2 => ?_
  have g1 : Gd 8 10206 r := ⟨B.ok, by have := B.dp; rw [PyData.depth] at this; omega, by have := B.ln; rw [wt] at this; omega⟩
  have stop : Wp (r1_law [x0, x1, some (.c h), x3, some (.d (.list fs)), some (.c n), some (.d (.int t)), some (.d r), a8, a9] μ2) Q := by
    simp -implicitDefEqProofs (disch := first | (with_reducible assumption) | ((with_reducible show List.length _ = _); rfl) | (simp only [allD_cons, allD_nil, Option.map_some, Option.isSome_some]; done) | (simp only [List.length_cons, List.length_nil, List.length_map]; done) | ((with_reducible refine cMod_of ?_); omega) | ((with_reducible refine cDiv_of ?_ ?_) <;> omega) | ((with_reducible refine okR_of ?_ ?_) <;> omega) | omega | (simp only [List.length_take, List.length_drop, List.length_append, List.length_cons, List.length_nil, List.length_map, List.length_range, List.length_replicate]; omega)) [-sSeq_r, -sRet_r, -sDrop_r, -sSet_r, -sIf_r, -sPar_r, -sAsg_r, -sSetIx_r, -sFor_r, -gsCons_r, -gT_r, -e1_r, -e2_r, -tV_r, -tAndM_r, -tOrM_r, -tNotM_r, -eAnd_r, -eOr_r, -eNot_r, -eIf_r, -aCons_r, -eN_r, -fCall_r, -eCallK_r, -eM_r, -eSl_r, -oSome_r, -eIsN_r, -eLc_r, -iSeq_r, -iRng_r, r1_law]
    refine told_right (g1.mono (by decide) (by decide)) ?_
    simp -implicitDefEqProofs (disch := first | (with_reducible assumption) | ((with_reducible show List.length _ = _); rfl) | (simp only [allD_cons, allD_nil, Option.map_some, Option.isSome_some]; done) | (simp only [List.length_cons, List.length_nil, List.length_map]; done) | ((with_reducible refine cMod_of ?_); omega) | ((with_reducible refine cDiv_of ?_ ?_) <;> omega) | ((with_reducible refine okR_of ?_ ?_) <;> omega) | omega | (simp only [List.length_take, List.length_drop, List.length_append, List.length_cons, List.length_nil, List.length_map, List.length_range, List.length_replicate]; omega)) [-sSeq_r, -sRet_r, -sDrop_r, -sSet_r, -sIf_r, -sPar_r, -sAsg_r, -sSetIx_r, -sFor_r, -gsCons_r, -gT_r, -e1_r, -e2_r, -tV_r, -tAndM_r, -tOrM_r, -tNotM_r, -eAnd_r, -eOr_r, -eNot_r, -eIf_r, -aCons_r, -eN_r, -fCall_r, -eCallK_r, -eM_r, -eSl_r, -oSome_r, -eIsN_r, -eLc_r, -iSeq_r, -iRng_r, ]
    exact fin _ _ (H2.mono (by omega)) (O1.trans O2)
  simp -implicitDefEqProofs (disch := first | (with_reducible assumption) | ((with_reducible show List.length _ = _); rfl) | (simp only [allD_cons, allD_nil, Option.map_some, Option.isSome_some]; done) | (simp only [List.length_cons, List.length_nil, List.length_map]; done) | ((with_reducible refine cMod_of ?_); omega) | ((with_reducible refine cDiv_of ?_ ?_) <;> omega) | ((with_reducible refine okR_of ?_ ?_) <;> omega) | omega | (simp only [List.length_take, List.length_drop, List.length_append, List.length_cons, List.length_nil, List.length_map, List.length_range, List.length_replicate]; omega)) [-sSeq_r, -sRet_r, -sDrop_r, -sSet_r, -sIf_r, -sPar_r, -sAsg_r, -sSetIx_r, -sFor_r, -gsCons_r, -gT_r, -e1_r, -e2_r, -tV_r, -tAndM_r, -tOrM_r, -tNotM_r, -eAnd_r, -eOr_r, -eNot_r, -eIf_r, -aCons_r, -eN_r, -fCall_r, -eCallK_r, -eM_r, -eSl_r, -oSome_r, -eIsN_r, -eLc_r, -iSeq_r, -iRng_r, r2_law]
  by_cases h4 : (t : Int) % 4 = 0
  · rw [decide_eq_true h4]
    rcases B.kd with ⟨es, rfl⟩ | ⟨es, rfl⟩
    · have eo : okDs es = true := g1.ok
      have ew : wts es ≤ 10206 := by have := g1.ln; rw [wt] at this; omega
      have ed : PyData.depthAll es ≤ 8 := by have := g1.dp; rw [PyData.depth] at this; omega
      have ei : dIsi "tuple" (.d (.tuple es)) μ2 = .ok (.d (.bool true)) μ2 := rfl
      simp -implicitDefEqProofs (disch := first | (with_reducible assumption) | ((with_reducible show List.length _ = _); rfl) | (simp only [allD_cons, allD_nil, Option.map_some, Option.isSome_some]; done) | (simp only [List.length_cons, List.length_nil, List.length_map]; done) | ((with_reducible refine cMod_of ?_); omega) | ((with_reducible refine cDiv_of ?_ ?_) <;> omega) | ((with_reducible refine okR_of ?_ ?_) <;> omega) | omega | (simp only [List.length_take, List.length_drop, List.length_append, List.length_cons, List.length_nil, List.length_map, List.length_range, List.length_replicate]; omega)) [-sSeq_r, -sRet_r, -sDrop_r, -sSet_r, -sIf_r, -sPar_r, -sAsg_r, -sSetIx_r, -sFor_r, -gsCons_r, -gT_r, -e1_r, -e2_r, -tV_r, -tAndM_r, -tOrM_r, -tNotM_r, -eAnd_r, -eOr_r, -eNot_r, -eIf_r, -aCons_r, -eN_r, -fCall_r, -eCallK_r, -eM_r, -eSl_r, -oSome_r, -eIsN_r, -eLc_r, -iSeq_r, -iRng_r, ei]
      refine w_bent H2 (by omega) eo (by omega) fun r' μ3 B' H3 O3 => ?_
      have g2 : Gd 30 30000 r' := ⟨B'.ok, by have := B'.dp; rw [PyData.depth] at this; omega, by have := B'.ln; rw [wt] at this; omega⟩
      simp -implicitDefEqProofs (disch := first | (with_reducible assumption) | ((with_reducible show List.length _ = _); rfl) | (simp only [allD_cons, allD_nil, Option.map_some, Option.isSome_some]; done) | (simp only [List.length_cons, List.length_nil, List.length_map]; done) | ((with_reducible refine cMod_of ?_); omega) | ((with_reducible refine cDiv_of ?_ ?_) <;> omega) | ((with_reducible refine okR_of ?_ ?_) <;> omega) | omega | (simp only [List.length_take, List.length_drop, List.length_append, List.length_cons, List.length_nil, List.length_map, List.length_range, List.length_replicate]; omega)) [-sSeq_r, -sRet_r, -sDrop_r, -sSet_r, -sIf_r, -sPar_r, -sAsg_r, -sSetIx_r, -sFor_r, -gsCons_r, -gT_r, -e1_r, -e2_r, -tV_r, -tAndM_r, -tOrM_r, -tNotM_r, -eAnd_r, -eOr_r, -eNot_r, -eIf_r, -aCons_r, -eN_r, -fCall_r, -eCallK_r, -eM_r, -eSl_r, -oSome_r, -eIsN_r, -eLc_r, -iSeq_r, -iRng_r, r1_law]
      refine told_right g2 ?_
      simp -implicitDefEqProofs (disch := first | (with_reducible assumption) | ((with_reducible show List.length _ = _); rfl) | (simp only [allD_cons, allD_nil, Option.map_some, Option.isSome_some]; done) | (simp only [List.length_cons, List.length_nil, List.length_map]; done) | ((with_reducible refine cMod_of ?_); omega) | ((with_reducible refine cDiv_of ?_ ?_) <;> omega) | ((with_reducible refine okR_of ?_ ?_) <;> omega) | omega | (simp only [List.length_take, List.length_drop, List.length_append, List.length_cons, List.length_nil, List.length_map, List.length_range, List.length_replicate]; omega)) [-sSeq_r, -sRet_r, -sDrop_r, -sSet_r, -sIf_r, -sPar_r, -sAsg_r, -sSetIx_r, -sFor_r, -gsCons_r, -gT_r, -e1_r, -e2_r, -tV_r, -tAndM_r, -tOrM_r, -tNotM_r, -eAnd_r, -eOr_r, -eNot_r, -eIf_r, -aCons_r, -eN_r, -fCall_r, -eCallK_r, -eM_r, -eSl_r, -oSome_r, -eIsN_r, -eLc_r, -iSeq_r, -iRng_r, ]
      exact fin _ _ (H3.mono (by omega)) ((O1.trans O2).trans O3)
    · have ei : dIsi "tuple" (.d (.list es)) μ2 = .ok (.d (.bool false)) μ2 := rfl
      simp -implicitDefEqProofs (disch := first | (with_reducible assumption) | ((with_reducible show List.length _ = _); rfl) | (simp only [allD_cons, allD_nil, Option.map_some, Option.isSome_some]; done) | (simp only [List.length_cons, List.length_nil, List.length_map]; done) | ((with_reducible refine cMod_of ?_); omega) | ((with_reducible refine cDiv_of ?_ ?_) <;> omega) | ((with_reducible refine okR_of ?_ ?_) <;> omega) | omega | (simp only [List.length_take, List.length_drop, List.length_append, List.length_cons, List.length_nil, List.length_map, List.length_range, List.length_replicate]; omega)) [-sSeq_r, -sRet_r, -sDrop_r, -sSet_r, -sIf_r, -sPar_r, -sAsg_r, -sSetIx_r, -sFor_r, -gsCons_r, -gT_r, -e1_r, -e2_r, -tV_r, -tAndM_r, -tOrM_r, -tNotM_r, -eAnd_r, -eOr_r, -eNot_r, -eIf_r, -aCons_r, -eN_r, -fCall_r, -eCallK_r, -eM_r, -eSl_r, -oSome_r, -eIsN_r, -eLc_r, -iSeq_r, -iRng_r, ei]
      exact stop
  · rw [decide_eq_false h4]
    simp -implicitDefEqProofs (disch := first | (with_reducible assumption) | ((with_reducible show List.length _ = _); rfl) | (simp only [allD_cons, allD_nil, Option.map_some, Option.isSome_some]; done) | (simp only [List.length_cons, List.length_nil, List.length_map]; done) | ((with_reducible refine cMod_of ?_); omega) | ((with_reducible refine cDiv_of ?_ ?_) <;> omega) | ((with_reducible refine okR_of ?_ ?_) <;> omega) | omega | (simp only [List.length_take, List.length_drop, List.length_append, List.length_cons, List.length_nil, List.length_map, List.length_range, List.length_replicate]; omega)) [-sSeq_r, -sRet_r, -sDrop_r, -sSet_r, -sIf_r, -sPar_r, -sAsg_r, -sSetIx_r, -sFor_r, -gsCons_r, -gT_r, -e1_r, -e2_r, -tV_r, -tAndM_r, -tOrM_r, -tNotM_r, -eAnd_r, -eOr_r, -eNot_r, -eIf_r, -aCons_r, -eN_r, -fCall_r, -eCallK_r, -eM_r, -eSl_r, -oSome_r, -eIsN_r, -eLc_r, -iSeq_r, -iRng_r, ]
    exact stop
theorem w_rest {h m n : Nat} {μ : Store} {fs ss : List D} {x0 x1 x3 a6 a7 a8 a9 : Option Dv} {Q : Fl → Store → Prop} (H : Bx h m μ) (hm : m + 10000 ≤ 10 ^ 9) (hn : n ≠ h) (e : μ[n]? = some (.lst (ss.map .d))) (l1 : fs.length = 3) (l2 : ss.length = 3) (hf : ∀ d ∈ fs, Tp d) (hs : ∀ d ∈ ss, Tp d)
    (fin : ∀ a6 a7 a8 a9 μ', Q (.nx [x0, x1, some (.c h), x3, some (.d (.list fs)), some (.c n), a6, a7, a8, a9]) μ') :
    Wp (r4_law [x0, x1, some (.c h), x3, some (.d (.list fs)), some (.c n), a6, a7, a8, a9] μ) Q := by
  have r8 := rng1_n (μ := μ) (k := 8) (by decide)
  simp -implicitDefEqProofs (disch := first | (with_reducible assumption) | ((with_reducible show List.length _ = _); rfl) | (simp only [allD_cons, allD_nil, Option.map_some, Option.isSome_some]; done) | (simp only [List.length_cons, List.length_nil, List.length_map]; done) | ((with_reducible refine cMod_of ?_); omega) | ((with_reducible refine cDiv_of ?_ ?_) <;> omega) | ((with_reducible refine okR_of ?_ ?_) <;> omega) | omega | (simp only [List.length_take, List.length_drop, List.length_append, List.length_cons, List.length_nil, List.length_map, List.length_range, List.length_replicate]; omega)) [-sSeq_r, -sRet_r, -sDrop_r, -sSet_r, -sIf_r, -sPar_r, -sAsg_r, -sSetIx_r, -sFor_r, -gsCons_r, -gT_r, -e1_r, -e2_r, -tV_r, -tAndM_r, -tOrM_r, -tNotM_r, -eAnd_r, -eOr_r, -eNot_r, -eIf_r, -aCons_r, -eN_r, -fCall_r, -eCallK_r, -eM_r, -eSl_r, -oSome_r, -eIsN_r, -eLc_r, -iSeq_r, -iRng_r, r4_law, dAdd_lc e (show fs.length + ss.length ≤ 1000 by omega), r8]
  refine Wp_lcF (by simp) ?_
  refine Wp_lcM_y (bs := (List.range 8).map fun (i : Nat) => Dv.d (.int i)) (fun i μ' => Bx h (m + i) μ' ∧ Oth h μ μ') (fun y => ∃ d, y = .d d ∧ Gd 2 2100 d) (i := 0) ⟨H, Oth.refl _ _⟩ (fun j b μ1 hb I => ?_) fun ys μ1 hl hy I => ?_
  · obtain ⟨J, O⟩ := I
    obtain ⟨u, hu, rfl⟩ := mem_rng hb
    have hj : j < 8 := by
      have := (List.getElem?_eq_some_iff.mp hb).1
      simpa using this
    simp -implicitDefEqProofs (disch := first | (with_reducible assumption) | ((with_reducible show List.length _ = _); rfl) | (simp only [allD_cons, allD_nil, Option.map_some, Option.isSome_some]; done) | (simp only [List.length_cons, List.length_nil, List.length_map]; done) | ((with_reducible refine cMod_of ?_); omega) | ((with_reducible refine cDiv_of ?_ ?_) <;> omega) | ((with_reducible refine okR_of ?_ ?_) <;> omega) | omega | (simp only [List.length_take, List.length_drop, List.length_append, List.length_cons, List.length_nil, List.length_map, List.length_range, List.length_replicate]; omega)) [-sSeq_r, -sRet_r, -sDrop_r, -sSet_r, -sIf_r, -sPar_r, -sAsg_r, -sSetIx_r, -sFor_r, -gsCons_r, -gT_r, -e1_r, -e2_r, -tV_r, -tAndM_r, -tOrM_r, -tNotM_r, -eAnd_r, -eOr_r, -eNot_r, -eIf_r, -aCons_r, -eN_r, -fCall_r, -eCallK_r, -eM_r, -eSl_r, -oSome_r, -eIsN_r, -eLc_r, -iSeq_r, -iRng_r, c2_law, wipeD]
    refine w_odd J (by omega) fun c μ2 hc H2 O2 => ?_
    simp -implicitDefEqProofs (disch := first | (with_reducible assumption) | ((with_reducible show List.length _ = _); rfl) | (simp only [allD_cons, allD_nil, Option.map_some, Option.isSome_some]; done) | (simp only [List.length_cons, List.length_nil, List.length_map]; done) | ((with_reducible refine cMod_of ?_); omega) | ((with_reducible refine cDiv_of ?_ ?_) <;> omega) | ((with_reducible refine okR_of ?_ ?_) <;> omega) | omega | (simp only [List.length_take, List.length_drop, List.length_append, List.length_cons, List.length_nil, List.length_map, List.length_range, List.length_replicate]; omega)) [-sSeq_r, -sRet_r, -sDrop_r, -sSet_r, -sIf_r, -sPar_r, -sAsg_r, -sSetIx_r, -sFor_r, -gsCons_r, -gT_r, -e1_r, -e2_r, -tV_r, -tAndM_r, -tOrM_r, -tNotM_r, -eAnd_r, -eOr_r, -eNot_r, -eIf_r, -aCons_r, -eN_r, -fCall_r, -eCallK_r, -eM_r, -eSl_r, -oSome_r, -eIsN_r, -eLc_r, -iSeq_r, -iRng_r, ]
    exact ⟨hc, H2.mono (by omega), O.trans O2⟩
  obtain ⟨J, O⟩ := I
  obtain ⟨os, rfl, hos⟩ := dd_list (R := Gd 2 2100) hy
  have l3 : os.length = 8 := by simpa using hl
  rw [dList_map (by omega)]
  have e1 := (O.2 n hn).trans e
  have la : (fs ++ ss).length + os.length ≤ 16000000 := by rw [List.length_append]; omega
  simp -implicitDefEqProofs (disch := first | (with_reducible assumption) | ((with_reducible show List.length _ = _); rfl) | (simp only [allD_cons, allD_nil, Option.map_some, Option.isSome_some]; done) | (simp only [List.length_cons, List.length_nil, List.length_map]; done) | ((with_reducible refine cMod_of ?_); omega) | ((with_reducible refine cDiv_of ?_ ?_) <;> omega) | ((with_reducible refine okR_of ?_ ?_) <;> omega) | omega | (simp only [List.length_take, List.length_drop, List.length_append, List.length_cons, List.length_nil, List.length_map, List.length_range, List.length_replicate]; omega)) [-sSeq_r, -sRet_r, -sDrop_r, -sSet_r, -sIf_r, -sPar_r, -sAsg_r, -sSetIx_r, -sFor_r, -gsCons_r, -gT_r, -e1_r, -e2_r, -tV_r, -tAndM_r, -tOrM_r, -tNotM_r, -eAnd_r, -eOr_r, -eNot_r, -eIf_r, -aCons_r, -eN_r, -fCall_r, -eCallK_r, -eM_r, -eSl_r, -oSome_r, -eIsN_r, -eLc_r, -iSeq_r, -iRng_r, dAdd_ll la]
  have gd : ∀ d ∈ fs ++ ss ++ os, Gd 30 30000 d := fun d hd => by
    have q : d ∈ fs ∨ d ∈ ss ∨ d ∈ os := by simpa [or_assoc] using hd
    rcases q with q | q | q
    · exact (hf d q).gd
    · exact (hs d q).gd
    · exact (hos d q).mono (by decide) (by decide)
  rw [show fs.map Dv.d ++ (ss.map Dv.d ++ os.map Dv.d) = (fs ++ ss ++ os).map Dv.d from by simp]
  refine Wp_lcF (by simp only [List.length_append, List.length_map]; omega) ?_
  refine Wp_lcM_y (bs := (fs ++ ss ++ os).map Dv.d) (fun _ μ' => μ' = μ1) (fun y => y = .d (.bool true)) (i := 0) rfl (fun j b μ' hb e => ?_) fun ys μ' hl hy e => ?_
  · subst e
    obtain ⟨d, hd, rfl⟩ := mem_map_d hb
    simp -implicitDefEqProofs (disch := first | (with_reducible assumption) | ((with_reducible show List.length _ = _); rfl) | (simp only [allD_cons, allD_nil, Option.map_some, Option.isSome_some]; done) | (simp only [List.length_cons, List.length_nil, List.length_map]; done) | ((with_reducible refine cMod_of ?_); omega) | ((with_reducible refine cDiv_of ?_ ?_) <;> omega) | ((with_reducible refine okR_of ?_ ?_) <;> omega) | omega | (simp only [List.length_take, List.length_drop, List.length_append, List.length_cons, List.length_nil, List.length_map, List.length_range, List.length_replicate]; omega)) [-sSeq_r, -sRet_r, -sDrop_r, -sSet_r, -sIf_r, -sPar_r, -sAsg_r, -sSetIx_r, -sFor_r, -gsCons_r, -gT_r, -e1_r, -e2_r, -tV_r, -tAndM_r, -tOrM_r, -tNotM_r, -eAnd_r, -eOr_r, -eNot_r, -eIf_r, -aCons_r, -eN_r, -fCall_r, -eCallK_r, -eM_r, -eSl_r, -oSome_r, -eIsN_r, -eLc_r, -iSeq_r, -iRng_r, c3_law, wipeD]
    refine told_right (gd d hd) ?_
    simp -implicitDefEqProofs (disch := first | (with_reducible assumption) | ((with_reducible show List.length _ = _); rfl) | (simp only [allD_cons, allD_nil, Option.map_some, Option.isSome_some]; done) | (simp only [List.length_cons, List.length_nil, List.length_map]; done) | ((with_reducible refine cMod_of ?_); omega) | ((with_reducible refine cDiv_of ?_ ?_) <;> omega) | ((with_reducible refine okR_of ?_ ?_) <;> omega) | omega | (simp only [List.length_take, List.length_drop, List.length_append, List.length_cons, List.length_nil, List.length_map, List.length_range, List.length_replicate]; omega)) [-sSeq_r, -sRet_r, -sDrop_r, -sSet_r, -sIf_r, -sPar_r, -sAsg_r, -sSetIx_r, -sFor_r, -gsCons_r, -gT_r, -e1_r, -e2_r, -tV_r, -tAndM_r, -tOrM_r, -tNotM_r, -eAnd_r, -eOr_r, -eNot_r, -eIf_r, -aCons_r, -eN_r, -fCall_r, -eCallK_r, -eM_r, -eSl_r, -oSome_r, -eIsN_r, -eLc_r, -iSeq_r, -iRng_r, ]
  · subst e
    have l14 : ys.length = 14 := by rw [hl, List.length_map, List.length_append, List.length_append]; omega
    have ey := all_true hy
    rw [l14] at ey
    subst ey
    rw [dList_map (by simp)]
    have ea : dAll (fun ks => ks.all id) [.d (.list ((List.replicate 14 true).map PyData.bool))] μ' = .ok (.d (.bool true)) μ' := dAll_b (ks := List.replicate 14 true)
    have r24 := rng1_n (μ := μ') (k := 24) (by decide)
    simp -implicitDefEqProofs (disch := first | (with_reducible assumption) | ((with_reducible show List.length _ = _); rfl) | (simp only [allD_cons, allD_nil, Option.map_some, Option.isSome_some]; done) | (simp only [List.length_cons, List.length_nil, List.length_map]; done) | ((with_reducible refine cMod_of ?_); omega) | ((with_reducible refine cDiv_of ?_ ?_) <;> omega) | ((with_reducible refine okR_of ?_ ?_) <;> omega) | omega | (simp only [List.length_take, List.length_drop, List.length_append, List.length_cons, List.length_nil, List.length_map, List.length_range, List.length_replicate]; omega)) [-sSeq_r, -sRet_r, -sDrop_r, -sSet_r, -sIf_r, -sPar_r, -sAsg_r, -sSetIx_r, -sFor_r, -gsCons_r, -gT_r, -e1_r, -e2_r, -tV_r, -tAndM_r, -tOrM_r, -tNotM_r, -eAnd_r, -eOr_r, -eNot_r, -eIf_r, -aCons_r, -eN_r, -fCall_r, -eCallK_r, -eM_r, -eSl_r, -oSome_r, -eIsN_r, -eLc_r, -iSeq_r, -iRng_r, ]
    refine Wp_eq ea ?_
    simp -implicitDefEqProofs (disch := first | (with_reducible assumption) | ((with_reducible show List.length _ = _); rfl) | (simp only [allD_cons, allD_nil, Option.map_some, Option.isSome_some]; done) | (simp only [List.length_cons, List.length_nil, List.length_map]; done) | ((with_reducible refine cMod_of ?_); omega) | ((with_reducible refine cDiv_of ?_ ?_) <;> omega) | ((with_reducible refine okR_of ?_ ?_) <;> omega) | omega | (simp only [List.length_take, List.length_drop, List.length_append, List.length_cons, List.length_nil, List.length_map, List.length_range, List.length_replicate]; omega)) [-sSeq_r, -sRet_r, -sDrop_r, -sSet_r, -sIf_r, -sPar_r, -sAsg_r, -sSetIx_r, -sFor_r, -gsCons_r, -gT_r, -e1_r, -e2_r, -tV_r, -tAndM_r, -tOrM_r, -tNotM_r, -eAnd_r, -eOr_r, -eNot_r, -eIf_r, -aCons_r, -eN_r, -fCall_r, -eCallK_r, -eM_r, -eSl_r, -oSome_r, -eIsN_r, -eLc_r, -iSeq_r, -iRng_r, r3_law, r24]
    refine Wp_forL (bs := (List.range 24).map fun (i : Nat) => Dv.d (.int i)) (fun i ρ μ1 => (∃ a6 a7 a8 a9, ρ = [x0, x1, some (.c h), x3, some (.d (.list fs)), some (.c n), a6, a7, a8, a9]) ∧ Bx h (m + 8 + 30 * i) μ1 ∧ Oth h μ' μ1) (i := 0) ⟨⟨_, _, _, _, rfl⟩, J.mono (by simp), Oth.refl _ _⟩ (fun t b ρ μ3 hb I => ?_) fun ρ' μ3 I => ?_
    · obtain ⟨⟨b6, b7, b8, b9, rfl⟩, J3, O3⟩ := I
      obtain ⟨u, hu, rfl⟩ := mem_rng hb
      have ht : t < 24 := by
        have := (List.getElem?_eq_some_iff.mp hb).1
        simpa using this
      simp -implicitDefEqProofs (disch := first | (with_reducible assumption) | ((with_reducible show List.length _ = _); rfl) | (simp only [allD_cons, allD_nil, Option.map_some, Option.isSome_some]; done) | (simp only [List.length_cons, List.length_nil, List.length_map]; done) | ((with_reducible refine cMod_of ?_); omega) | ((with_reducible refine cDiv_of ?_ ?_) <;> omega) | ((with_reducible refine okR_of ?_ ?_) <;> omega) | omega | (simp only [List.length_take, List.length_drop, List.length_append, List.length_cons, List.length_nil, List.length_map, List.length_range, List.length_replicate]; omega)) [-sSeq_r, -sRet_r, -sDrop_r, -sSet_r, -sIf_r, -sPar_r, -sAsg_r, -sSetIx_r, -sFor_r, -gsCons_r, -gT_r, -e1_r, -e2_r, -tV_r, -tAndM_r, -tOrM_r, -tNotM_r, -eAnd_r, -eOr_r, -eNot_r, -eIf_r, -aCons_r, -eN_r, -fCall_r, -eCallK_r, -eM_r, -eSl_r, -oSome_r, -eIsN_r, -eLc_r, -iSeq_r, -iRng_r, ]
      refine w_bend J3 (by omega) hn ((O3.2 n hn).trans e1) l1 l2 hf hs fun a7 μ4 H4 O4 => ?_
      exact ⟨⟨_, _, _, _, rfl⟩, H4.mono (by omega), O3.trans O4⟩
    · obtain ⟨⟨b6, b7, b8, b9, rfl⟩, _, _⟩ := I
      exact fin _ _ _ _ _
end LW

namespace LW
open PySem PySem.Spec PyProof.Rows L2 DL PySem.W
theorem w_hand2 {ns : List Int} (hn : ns.length ≤ 63) (hb : ∀ i ∈ ns, Builtin.Int.intBits i ≤ 1048576) {k : Nat} (hk : k ≤ 100) {μ : Store} {a2 a3 a4 a5 a6 a7 a8 a9 : Option Dv} {Q : Fl → Store → Prop}
  (fin : ∀ a2 a3 a4 a5 a6 a7 a8 a9 μ', Q (.nx [some (.d (.list (ns.map PyData.int))), some (.d (.int k)), a2, a3, a4, a5, a6, a7, a8, a9]) μ') : Wp (w2_law [some (.d (.list (ns.map PyData.int))), some (.d (.int k)), a2, a3, a4, a5, a6, a7, a8, a9] μ) Q := by
  simp -implicitDefEqProofs (disch := first | (with_reducible assumption) | ((with_reducible show List.length _ = _); rfl) | (simp only [allD_cons, allD_nil, Option.map_some, Option.isSome_some]; done) | (simp only [List.length_cons, List.length_nil, List.length_map]; done) | ((with_reducible refine cMod_of ?_); omega) | ((with_reducible refine cDiv_of ?_ ?_) <;> omega) | ((with_reducible refine okR_of ?_ ?_) <;> omega) | omega | (simp only [List.length_take, List.length_drop, List.length_append, List.length_cons, List.length_nil, List.length_map, List.length_range, List.length_replicate]; omega)) [-sSeq_r, -sRet_r, -sDrop_r, -sSet_r, -sIf_r, -sPar_r, -sAsg_r, -sSetIx_r, -sFor_r, -gsCons_r, -gT_r, -e1_r, -e2_r, -tV_r, -tAndM_r, -tOrM_r, -tNotM_r, -eAnd_r, -eOr_r, -eNot_r, -eIf_r, -aCons_r, -eN_r, -fCall_r, -eCallK_r, -eM_r, -eSl_r, -oSome_r, -eIsN_r, -eLc_r, -iSeq_r, -iRng_r, w2_law]
  refine w_hand hn hk hb fun h μ1 hn1 H1 => ?_
  simp -implicitDefEqProofs (disch := first | (with_reducible assumption) | ((with_reducible show List.length _ = _); rfl) | (simp only [allD_cons, allD_nil, Option.map_some, Option.isSome_some]; done) | (simp only [List.length_cons, List.length_nil, List.length_map]; done) | ((with_reducible refine cMod_of ?_); omega) | ((with_reducible refine cDiv_of ?_ ?_) <;> omega) | ((with_reducible refine okR_of ?_ ?_) <;> omega) | omega | (simp only [List.length_take, List.length_drop, List.length_append, List.length_cons, List.length_nil, List.length_map, List.length_range, List.length_replicate]; omega)) [-sSeq_r, -sRet_r, -sDrop_r, -sSet_r, -sIf_r, -sPar_r, -sAsg_r, -sSetIx_r, -sFor_r, -gsCons_r, -gT_r, -e1_r, -e2_r, -tV_r, -tAndM_r, -tOrM_r, -tNotM_r, -eAnd_r, -eOr_r, -eNot_r, -eIf_r, -aCons_r, -eN_r, -fCall_r, -eCallK_r, -eM_r, -eSl_r, -oSome_r, -eIsN_r, -eLc_r, -iSeq_r, -iRng_r, r10_law]
  refine w_ranks H1 (by omega) fun μ2 H2 E2 => ?_
  simp -implicitDefEqProofs (disch := first | (with_reducible assumption) | ((with_reducible show List.length _ = _); rfl) | (simp only [allD_cons, allD_nil, Option.map_some, Option.isSome_some]; done) | (simp only [List.length_cons, List.length_nil, List.length_map]; done) | ((with_reducible refine cMod_of ?_); omega) | ((with_reducible refine cDiv_of ?_ ?_) <;> omega) | ((with_reducible refine okR_of ?_ ?_) <;> omega) | omega | (simp only [List.length_take, List.length_drop, List.length_append, List.length_cons, List.length_nil, List.length_map, List.length_range, List.length_replicate]; omega)) [-sSeq_r, -sRet_r, -sDrop_r, -sSet_r, -sIf_r, -sPar_r, -sAsg_r, -sSetIx_r, -sFor_r, -gsCons_r, -gT_r, -e1_r, -e2_r, -tV_r, -tAndM_r, -tOrM_r, -tNotM_r, -eAnd_r, -eOr_r, -eNot_r, -eIf_r, -aCons_r, -eN_r, -fCall_r, -eCallK_r, -eM_r, -eSl_r, -oSome_r, -eIsN_r, -eLc_r, -iSeq_r, -iRng_r, r9_law]
  refine w_words H2 (by omega) (by decide) fun nc μ3 cs hnc hne hcl hcs ec H3 E3 => ?_
  simp -implicitDefEqProofs (disch := first | (with_reducible assumption) | ((with_reducible show List.length _ = _); rfl) | (simp only [allD_cons, allD_nil, Option.map_some, Option.isSome_some]; done) | (simp only [List.length_cons, List.length_nil, List.length_map]; done) | ((with_reducible refine cMod_of ?_); omega) | ((with_reducible refine cDiv_of ?_ ?_) <;> omega) | ((with_reducible refine okR_of ?_ ?_) <;> omega) | omega | (simp only [List.length_take, List.length_drop, List.length_append, List.length_cons, List.length_nil, List.length_map, List.length_range, List.length_replicate]; omega)) [-sSeq_r, -sRet_r, -sDrop_r, -sSet_r, -sIf_r, -sPar_r, -sAsg_r, -sSetIx_r, -sFor_r, -gsCons_r, -gT_r, -e1_r, -e2_r, -tV_r, -tAndM_r, -tOrM_r, -tNotM_r, -eAnd_r, -eOr_r, -eNot_r, -eIf_r, -aCons_r, -eN_r, -fCall_r, -eCallK_r, -eM_r, -eSl_r, -oSome_r, -eIsN_r, -eLc_r, -iSeq_r, -iRng_r, ]
  refine w_take H3 (by omega) (by decide) (by decide) fun r μ4 hr H4 O4 => ?_
  have ec4 : μ4[nc]? = some (.lst (cs.map .d)) := (Ext.oth O4).at hne ec
  simp -implicitDefEqProofs (disch := first | (with_reducible assumption) | ((with_reducible show List.length _ = _); rfl) | (simp only [allD_cons, allD_nil, Option.map_some, Option.isSome_some]; done) | (simp only [List.length_cons, List.length_nil, List.length_map]; done) | ((with_reducible refine cMod_of ?_); omega) | ((with_reducible refine cDiv_of ?_ ?_) <;> omega) | ((with_reducible refine okR_of ?_ ?_) <;> omega) | omega | (simp only [List.length_take, List.length_drop, List.length_append, List.length_cons, List.length_nil, List.length_map, List.length_range, List.length_replicate]; omega)) [-sSeq_r, -sRet_r, -sDrop_r, -sSet_r, -sIf_r, -sPar_r, -sAsg_r, -sSetIx_r, -sFor_r, -gsCons_r, -gT_r, -e1_r, -e2_r, -tV_r, -tAndM_r, -tOrM_r, -tNotM_r, -eAnd_r, -eOr_r, -eNot_r, -eIf_r, -aCons_r, -eN_r, -fCall_r, -eCallK_r, -eM_r, -eSl_r, -oSome_r, -eIsN_r, -eLc_r, -iSeq_r, -iRng_r, dSl_c ec4]
  have hcols : ∀ d ∈ cutL cs none (some (1 + (r : Int))), Sx d := fun d hd => hcs d (mem_cut hd)
  have lcols : (cutL cs none (some (1 + (r : Int)))).length ≤ 6 := by rw [← hcl]; exact len_cut
  generalize cutL cs none (some (1 + (r : Int))) = cols at hcols lcols
  simp -implicitDefEqProofs (disch := first | (with_reducible assumption) | ((with_reducible show List.length _ = _); rfl) | (simp only [allD_cons, allD_nil, Option.map_some, Option.isSome_some]; done) | (simp only [List.length_cons, List.length_nil, List.length_map]; done) | ((with_reducible refine cMod_of ?_); omega) | ((with_reducible refine cDiv_of ?_ ?_) <;> omega) | ((with_reducible refine okR_of ?_ ?_) <;> omega) | omega | (simp only [List.length_take, List.length_drop, List.length_append, List.length_cons, List.length_nil, List.length_map, List.length_range, List.length_replicate]; omega)) [-sSeq_r, -sRet_r, -sDrop_r, -sSet_r, -sIf_r, -sPar_r, -sAsg_r, -sSetIx_r, -sFor_r, -gsCons_r, -gT_r, -e1_r, -e2_r, -tV_r, -tAndM_r, -tOrM_r, -tNotM_r, -eAnd_r, -eOr_r, -eNot_r, -eIf_r, -aCons_r, -eN_r, -fCall_r, -eCallK_r, -eM_r, -eSl_r, -oSome_r, -eIsN_r, -eLc_r, -iSeq_r, -iRng_r, r8_law]
  refine w_take H4 (by omega) (by decide) (by decide) fun r2 μ5 hr2 H5 O5 => ?_
  simp -implicitDefEqProofs (disch := first | (with_reducible assumption) | ((with_reducible show List.length _ = _); rfl) | (simp only [allD_cons, allD_nil, Option.map_some, Option.isSome_some]; done) | (simp only [List.length_cons, List.length_nil, List.length_map]; done) | ((with_reducible refine cMod_of ?_); omega) | ((with_reducible refine cDiv_of ?_ ?_) <;> omega) | ((with_reducible refine okR_of ?_ ?_) <;> omega) | omega | (simp only [List.length_take, List.length_drop, List.length_append, List.length_cons, List.length_nil, List.length_map, List.length_range, List.length_replicate]; omega)) [-sSeq_r, -sRet_r, -sDrop_r, -sSet_r, -sIf_r, -sPar_r, -sAsg_r, -sSetIx_r, -sFor_r, -gsCons_r, -gT_r, -e1_r, -e2_r, -tV_r, -tAndM_r, -tOrM_r, -tNotM_r, -eAnd_r, -eOr_r, -eNot_r, -eIf_r, -aCons_r, -eN_r, -fCall_r, -eCallK_r, -eM_r, -eSl_r, -oSome_r, -eIsN_r, -eLc_r, -iSeq_r, -iRng_r, ]
  refine w_pick H5 (by omega) (by decide) (by decide) fun c6 μ6 hc6 H6 O6 => ?_
  simp -implicitDefEqProofs (disch := first | (with_reducible assumption) | ((with_reducible show List.length _ = _); rfl) | (simp only [allD_cons, allD_nil, Option.map_some, Option.isSome_some]; done) | (simp only [List.length_cons, List.length_nil, List.length_map]; done) | ((with_reducible refine cMod_of ?_); omega) | ((with_reducible refine cDiv_of ?_ ?_) <;> omega) | ((with_reducible refine okR_of ?_ ?_) <;> omega) | omega | (simp only [List.length_take, List.length_drop, List.length_append, List.length_cons, List.length_nil, List.length_map, List.length_range, List.length_replicate]; omega)) [-sSeq_r, -sRet_r, -sDrop_r, -sSet_r, -sIf_r, -sPar_r, -sAsg_r, -sSetIx_r, -sFor_r, -gsCons_r, -gT_r, -e1_r, -e2_r, -tV_r, -tAndM_r, -tOrM_r, -tNotM_r, -eAnd_r, -eOr_r, -eNot_r, -eIf_r, -aCons_r, -eN_r, -fCall_r, -eCallK_r, -eM_r, -eSl_r, -oSome_r, -eIsN_r, -eLc_r, -iSeq_r, -iRng_r, r7_law]
  obtain ⟨co, cd, cw⟩ := sx_wt hcols
  have fo : ∀ d ∈ [PyData.tuple [PyData.str (T [119, 104, 111, 108, 101])], PyData.tuple [PyData.str (T [97, 109, 111, 117, 110, 116]), PyData.int (1 + ↑r2)], PyData.tuple [PyData.str (T [100, 97, 121]), c6]], Tp d := by
    intro d hd
    simp only [List.mem_cons, List.not_mem_nil, or_false] at hd hc6
    rcases hd with rfl | rfl | rfl
    · exact ⟨_, rfl, by decide +kernel, by decide +kernel, by decide +kernel⟩
    · have k : r2 = 0 ∨ r2 = 1 ∨ r2 = 2 ∨ r2 = 3 := by omega
      rcases k with rfl | rfl | rfl | rfl <;> exact ⟨_, rfl, by decide +kernel, by decide +kernel, by decide +kernel⟩
    · rcases hc6 with rfl | rfl | rfl <;> exact ⟨_, rfl, by decide +kernel, by decide +kernel, by decide +kernel⟩
  have fl : ∃ fs : List D, [PyData.tuple [PyData.str (T [119, 104, 111, 108, 101])], PyData.tuple [PyData.str (T [97, 109, 111, 117, 110, 116]), PyData.int (1 + ↑r2)], PyData.tuple [PyData.str (T [100, 97, 121]), c6]] = fs ∧ fs.length = 3 := ⟨_, rfl, rfl⟩
  obtain ⟨fs, ef, lf⟩ := fl
  rw [ef] at fo ⊢
  refine w_pickS H6 (by omega) (by decide) (by decide) fun c7 μ7 hc7 H7 O7 => ?_
  simp -implicitDefEqProofs (disch := first | (with_reducible assumption) | ((with_reducible show List.length _ = _); rfl) | (simp only [allD_cons, allD_nil, Option.map_some, Option.isSome_some]; done) | (simp only [List.length_cons, List.length_nil, List.length_map]; done) | ((with_reducible refine cMod_of ?_); omega) | ((with_reducible refine cDiv_of ?_ ?_) <;> omega) | ((with_reducible refine okR_of ?_ ?_) <;> omega) | omega | (simp only [List.length_take, List.length_drop, List.length_append, List.length_cons, List.length_nil, List.length_map, List.length_range, List.length_replicate]; omega)) [-sSeq_r, -sRet_r, -sDrop_r, -sSet_r, -sIf_r, -sPar_r, -sAsg_r, -sSetIx_r, -sFor_r, -gsCons_r, -gT_r, -e1_r, -e2_r, -tV_r, -tAndM_r, -tOrM_r, -tNotM_r, -eAnd_r, -eOr_r, -eNot_r, -eIf_r, -aCons_r, -eN_r, -fCall_r, -eCallK_r, -eM_r, -eSl_r, -oSome_r, -eIsN_r, -eLc_r, -iSeq_r, -iRng_r, ]
  refine w_pickS H7 (by omega) (by decide) (by decide) fun c8 μ8 hc8 H8 O8 => ?_
  simp -implicitDefEqProofs (disch := first | (with_reducible assumption) | ((with_reducible show List.length _ = _); rfl) | (simp only [allD_cons, allD_nil, Option.map_some, Option.isSome_some]; done) | (simp only [List.length_cons, List.length_nil, List.length_map]; done) | ((with_reducible refine cMod_of ?_); omega) | ((with_reducible refine cDiv_of ?_ ?_) <;> omega) | ((with_reducible refine okR_of ?_ ?_) <;> omega) | omega | (simp only [List.length_take, List.length_drop, List.length_append, List.length_cons, List.length_nil, List.length_map, List.length_range, List.length_replicate]; omega)) [-sSeq_r, -sRet_r, -sDrop_r, -sSet_r, -sIf_r, -sPar_r, -sAsg_r, -sSetIx_r, -sFor_r, -gsCons_r, -gT_r, -e1_r, -e2_r, -tV_r, -tAndM_r, -tOrM_r, -tNotM_r, -eAnd_r, -eOr_r, -eNot_r, -eIf_r, -aCons_r, -eN_r, -fCall_r, -eCallK_r, -eM_r, -eSl_r, -oSome_r, -eIsN_r, -eLc_r, -iSeq_r, -iRng_r, dToTup_l (show cols.length ≤ 16000000 by omega)]
  refine Wp_eq (cList_c (by simp)) ?_
  simp -implicitDefEqProofs (disch := first | (with_reducible assumption) | ((with_reducible show List.length _ = _); rfl) | (simp only [allD_cons, allD_nil, Option.map_some, Option.isSome_some]; done) | (simp only [List.length_cons, List.length_nil, List.length_map]; done) | ((with_reducible refine cMod_of ?_); omega) | ((with_reducible refine cDiv_of ?_ ?_) <;> omega) | ((with_reducible refine okR_of ?_ ?_) <;> omega) | omega | (simp only [List.length_take, List.length_drop, List.length_append, List.length_cons, List.length_nil, List.length_map, List.length_range, List.length_replicate]; omega)) [-sSeq_r, -sRet_r, -sDrop_r, -sSet_r, -sIf_r, -sPar_r, -sAsg_r, -sSetIx_r, -sFor_r, -gsCons_r, -gT_r, -e1_r, -e2_r, -tV_r, -tAndM_r, -tOrM_r, -tNotM_r, -eAnd_r, -eOr_r, -eNot_r, -eIf_r, -aCons_r, -eN_r, -fCall_r, -eCallK_r, -eM_r, -eSl_r, -oSome_r, -eIsN_r, -eLc_r, -iSeq_r, -iRng_r, r6_law]
  have hne9 := H8.ne
  have H9 : Bx h _ (μ8 ++ [.lst [.d (.tuple [.str (T [115, 105, 103, 110, 115]), .str (T [c7]), .str (T [c8]), .tuple cols])]]) := H8.app'
  have e9 : (μ8 ++ [Cell.lst [Dv.d (.tuple [.str (T [115, 105, 103, 110, 115]), .str (T [c7]), .str (T [c8]), .tuple cols])]])[μ8.length]? = some (.lst [.d (.tuple [.str (T [115, 105, 103, 110, 115]), .str (T [c7]), .str (T [c8]), .tuple cols])]) := by simp
  generalize μ8 ++ [Cell.lst [Dv.d (.tuple [.str (T [115, 105, 103, 110, 115]), .str (T [c7]), .str (T [c8]), .tuple cols])]] = μ9 at H9 e9 ⊢
  generalize μ8.length = n at e9 hne9 ⊢
  have iL := isLst_c e9
  simp -implicitDefEqProofs (disch := first | (with_reducible assumption) | ((with_reducible show List.length _ = _); rfl) | (simp only [allD_cons, allD_nil, Option.map_some, Option.isSome_some]; done) | (simp only [List.length_cons, List.length_nil, List.length_map]; done) | ((with_reducible refine cMod_of ?_); omega) | ((with_reducible refine cDiv_of ?_ ?_) <;> omega) | ((with_reducible refine okR_of ?_ ?_) <;> omega) | omega | (simp only [List.length_take, List.length_drop, List.length_append, List.length_cons, List.length_nil, List.length_map, List.length_range, List.length_replicate]; omega)) [-sSeq_r, -sRet_r, -sDrop_r, -sSet_r, -sIf_r, -sPar_r, -sAsg_r, -sSetIx_r, -sFor_r, -gsCons_r, -gT_r, -e1_r, -e2_r, -tV_r, -tAndM_r, -tOrM_r, -tNotM_r, -eAnd_r, -eOr_r, -eNot_r, -eIf_r, -aCons_r, -eN_r, -fCall_r, -eCallK_r, -eM_r, -eSl_r, -oSome_r, -eIsN_r, -eLc_r, -iSeq_r, -iRng_r, r6_law]
  refine Wp_lcF (by rw [List.length_map]; omega) ?_
  refine Wp_lcM_y (bs := cols.map .d) (fun i μ' => Bx h (40 + i) μ' ∧ Oth h μ9 μ') (fun y => ∃ d, y = .d d ∧ (d = .int 1 ∨ d = .int 20 ∨ d = .int 7)) (i := 0) ⟨H9.mono (by omega), Oth.refl _ _⟩ (fun j b μ2 hb I => ?_) fun ys μ2 hl hy I => ?_
  · obtain ⟨J, O⟩ := I
    obtain ⟨d, hd, rfl⟩ := mem_map_d hb
    have hj : j < 6 := by
      have := (List.getElem?_eq_some_iff.mp hb).1
      rw [List.length_map] at this
      omega
    simp -implicitDefEqProofs (disch := first | (with_reducible assumption) | ((with_reducible show List.length _ = _); rfl) | (simp only [allD_cons, allD_nil, Option.map_some, Option.isSome_some]; done) | (simp only [List.length_cons, List.length_nil, List.length_map]; done) | ((with_reducible refine cMod_of ?_); omega) | ((with_reducible refine cDiv_of ?_ ?_) <;> omega) | ((with_reducible refine okR_of ?_ ?_) <;> omega) | omega | (simp only [List.length_take, List.length_drop, List.length_append, List.length_cons, List.length_nil, List.length_map, List.length_range, List.length_replicate]; omega)) [-sSeq_r, -sRet_r, -sDrop_r, -sSet_r, -sIf_r, -sPar_r, -sAsg_r, -sSetIx_r, -sFor_r, -gsCons_r, -gT_r, -e1_r, -e2_r, -tV_r, -tAndM_r, -tOrM_r, -tNotM_r, -eAnd_r, -eOr_r, -eNot_r, -eIf_r, -aCons_r, -eN_r, -fCall_r, -eCallK_r, -eM_r, -eSl_r, -oSome_r, -eIsN_r, -eLc_r, -iSeq_r, -iRng_r, c1_law, wipeD]
    refine w_pick J (by omega) (by decide) (by decide) fun c μ3 hc H2 O2 => ?_
    simp -implicitDefEqProofs (disch := first | (with_reducible assumption) | ((with_reducible show List.length _ = _); rfl) | (simp only [allD_cons, allD_nil, Option.map_some, Option.isSome_some]; done) | (simp only [List.length_cons, List.length_nil, List.length_map]; done) | ((with_reducible refine cMod_of ?_); omega) | ((with_reducible refine cDiv_of ?_ ?_) <;> omega) | ((with_reducible refine okR_of ?_ ?_) <;> omega) | omega | (simp only [List.length_take, List.length_drop, List.length_append, List.length_cons, List.length_nil, List.length_map, List.length_range, List.length_replicate]; omega)) [-sSeq_r, -sRet_r, -sDrop_r, -sSet_r, -sIf_r, -sPar_r, -sAsg_r, -sSetIx_r, -sFor_r, -gsCons_r, -gT_r, -e1_r, -e2_r, -tV_r, -tAndM_r, -tOrM_r, -tNotM_r, -eAnd_r, -eOr_r, -eNot_r, -eIf_r, -aCons_r, -eN_r, -fCall_r, -eCallK_r, -eM_r, -eSl_r, -oSome_r, -eIsN_r, -eLc_r, -iSeq_r, -iRng_r, ]
    refine ⟨?_, H2.mono (by omega), O.trans O2⟩
    simpa using hc
  obtain ⟨J, O⟩ := I
  obtain ⟨ps, rfl, hps⟩ := dd_list (R := fun d => d = .int 1 ∨ d = .int 20 ∨ d = .int 7) hy
  rw [List.length_map] at hl J
  have lp : ps.length ≤ 6 := by rw [List.length_map] at hl; omega
  rw [dList_map (by omega)]
  simp -implicitDefEqProofs (disch := first | (with_reducible assumption) | ((with_reducible show List.length _ = _); rfl) | (simp only [allD_cons, allD_nil, Option.map_some, Option.isSome_some]; done) | (simp only [List.length_cons, List.length_nil, List.length_map]; done) | ((with_reducible refine cMod_of ?_); omega) | ((with_reducible refine cDiv_of ?_ ?_) <;> omega) | ((with_reducible refine okR_of ?_ ?_) <;> omega) | omega | (simp only [List.length_take, List.length_drop, List.length_append, List.length_cons, List.length_nil, List.length_map, List.length_range, List.length_replicate]; omega)) [-sSeq_r, -sRet_r, -sDrop_r, -sSet_r, -sIf_r, -sPar_r, -sAsg_r, -sSetIx_r, -sFor_r, -gsCons_r, -gT_r, -e1_r, -e2_r, -tV_r, -tAndM_r, -tOrM_r, -tNotM_r, -eAnd_r, -eOr_r, -eNot_r, -eIf_r, -aCons_r, -eN_r, -fCall_r, -eCallK_r, -eM_r, -eSl_r, -oSome_r, -eIsN_r, -eLc_r, -iSeq_r, -iRng_r, dToTup_l (show ps.length ≤ 16000000 by omega), dToTup_l (show cols.length ≤ 16000000 by omega)]
  have tp1 : Tp (.tuple [.str (T [115, 105, 103, 110, 115]), .str (T [c7]), .str (T [c8]), .tuple cols]) := by
    simp only [List.mem_cons, List.not_mem_nil, or_false] at hc7 hc8
    refine ⟨_, rfl, ?_, ?_, ?_⟩
    · rcases hc7 with rfl | rfl | rfl | rfl <;> rcases hc8 with rfl | rfl <;> (simp only [okDs, okD, co]; decide +kernel)
    · simp only [PyData.depthAll, PyData.depth, cd]; omega
    · simp only [wts, wt]
      have : (T [115, 105, 103, 110, 115]).length = 5 := rfl
      have : (T [c7]).length = 1 := rfl
      have : (T [c8]).length = 1 := rfl
      omega
  have tp2 : Tp (.tuple [.str (T [112, 108, 97, 99, 101, 115]), .tuple ps, .tuple cols]) := by
    have pso : okDs ps = true := okDs_iff.mpr fun d hd => by rcases hps d hd with rfl | rfl | rfl <;> decide +kernel
    have psd : PyData.depthAll ps ≤ 0 := depth_le.mpr fun d hd => by rcases hps d hd with rfl | rfl | rfl <;> decide +kernel
    have psw : ∀ l : List D, (∀ d ∈ l, d = .int 1 ∨ d = .int 20 ∨ d = .int 7) → wts l ≤ 43 * l.length := by
      intro l
      induction l with
      | nil => intro _; simp [wts]
      | cons d l ih =>
        intro hh
        have := ih fun e he => hh e (List.mem_cons_of_mem _ he)
        have w1 : wt d = 41 := by rcases hh d List.mem_cons_self with rfl | rfl | rfl <;> rfl
        rw [wts, List.length_cons]
        omega
    have := psw ps hps
    refine ⟨_, rfl, ?_, ?_, ?_⟩
    · simp only [okDs, okD, co, pso]; decide +kernel
    · simp only [PyData.depthAll, PyData.depth, cd]; omega
    · simp only [wts, wt]
      have : (T [112, 108, 97, 99, 101, 115]).length = 6 := rfl
      omega
  have e10 := (O.2 n hne9).trans e9
  refine Wp_eq (dAppend_c e10 (by simp)) ?_
  have hlt := lt_of_get e10
  have J2 : Bx h _ (μ2.set n (Cell.lst ([Dv.d (.tuple [.str (T [115, 105, 103, 110, 115]), .str (T [c7]), .str (T [c8]), .tuple cols])] ++ [Dv.d (.tuple [.str (T [112, 108, 97, 99, 101, 115]), .tuple ps, .tuple cols])]))) := J.set' hne9
  generalize e11 : μ2.set n (Cell.lst ([Dv.d (.tuple [.str (T [115, 105, 103, 110, 115]), .str (T [c7]), .str (T [c8]), .tuple cols])] ++ [Dv.d (.tuple [.str (T [112, 108, 97, 99, 101, 115]), .tuple ps, .tuple cols])])) = μ10 at J2 ⊢
  have e12 : μ10[n]? = some (Cell.lst ([Dv.d (.tuple [.str (T [115, 105, 103, 110, 115]), .str (T [c7]), .str (T [c8]), .tuple cols])] ++ [Dv.d (.tuple [.str (T [112, 108, 97, 99, 101, 115]), .tuple ps, .tuple cols])])) := by
    rw [← e11, List.getElem?_set_self hlt]
  have iL := isLst_c e12
  simp -implicitDefEqProofs (disch := first | (with_reducible assumption) | ((with_reducible show List.length _ = _); rfl) | (simp only [allD_cons, allD_nil, Option.map_some, Option.isSome_some]; done) | (simp only [List.length_cons, List.length_nil, List.length_map]; done) | ((with_reducible refine cMod_of ?_); omega) | ((with_reducible refine cDiv_of ?_ ?_) <;> omega) | ((with_reducible refine okR_of ?_ ?_) <;> omega) | omega | (simp only [List.length_take, List.length_drop, List.length_append, List.length_cons, List.length_nil, List.length_map, List.length_range, List.length_replicate]; omega)) [-sSeq_r, -sRet_r, -sDrop_r, -sSet_r, -sIf_r, -sPar_r, -sAsg_r, -sSetIx_r, -sFor_r, -gsCons_r, -gT_r, -e1_r, -e2_r, -tV_r, -tAndM_r, -tOrM_r, -tNotM_r, -eAnd_r, -eOr_r, -eNot_r, -eIf_r, -aCons_r, -eN_r, -fCall_r, -eCallK_r, -eM_r, -eSl_r, -oSome_r, -eIsN_r, -eLc_r, -iSeq_r, -iRng_r, r5_law]
  refine w_pickS J2 (by omega) (by decide) (by decide) fun c9 μ11 hc9 H11 O11 => ?_
  simp -implicitDefEqProofs (disch := first | (with_reducible assumption) | ((with_reducible show List.length _ = _); rfl) | (simp only [allD_cons, allD_nil, Option.map_some, Option.isSome_some]; done) | (simp only [List.length_cons, List.length_nil, List.length_map]; done) | ((with_reducible refine cMod_of ?_); omega) | ((with_reducible refine cDiv_of ?_ ?_) <;> omega) | ((with_reducible refine okR_of ?_ ?_) <;> omega) | omega | (simp only [List.length_take, List.length_drop, List.length_append, List.length_cons, List.length_nil, List.length_map, List.length_range, List.length_replicate]; omega)) [-sSeq_r, -sRet_r, -sDrop_r, -sSet_r, -sIf_r, -sPar_r, -sAsg_r, -sSetIx_r, -sFor_r, -gsCons_r, -gT_r, -e1_r, -e2_r, -tV_r, -tAndM_r, -tOrM_r, -tNotM_r, -eAnd_r, -eOr_r, -eNot_r, -eIf_r, -aCons_r, -eN_r, -fCall_r, -eCallK_r, -eM_r, -eSl_r, -oSome_r, -eIsN_r, -eLc_r, -iSeq_r, -iRng_r, dToTup_l (show cols.length ≤ 16000000 by omega)]
  have tp3 : Tp (.tuple [.str (T [110, 97, 109, 101, 100]), .str (T [c9]), .tuple cols]) := by
    simp only [List.mem_cons, List.not_mem_nil, or_false] at hc9
    refine ⟨_, rfl, ?_, ?_, ?_⟩
    · rcases hc9 with rfl | rfl | rfl <;> (simp only [okDs, okD, co]; decide +kernel)
    · simp only [PyData.depthAll, PyData.depth, cd]; omega
    · simp only [wts, wt]
      have : (T [110, 97, 109, 101, 100]).length = 5 := rfl
      have : (T [c9]).length = 1 := rfl
      omega
  have e13 := (O11.2 n hne9).trans e12
  refine Wp_eq (dAppend_c e13 (by simp)) ?_
  have hlt3 := lt_of_get e13
  have e14 := List.getElem?_set_self (a := Cell.lst ([.d (.tuple [.str (T [115, 105, 103, 110, 115]), .str (T [c7]), .str (T [c8]), .tuple cols])] ++ [.d (.tuple [.str (T [112, 108, 97, 99, 101, 115]), .tuple ps, .tuple cols])] ++ [.d (.tuple [.str (T [110, 97, 109, 101, 100]), .str (T [c9]), .tuple cols])])) hlt3
  simp -implicitDefEqProofs (disch := first | (with_reducible assumption) | ((with_reducible show List.length _ = _); rfl) | (simp only [allD_cons, allD_nil, Option.map_some, Option.isSome_some]; done) | (simp only [List.length_cons, List.length_nil, List.length_map]; done) | ((with_reducible refine cMod_of ?_); omega) | ((with_reducible refine cDiv_of ?_ ?_) <;> omega) | ((with_reducible refine okR_of ?_ ?_) <;> omega) | omega | (simp only [List.length_take, List.length_drop, List.length_append, List.length_cons, List.length_nil, List.length_map, List.length_range, List.length_replicate]; omega)) [-sSeq_r, -sRet_r, -sDrop_r, -sSet_r, -sIf_r, -sPar_r, -sAsg_r, -sSetIx_r, -sFor_r, -gsCons_r, -gT_r, -e1_r, -e2_r, -tV_r, -tAndM_r, -tOrM_r, -tNotM_r, -eAnd_r, -eOr_r, -eNot_r, -eIf_r, -aCons_r, -eN_r, -fCall_r, -eCallK_r, -eM_r, -eSl_r, -oSome_r, -eIsN_r, -eLc_r, -iSeq_r, -iRng_r, ]
  refine w_rest (ss := [.tuple [.str (T [115, 105, 103, 110, 115]), .str (T [c7]), .str (T [c8]), .tuple cols], .tuple [.str (T [112, 108, 97, 99, 101, 115]), .tuple ps, .tuple cols], .tuple [.str (T [110, 97, 109, 101, 100]), .str (T [c9]), .tuple cols]]) (H11.set' hne9) (by omega) hne9 e14 lf rfl fo ?_ ?_
  · intro d hd
    simp only [List.mem_cons, List.not_mem_nil, or_false] at hd
    rcases hd with rfl | rfl | rfl
    · exact tp1
    · exact tp2
    · exact tp3
  · intro a6 a7 a8 a9 μ'
    exact fin _ _ _ _ _ _ _ _ _
theorem law_right : ∀ ns : List Int, ns.length ≤ 63 → (∀ i ∈ ns, Builtin.Int.intBits i ≤ 1048576) → ∃ μ', F_law [.d (.list (ns.map PyData.int))] [] = .ok (.d (.bool true)) μ' := by
  intro ns hn hi
  have w : Wp (F_law [.d (.list (ns.map PyData.int))] []) fun b _ => b = .d (.bool true) := by
    unfold F_law B_law
    apply Wp_run
    obtain ⟨k, ek, hk⟩ : ∃ k : Nat, (if 1 < (if (ns.length : Int) < 4 then (ns.length : Int) else 4) then (if (ns.length : Int) < 4 then (ns.length : Int) else 4) else 1).toNat = k ∧ k ≤ 5 := ⟨_, rfl, by split <;> split <;> omega⟩
    simp -implicitDefEqProofs (disch := first | (with_reducible assumption) | ((with_reducible show List.length _ = _); rfl) | (simp only [allD_cons, allD_nil, Option.map_some, Option.isSome_some]; done) | (simp only [List.length_cons, List.length_nil, List.length_map]; done) | ((with_reducible refine cMod_of ?_); omega) | ((with_reducible refine cDiv_of ?_ ?_) <;> omega) | ((with_reducible refine okR_of ?_ ?_) <;> omega) | omega | (simp only [List.length_take, List.length_drop, List.length_append, List.length_cons, List.length_nil, List.length_map, List.length_range, List.length_replicate]; omega)) [-sSeq_r, -sRet_r, -sDrop_r, -sSet_r, -sIf_r, -sPar_r, -sAsg_r, -sSetIx_r, -sFor_r, -gsCons_r, -gT_r, -e1_r, -e2_r, -tV_r, -tAndM_r, -tOrM_r, -tNotM_r, -eAnd_r, -eOr_r, -eNot_r, -eIf_r, -aCons_r, -eN_r, -fCall_r, -eCallK_r, -eM_r, -eSl_r, -oSome_r, -eIsN_r, -eLc_r, -iSeq_r, -iRng_r, ]
    rw [ek]
    refine Wp_forL (fun i ρ μ' => ∃ a1 a2 a3 a4 a5 a6 a7 a8 a9, ρ = [some (.d (.list (ns.map PyData.int))), a1, a2, a3, a4, a5, a6, a7, a8, a9]) (i := 0) ⟨_, _, _, _, _, _, _, _, _, rfl⟩ (fun j b ρ μ' hb I => ?_) fun ρ' μ' I => ?_
    · obtain ⟨a1, a2, a3, a4, a5, a6, a7, a8, a9, rfl⟩ := I
      obtain ⟨i, hi2, rfl⟩ := mem_rng hb
      simp -implicitDefEqProofs (disch := first | (with_reducible assumption) | ((with_reducible show List.length _ = _); rfl) | (simp only [allD_cons, allD_nil, Option.map_some, Option.isSome_some]; done) | (simp only [List.length_cons, List.length_nil, List.length_map]; done) | ((with_reducible refine cMod_of ?_); omega) | ((with_reducible refine cDiv_of ?_ ?_) <;> omega) | ((with_reducible refine okR_of ?_ ?_) <;> omega) | omega | (simp only [List.length_take, List.length_drop, List.length_append, List.length_cons, List.length_nil, List.length_map, List.length_range, List.length_replicate]; omega)) [-sSeq_r, -sRet_r, -sDrop_r, -sSet_r, -sIf_r, -sPar_r, -sAsg_r, -sSetIx_r, -sFor_r, -gsCons_r, -gT_r, -e1_r, -e2_r, -tV_r, -tAndM_r, -tOrM_r, -tNotM_r, -eAnd_r, -eOr_r, -eNot_r, -eIf_r, -aCons_r, -eN_r, -fCall_r, -eCallK_r, -eM_r, -eSl_r, -oSome_r, -eIsN_r, -eLc_r, -iSeq_r, -iRng_r, ]
      exact w_hand2 hn hi (by omega) fun b2 b3 b4 b5 b6 b7 b8 b9 μ2 => ⟨_, _, _, _, _, _, _, _, _, rfl⟩
    · obtain ⟨a1, a2, a3, a4, a5, a6, a7, a8, a9, rfl⟩ := I
      simp -implicitDefEqProofs (disch := first | (with_reducible assumption) | ((with_reducible show List.length _ = _); rfl) | (simp only [allD_cons, allD_nil, Option.map_some, Option.isSome_some]; done) | (simp only [List.length_cons, List.length_nil, List.length_map]; done) | ((with_reducible refine cMod_of ?_); omega) | ((with_reducible refine cDiv_of ?_ ?_) <;> omega) | ((with_reducible refine okR_of ?_ ?_) <;> omega) | omega | (simp only [List.length_take, List.length_drop, List.length_append, List.length_cons, List.length_nil, List.length_map, List.length_range, List.length_replicate]; omega)) [-sSeq_r, -sRet_r, -sDrop_r, -sSet_r, -sIf_r, -sPar_r, -sAsg_r, -sSetIx_r, -sFor_r, -gsCons_r, -gT_r, -e1_r, -e2_r, -tV_r, -tAndM_r, -tOrM_r, -tNotM_r, -eAnd_r, -eOr_r, -eNot_r, -eIf_r, -aCons_r, -eN_r, -fCall_r, -eCallK_r, -eM_r, -eSl_r, -oSome_r, -eIsN_r, -eLc_r, -iSeq_r, -iRng_r, r11_law]
  obtain ⟨b, μ', e, rfl⟩ := Wp_of w
  exact ⟨μ', e⟩
end LW

namespace LW
open PySem PySem.Spec PyProof.Rows L2 DL
/-! ### 4. What the top has written, the head -/
theorem all_mk {l : PySem.W.OpenLaw} {w : World} {K : PySem.W.Frag} {h : Heap} {mg : Str → Option Value} {fa : Addr} (X : K.In h) (G : h.Ns mainGlobals mg) (hfa : mg "law" = some (.ref fa))
    {f_l_hand : Addr} {oc_l_hand kV_l_hand dc_l_hand pm_l_hand cd_l_hand ct_l_hand : Value} {od_l_hand an_l_hand : Option Addr} {sl_l_hand : Array (Option Value)}
    {f_l_take : Addr} {oc_l_take kV_l_take dc_l_take pm_l_take cd_l_take ct_l_take : Value} {od_l_take an_l_take : Option Addr} {sl_l_take : Array (Option Value)}
    {f_l_pick : Addr} {oc_l_pick kV_l_pick dc_l_pick pm_l_pick cd_l_pick ct_l_pick : Value} {od_l_pick an_l_pick : Option Addr} {sl_l_pick : Array (Option Value)}
    {f_rank : Addr} {oc_rank kV_rank dc_rank pm_rank cd_rank ct_rank : Value} {od_rank an_rank : Option Addr} {sl_rank : Array (Option Value)}
    {f_l_ranks_right : Addr} {oc_l_ranks_right kV_l_ranks_right dc_l_ranks_right pm_l_ranks_right cd_l_ranks_right ct_l_ranks_right : Value} {od_l_ranks_right an_l_ranks_right : Option Addr} {sl_l_ranks_right : Array (Option Value)}
    {f_l_words : Addr} {oc_l_words kV_l_words dc_l_words pm_l_words cd_l_words ct_l_words : Value} {od_l_words an_l_words : Option Addr} {sl_l_words : Array (Option Value)}
    {f_l_odd_one : Addr} {oc_l_odd_one kV_l_odd_one dc_l_odd_one pm_l_odd_one cd_l_odd_one ct_l_odd_one : Value} {od_l_odd_one an_l_odd_one : Option Addr} {sl_l_odd_one : Array (Option Value)}
    {f_is_whole : Addr} {oc_is_whole kV_is_whole dc_is_whole pm_is_whole cd_is_whole ct_is_whole : Value} {od_is_whole an_is_whole : Option Addr} {sl_is_whole : Array (Option Value)}
    {f_is_worth : Addr} {oc_is_worth kV_is_worth dc_is_worth pm_is_worth cd_is_worth ct_is_worth : Value} {od_is_worth an_is_worth : Option Addr} {sl_is_worth : Array (Option Value)}
    {f_is_form : Addr} {oc_is_form kV_is_form dc_is_form pm_is_form cd_is_form ct_is_form : Value} {od_is_form an_is_form : Option Addr} {sl_is_form : Array (Option Value)}
    {f_is_name : Addr} {oc_is_name kV_is_name dc_is_name pm_is_name cd_is_name ct_is_name : Value} {od_is_name an_is_name : Option Addr} {sl_is_name : Array (Option Value)}
    {f_are_names : Addr} {oc_are_names kV_are_names dc_are_names pm_are_names cd_are_names ct_are_names : Value} {od_are_names an_are_names : Option Addr} {sl_are_names : Array (Option Value)}
    {f_are_widths : Addr} {oc_are_widths kV_are_widths dc_are_widths pm_are_widths cd_are_widths ct_are_widths : Value} {od_are_widths an_are_widths : Option Addr} {sl_are_widths : Array (Option Value)}
    {f_is_shape : Addr} {oc_is_shape kV_is_shape dc_is_shape pm_is_shape cd_is_shape ct_is_shape : Value} {od_is_shape an_is_shape : Option Addr} {sl_is_shape : Array (Option Value)}
    {f_l_is_worth : Addr} {oc_l_is_worth kV_l_is_worth dc_l_is_worth pm_l_is_worth cd_l_is_worth ct_l_is_worth : Value} {od_l_is_worth an_l_is_worth : Option Addr} {sl_l_is_worth : Array (Option Value)}
    {f_l_is_form : Addr} {oc_l_is_form kV_l_is_form dc_l_is_form pm_l_is_form cd_l_is_form ct_l_is_form : Value} {od_l_is_form an_l_is_form : Option Addr} {sl_l_is_form : Array (Option Value)}
    {f_l_is_word : Addr} {oc_l_is_word kV_l_is_word dc_l_is_word pm_l_is_word cd_l_is_word ct_l_is_word : Value} {od_l_is_word an_l_is_word : Option Addr} {sl_l_is_word : Array (Option Value)}
    {f_l_are_cols : Addr} {oc_l_are_cols kV_l_are_cols dc_l_are_cols pm_l_are_cols cd_l_are_cols ct_l_are_cols : Value} {od_l_are_cols an_l_are_cols : Option Addr} {sl_l_are_cols : Array (Option Value)}
    {f_l_is_shape : Addr} {oc_l_is_shape kV_l_is_shape dc_l_is_shape pm_l_is_shape cd_l_is_shape ct_l_is_shape : Value} {od_l_is_shape an_l_is_shape : Option Addr} {sl_l_is_shape : Array (Option Value)}
    {f_l_told_right : Addr} {oc_l_told_right kV_l_told_right dc_l_told_right pm_l_told_right cd_l_told_right ct_l_told_right : Value} {od_l_told_right an_l_told_right : Option Addr} {sl_l_told_right : Array (Option Value)}
    {f_l_bent : Addr} {oc_l_bent kV_l_bent dc_l_bent pm_l_bent cd_l_bent ct_l_bent : Value} {od_l_bent an_l_bent : Option Addr} {sl_l_bent : Array (Option Value)}
    {f_law : Addr} {oc_law kV_law dc_law pm_law cd_law ct_law : Value} {od_law an_law : Option Addr} {sl_law : Array (Option Value)}
    {tk_LETTERS : Tok}
    {tk_MOST_COLUMNS : Tok}
    {tk_MOST_LETTERS : Tok}
    {tk_MOST_PLACES : Tok}
    {tk_MOST_WIDTH : Tok}
    {ac_NAMED_SIGNS : Addr} {its_NAMED_SIGNS : Array Value} {nn_NAMED_SIGNS : Nat} {sl_NAMED_SIGNS : Array (Option Value)}
    {ac_ORDERS : Addr} {its_ORDERS : Array Value} {nn_ORDERS : Nat} {sl_ORDERS : Array (Option Value)}
    {ac_QUOTES : Addr} {its_QUOTES : Array Value} {nn_QUOTES : Nat} {sl_QUOTES : Array (Option Value)}
    {ac_SIGNS : Addr} {its_SIGNS : Array Value} {nn_SIGNS : Nat} {sl_SIGNS : Array (Option Value)}
    {ad_LONG : Addr} {es_LONG : Array DictEntry} {nd_LONG : Nat}
    (a_l_hand : PySem.W.nsIn K mainGlobals "_law_hand" = some (some (.ref f_l_hand)))
    (l_l_hand : K.lookup f_l_hand = some ⟨oc_l_hand, od_l_hand, .func (PySem.W.fnOf "_law_hand" "_law_hand" (defArgs s_l_hand) (defBody s_l_hand) (defScope s_l_hand) .none kV_l_hand dc_l_hand pm_l_hand an_l_hand cd_l_hand ct_l_hand), sl_l_hand⟩)
    (c_l_hand : PySem.W.codeIn K cd_l_hand "_law_hand" = true)
    (k_l_hand : PySem.W.keepIn K (.ref f_l_hand) = true)
    (a_l_take : PySem.W.nsIn K mainGlobals "_law_take" = some (some (.ref f_l_take)))
    (l_l_take : K.lookup f_l_take = some ⟨oc_l_take, od_l_take, .func (PySem.W.fnOf "_law_take" "_law_take" (defArgs s_l_take) (defBody s_l_take) (defScope s_l_take) .none kV_l_take dc_l_take pm_l_take an_l_take cd_l_take ct_l_take), sl_l_take⟩)
    (c_l_take : PySem.W.codeIn K cd_l_take "_law_take" = true)
    (k_l_take : PySem.W.keepIn K (.ref f_l_take) = true)
    (a_l_pick : PySem.W.nsIn K mainGlobals "_law_pick" = some (some (.ref f_l_pick)))
    (l_l_pick : K.lookup f_l_pick = some ⟨oc_l_pick, od_l_pick, .func (PySem.W.fnOf "_law_pick" "_law_pick" (defArgs s_l_pick) (defBody s_l_pick) (defScope s_l_pick) .none kV_l_pick dc_l_pick pm_l_pick an_l_pick cd_l_pick ct_l_pick), sl_l_pick⟩)
    (c_l_pick : PySem.W.codeIn K cd_l_pick "_law_pick" = true)
    (k_l_pick : PySem.W.keepIn K (.ref f_l_pick) = true)
    (a_rank : PySem.W.nsIn K mainGlobals "rank" = some (some (.ref f_rank)))
    (l_rank : K.lookup f_rank = some ⟨oc_rank, od_rank, .func (PySem.W.fnOf "rank" "rank" (defArgs s_rank) (defBody s_rank) (defScope s_rank) .none kV_rank dc_rank pm_rank an_rank cd_rank ct_rank), sl_rank⟩)
    (c_rank : PySem.W.codeIn K cd_rank "rank" = true)
    (k_rank : PySem.W.keepIn K (.ref f_rank) = true)
    (a_l_ranks_right : PySem.W.nsIn K mainGlobals "_law_ranks_right" = some (some (.ref f_l_ranks_right)))
    (l_l_ranks_right : K.lookup f_l_ranks_right = some ⟨oc_l_ranks_right, od_l_ranks_right, .func (PySem.W.fnOf "_law_ranks_right" "_law_ranks_right" (defArgs s_l_ranks_right) (defBody s_l_ranks_right) (defScope s_l_ranks_right) .none kV_l_ranks_right dc_l_ranks_right pm_l_ranks_right an_l_ranks_right cd_l_ranks_right ct_l_ranks_right), sl_l_ranks_right⟩)
    (c_l_ranks_right : PySem.W.codeIn K cd_l_ranks_right "_law_ranks_right" = true)
    (k_l_ranks_right : PySem.W.keepIn K (.ref f_l_ranks_right) = true)
    (a_l_words : PySem.W.nsIn K mainGlobals "_law_words" = some (some (.ref f_l_words)))
    (l_l_words : K.lookup f_l_words = some ⟨oc_l_words, od_l_words, .func (PySem.W.fnOf "_law_words" "_law_words" (defArgs s_l_words) (defBody s_l_words) (defScope s_l_words) .none kV_l_words dc_l_words pm_l_words an_l_words cd_l_words ct_l_words), sl_l_words⟩)
    (c_l_words : PySem.W.codeIn K cd_l_words "_law_words" = true)
    (k_l_words : PySem.W.keepIn K (.ref f_l_words) = true)
    (a_l_odd_one : PySem.W.nsIn K mainGlobals "_law_odd_one" = some (some (.ref f_l_odd_one)))
    (l_l_odd_one : K.lookup f_l_odd_one = some ⟨oc_l_odd_one, od_l_odd_one, .func (PySem.W.fnOf "_law_odd_one" "_law_odd_one" (defArgs s_l_odd_one) (defBody s_l_odd_one) (defScope s_l_odd_one) .none kV_l_odd_one dc_l_odd_one pm_l_odd_one an_l_odd_one cd_l_odd_one ct_l_odd_one), sl_l_odd_one⟩)
    (c_l_odd_one : PySem.W.codeIn K cd_l_odd_one "_law_odd_one" = true)
    (k_l_odd_one : PySem.W.keepIn K (.ref f_l_odd_one) = true)
    (a_is_whole : PySem.W.nsIn K mainGlobals "is_whole" = some (some (.ref f_is_whole)))
    (l_is_whole : K.lookup f_is_whole = some ⟨oc_is_whole, od_is_whole, .func (PySem.W.fnOf "is_whole" "is_whole" (defArgs s_is_whole) (defBody s_is_whole) (defScope s_is_whole) .none kV_is_whole dc_is_whole pm_is_whole an_is_whole cd_is_whole ct_is_whole), sl_is_whole⟩)
    (c_is_whole : PySem.W.codeIn K cd_is_whole "is_whole" = true)
    (k_is_whole : PySem.W.keepIn K (.ref f_is_whole) = true)
    (a_is_worth : PySem.W.nsIn K mainGlobals "is_worth" = some (some (.ref f_is_worth)))
    (l_is_worth : K.lookup f_is_worth = some ⟨oc_is_worth, od_is_worth, .func (PySem.W.fnOf "is_worth" "is_worth" (defArgs s_is_worth) (defBody s_is_worth) (defScope s_is_worth) .none kV_is_worth dc_is_worth pm_is_worth an_is_worth cd_is_worth ct_is_worth), sl_is_worth⟩)
    (c_is_worth : PySem.W.codeIn K cd_is_worth "is_worth" = true)
    (k_is_worth : PySem.W.keepIn K (.ref f_is_worth) = true)
    (a_is_form : PySem.W.nsIn K mainGlobals "is_form" = some (some (.ref f_is_form)))
    (l_is_form : K.lookup f_is_form = some ⟨oc_is_form, od_is_form, .func (PySem.W.fnOf "is_form" "is_form" (defArgs s_is_form) (defBody s_is_form) (defScope s_is_form) .none kV_is_form dc_is_form pm_is_form an_is_form cd_is_form ct_is_form), sl_is_form⟩)
    (c_is_form : PySem.W.codeIn K cd_is_form "is_form" = true)
    (k_is_form : PySem.W.keepIn K (.ref f_is_form) = true)
    (a_is_name : PySem.W.nsIn K mainGlobals "is_name" = some (some (.ref f_is_name)))
    (l_is_name : K.lookup f_is_name = some ⟨oc_is_name, od_is_name, .func (PySem.W.fnOf "is_name" "is_name" (defArgs s_is_name) (defBody s_is_name) (defScope s_is_name) .none kV_is_name dc_is_name pm_is_name an_is_name cd_is_name ct_is_name), sl_is_name⟩)
    (c_is_name : PySem.W.codeIn K cd_is_name "is_name" = true)
    (k_is_name : PySem.W.keepIn K (.ref f_is_name) = true)
    (a_are_names : PySem.W.nsIn K mainGlobals "are_names" = some (some (.ref f_are_names)))
    (l_are_names : K.lookup f_are_names = some ⟨oc_are_names, od_are_names, .func (PySem.W.fnOf "are_names" "are_names" (defArgs s_are_names) (defBody s_are_names) (defScope s_are_names) .none kV_are_names dc_are_names pm_are_names an_are_names cd_are_names ct_are_names), sl_are_names⟩)
    (c_are_names : PySem.W.codeIn K cd_are_names "are_names" = true)
    (k_are_names : PySem.W.keepIn K (.ref f_are_names) = true)
    (a_are_widths : PySem.W.nsIn K mainGlobals "are_widths" = some (some (.ref f_are_widths)))
    (l_are_widths : K.lookup f_are_widths = some ⟨oc_are_widths, od_are_widths, .func (PySem.W.fnOf "are_widths" "are_widths" (defArgs s_are_widths) (defBody s_are_widths) (defScope s_are_widths) .none kV_are_widths dc_are_widths pm_are_widths an_are_widths cd_are_widths ct_are_widths), sl_are_widths⟩)
    (c_are_widths : PySem.W.codeIn K cd_are_widths "are_widths" = true)
    (k_are_widths : PySem.W.keepIn K (.ref f_are_widths) = true)
    (a_is_shape : PySem.W.nsIn K mainGlobals "is_shape" = some (some (.ref f_is_shape)))
    (l_is_shape : K.lookup f_is_shape = some ⟨oc_is_shape, od_is_shape, .func (PySem.W.fnOf "is_shape" "is_shape" (defArgs s_is_shape) (defBody s_is_shape) (defScope s_is_shape) .none kV_is_shape dc_is_shape pm_is_shape an_is_shape cd_is_shape ct_is_shape), sl_is_shape⟩)
    (c_is_shape : PySem.W.codeIn K cd_is_shape "is_shape" = true)
    (k_is_shape : PySem.W.keepIn K (.ref f_is_shape) = true)
    (a_l_is_worth : PySem.W.nsIn K mainGlobals "_law_is_worth" = some (some (.ref f_l_is_worth)))
    (l_l_is_worth : K.lookup f_l_is_worth = some ⟨oc_l_is_worth, od_l_is_worth, .func (PySem.W.fnOf "_law_is_worth" "_law_is_worth" (defArgs s_l_is_worth) (defBody s_l_is_worth) (defScope s_l_is_worth) .none kV_l_is_worth dc_l_is_worth pm_l_is_worth an_l_is_worth cd_l_is_worth ct_l_is_worth), sl_l_is_worth⟩)
    (c_l_is_worth : PySem.W.codeIn K cd_l_is_worth "_law_is_worth" = true)
    (k_l_is_worth : PySem.W.keepIn K (.ref f_l_is_worth) = true)
    (a_l_is_form : PySem.W.nsIn K mainGlobals "_law_is_form" = some (some (.ref f_l_is_form)))
    (l_l_is_form : K.lookup f_l_is_form = some ⟨oc_l_is_form, od_l_is_form, .func (PySem.W.fnOf "_law_is_form" "_law_is_form" (defArgs s_l_is_form) (defBody s_l_is_form) (defScope s_l_is_form) .none kV_l_is_form dc_l_is_form pm_l_is_form an_l_is_form cd_l_is_form ct_l_is_form), sl_l_is_form⟩)
    (c_l_is_form : PySem.W.codeIn K cd_l_is_form "_law_is_form" = true)
    (k_l_is_form : PySem.W.keepIn K (.ref f_l_is_form) = true)
    (a_l_is_word : PySem.W.nsIn K mainGlobals "_law_is_word" = some (some (.ref f_l_is_word)))
    (l_l_is_word : K.lookup f_l_is_word = some ⟨oc_l_is_word, od_l_is_word, .func (PySem.W.fnOf "_law_is_word" "_law_is_word" (defArgs s_l_is_word) (defBody s_l_is_word) (defScope s_l_is_word) .none kV_l_is_word dc_l_is_word pm_l_is_word an_l_is_word cd_l_is_word ct_l_is_word), sl_l_is_word⟩)
    (c_l_is_word : PySem.W.codeIn K cd_l_is_word "_law_is_word" = true)
    (k_l_is_word : PySem.W.keepIn K (.ref f_l_is_word) = true)
    (a_l_are_cols : PySem.W.nsIn K mainGlobals "_law_are_cols" = some (some (.ref f_l_are_cols)))
    (l_l_are_cols : K.lookup f_l_are_cols = some ⟨oc_l_are_cols, od_l_are_cols, .func (PySem.W.fnOf "_law_are_cols" "_law_are_cols" (defArgs s_l_are_cols) (defBody s_l_are_cols) (defScope s_l_are_cols) .none kV_l_are_cols dc_l_are_cols pm_l_are_cols an_l_are_cols cd_l_are_cols ct_l_are_cols), sl_l_are_cols⟩)
    (c_l_are_cols : PySem.W.codeIn K cd_l_are_cols "_law_are_cols" = true)
    (k_l_are_cols : PySem.W.keepIn K (.ref f_l_are_cols) = true)
    (a_l_is_shape : PySem.W.nsIn K mainGlobals "_law_is_shape" = some (some (.ref f_l_is_shape)))
    (l_l_is_shape : K.lookup f_l_is_shape = some ⟨oc_l_is_shape, od_l_is_shape, .func (PySem.W.fnOf "_law_is_shape" "_law_is_shape" (defArgs s_l_is_shape) (defBody s_l_is_shape) (defScope s_l_is_shape) .none kV_l_is_shape dc_l_is_shape pm_l_is_shape an_l_is_shape cd_l_is_shape ct_l_is_shape), sl_l_is_shape⟩)
    (c_l_is_shape : PySem.W.codeIn K cd_l_is_shape "_law_is_shape" = true)
    (k_l_is_shape : PySem.W.keepIn K (.ref f_l_is_shape) = true)
    (a_l_told_right : PySem.W.nsIn K mainGlobals "_law_told_right" = some (some (.ref f_l_told_right)))
    (l_l_told_right : K.lookup f_l_told_right = some ⟨oc_l_told_right, od_l_told_right, .func (PySem.W.fnOf "_law_told_right" "_law_told_right" (defArgs s_l_told_right) (defBody s_l_told_right) (defScope s_l_told_right) .none kV_l_told_right dc_l_told_right pm_l_told_right an_l_told_right cd_l_told_right ct_l_told_right), sl_l_told_right⟩)
    (c_l_told_right : PySem.W.codeIn K cd_l_told_right "_law_told_right" = true)
    (k_l_told_right : PySem.W.keepIn K (.ref f_l_told_right) = true)
    (a_l_bent : PySem.W.nsIn K mainGlobals "_law_bent" = some (some (.ref f_l_bent)))
    (l_l_bent : K.lookup f_l_bent = some ⟨oc_l_bent, od_l_bent, .func (PySem.W.fnOf "_law_bent" "_law_bent" (defArgs s_l_bent) (defBody s_l_bent) (defScope s_l_bent) .none kV_l_bent dc_l_bent pm_l_bent an_l_bent cd_l_bent ct_l_bent), sl_l_bent⟩)
    (c_l_bent : PySem.W.codeIn K cd_l_bent "_law_bent" = true)
    (k_l_bent : PySem.W.keepIn K (.ref f_l_bent) = true)
    (a_law : PySem.W.nsIn K mainGlobals "law" = some (some (.ref f_law)))
    (l_law : K.lookup f_law = some ⟨oc_law, od_law, .func (PySem.W.fnOf "law" "law" (defArgs s_law) (defBody s_law) (defScope s_law) .none kV_law dc_law pm_law an_law cd_law ct_law), sl_law⟩)
    (c_law : PySem.W.codeIn K cd_law "law" = true)
    (k_law : PySem.W.keepIn K (.ref f_law) = true)
    (zb_abs : PySem.W.nsIn K mainGlobals "abs" = some none)
    (zb_all : PySem.W.nsIn K mainGlobals "all" = some none)
    (zb_bool : PySem.W.nsIn K mainGlobals "bool" = some none)
    (zb_int : PySem.W.nsIn K mainGlobals "int" = some none)
    (zb_isinstance : PySem.W.nsIn K mainGlobals "isinstance" = some none)
    (zb_len : PySem.W.nsIn K mainGlobals "len" = some none)
    (zb_list : PySem.W.nsIn K mainGlobals "list" = some none)
    (zb_max : PySem.W.nsIn K mainGlobals "max" = some none)
    (zb_min : PySem.W.nsIn K mainGlobals "min" = some none)
    (zb_range : PySem.W.nsIn K mainGlobals "range" = some none)
    (zb_repr : PySem.W.nsIn K mainGlobals "repr" = some none)
    (zb_set : PySem.W.nsIn K mainGlobals "set" = some none)
    (zb_sorted : PySem.W.nsIn K mainGlobals "sorted" = some none)
    (zb_str : PySem.W.nsIn K mainGlobals "str" = some none)
    (zb_tuple : PySem.W.nsIn K mainGlobals "tuple" = some none)
    (zc_LETTERS : PySem.W.nsIn K mainGlobals "LETTERS" = some (some (.str "abcdefghijklmnopqrstuvwxyz" tk_LETTERS)))
    (zc_MOST_COLUMNS : PySem.W.nsIn K mainGlobals "MOST_COLUMNS" = some (some (.int 6 tk_MOST_COLUMNS)))
    (zc_MOST_LETTERS : PySem.W.nsIn K mainGlobals "MOST_LETTERS" = some (some (.int 8 tk_MOST_LETTERS)))
    (zc_MOST_PLACES : PySem.W.nsIn K mainGlobals "MOST_PLACES" = some (some (.int 4 tk_MOST_PLACES)))
    (zc_MOST_WIDTH : PySem.W.nsIn K mainGlobals "MOST_WIDTH" = some (some (.int 20 tk_MOST_WIDTH)))
    (zc_NAMED_SIGNS : PySem.W.nsIn K mainGlobals "NAMED_SIGNS" = some (some (.ref ac_NAMED_SIGNS)))
    (lc_NAMED_SIGNS : K.lookup ac_NAMED_SIGNS = some ⟨.type "tuple", none, .seq its_NAMED_SIGNS nn_NAMED_SIGNS, sl_NAMED_SIGNS⟩)
    (vc_NAMED_SIGNS : its_NAMED_SIGNS.size ≤ sizeLine ∧ Vals [.str ",", .str ";", .str "|"] its_NAMED_SIGNS.toList)
    (zc_ORDERS : PySem.W.nsIn K mainGlobals "ORDERS" = some (some (.ref ac_ORDERS)))
    (lc_ORDERS : K.lookup ac_ORDERS = some ⟨.type "tuple", none, .seq its_ORDERS nn_ORDERS, sl_ORDERS⟩)
    (vc_ORDERS : its_ORDERS.size ≤ sizeLine ∧ Vals [.str "ymd", .str "dmy", .str "mdy"] its_ORDERS.toList)
    (zc_QUOTES : PySem.W.nsIn K mainGlobals "QUOTES" = some (some (.ref ac_QUOTES)))
    (lc_QUOTES : K.lookup ac_QUOTES = some ⟨.type "tuple", none, .seq its_QUOTES nn_QUOTES, sl_QUOTES⟩)
    (vc_QUOTES : its_QUOTES.size ≤ sizeLine ∧ Vals [.str "\"", .str "'"] its_QUOTES.toList)
    (zc_SIGNS : PySem.W.nsIn K mainGlobals "SIGNS" = some (some (.ref ac_SIGNS)))
    (lc_SIGNS : K.lookup ac_SIGNS = some ⟨.type "tuple", none, .seq its_SIGNS nn_SIGNS, sl_SIGNS⟩)
    (vc_SIGNS : its_SIGNS.size ≤ sizeLine ∧ Vals [.str ",", .str ";", .str "|", .str ":"] its_SIGNS.toList)
    (zd_LONG : PySem.W.nsIn K mainGlobals "LONG" = some (some (.ref ad_LONG)))
    (ld_LONG : K.lookup ad_LONG = some ⟨.type "dict", none, .dict es_LONG nd_LONG, #[]⟩)
    (kd_LONG : PySem.W.KeysLit w.params es_LONG.toList)
    (sd_LONG : (ad_LONG == sysModules) = false)
    (td_LONG : TabE es_LONG.toList [("signs", 4), ("places", 3), ("named", 3)])
    (law_right : ∀ ns : List Int, ns.length ≤ 63 → (∀ i ∈ ns, Builtin.Int.intBits i ≤ 1048576) → ∃ μ', F_law [.d (.list (ns.map PyData.int))] [] = .ok (.d (.bool true)) μ') :
    ∃ (fd : FuncData) (G : GT) (F : OpN), G.K = K ∧ (∀ (s : Shared) (u : Value), BindsTo s fd ⟨[u], []⟩ [("_law_script", u)]) ∧ (∀ base : Heap, K.In base → base.Ns mainGlobals mg → FnG l.prog w K mg base 8 fa fd ["_law_script"] (spD G 1 F)) ∧
      ∀ ns : List Int, ns.length ≤ 63 → (∀ i ∈ ns, Builtin.Int.intBits i ≤ 1048576) → ∃ μ', F [.d (.list (ns.map PyData.int))] [] = .ok (.d (.bool true)) μ' := by
  have e := hfa.symm.trans (PySem.W.mg_of X G a_law)
  cases e
  have T : Tx K mg := ⟨PySem.W.mg_none_of X G zb_abs, PySem.W.mg_none_of X G zb_all, PySem.W.mg_none_of X G zb_bool, PySem.W.mg_none_of X G zb_int, PySem.W.mg_none_of X G zb_isinstance, PySem.W.mg_none_of X G zb_len, PySem.W.mg_none_of X G zb_list, PySem.W.mg_none_of X G zb_max, PySem.W.mg_none_of X G zb_min, PySem.W.mg_none_of X G zb_range, PySem.W.mg_none_of X G zb_repr, PySem.W.mg_none_of X G zb_set, PySem.W.mg_none_of X G zb_sorted, PySem.W.mg_none_of X G zb_str, PySem.W.mg_none_of X G zb_tuple, ⟨_, PySem.W.mg_of X G zc_LETTERS⟩, ⟨_, PySem.W.mg_of X G zc_MOST_COLUMNS⟩, ⟨_, PySem.W.mg_of X G zc_MOST_LETTERS⟩, ⟨_, PySem.W.mg_of X G zc_MOST_PLACES⟩, ⟨_, PySem.W.mg_of X G zc_MOST_WIDTH⟩, ⟨_, PySem.W.mg_of X G zc_NAMED_SIGNS, fun I => .tup (.inr ⟨_, _, _, lc_NAMED_SIGNS, rfl, rfl, rfl, vc_NAMED_SIGNS.1, vc_NAMED_SIGNS.2⟩) (.cons (.str _) (.cons (.str _) (.cons (.str _) (.nil))))⟩, ⟨_, PySem.W.mg_of X G zc_ORDERS, fun I => .tup (.inr ⟨_, _, _, lc_ORDERS, rfl, rfl, rfl, vc_ORDERS.1, vc_ORDERS.2⟩) (.cons (.str _) (.cons (.str _) (.cons (.str _) (.nil))))⟩, ⟨_, PySem.W.mg_of X G zc_QUOTES, fun I => .tup (.inr ⟨_, _, _, lc_QUOTES, rfl, rfl, rfl, vc_QUOTES.1, vc_QUOTES.2⟩) (.cons (.str _) (.cons (.str _) (.nil)))⟩, ⟨_, PySem.W.mg_of X G zc_SIGNS, fun I => .tup (.inr ⟨_, _, _, lc_SIGNS, rfl, rfl, rfl, vc_SIGNS.1, vc_SIGNS.2⟩) (.cons (.str _) (.cons (.str _) (.cons (.str _) (.cons (.str _) (.nil)))))⟩⟩
  have F_l_hand := fun_mk (st := s_l_hand) l_l_hand c_l_hand k_l_hand
  have F_l_take := fun_mk (st := s_l_take) l_l_take c_l_take k_l_take
  have F_l_pick := fun_mk (st := s_l_pick) l_l_pick c_l_pick k_l_pick
  have F_rank := fun_mk (st := s_rank) l_rank c_rank k_rank
  have F_l_ranks_right := fun_mk (st := s_l_ranks_right) l_l_ranks_right c_l_ranks_right k_l_ranks_right
  have F_l_words := fun_mk (st := s_l_words) l_l_words c_l_words k_l_words
  have F_l_odd_one := fun_mk (st := s_l_odd_one) l_l_odd_one c_l_odd_one k_l_odd_one
  have F_is_whole := fun_mk (st := s_is_whole) l_is_whole c_is_whole k_is_whole
  have F_is_worth := fun_mk (st := s_is_worth) l_is_worth c_is_worth k_is_worth
  have F_is_form := fun_mk (st := s_is_form) l_is_form c_is_form k_is_form
  have F_is_name := fun_mk (st := s_is_name) l_is_name c_is_name k_is_name
  have F_are_names := fun_mk (st := s_are_names) l_are_names c_are_names k_are_names
  have F_are_widths := fun_mk (st := s_are_widths) l_are_widths c_are_widths k_are_widths
  have F_is_shape := fun_mk (st := s_is_shape) l_is_shape c_is_shape k_is_shape
  have F_l_is_worth := fun_mk (st := s_l_is_worth) l_l_is_worth c_l_is_worth k_l_is_worth
  have F_l_is_form := fun_mk (st := s_l_is_form) l_l_is_form c_l_is_form k_l_is_form
  have F_l_is_word := fun_mk (st := s_l_is_word) l_l_is_word c_l_is_word k_l_is_word
  have F_l_are_cols := fun_mk (st := s_l_are_cols) l_l_are_cols c_l_are_cols k_l_are_cols
  have F_l_is_shape := fun_mk (st := s_l_is_shape) l_l_is_shape c_l_is_shape k_l_is_shape
  have F_l_told_right := fun_mk (st := s_l_told_right) l_l_told_right c_l_told_right k_l_told_right
  have F_l_bent := fun_mk (st := s_l_bent) l_l_bent c_l_bent k_l_bent
  have F_law := fun_mk (st := s_law) l_law c_law k_law
  refine ⟨PySem.W.fnOf "law" "law" (defArgs s_law) (defBody s_law) (defScope s_law) .none kV_law dc_law pm_law an_law cd_law ct_law, GG K, LW.F_law, rfl, fun s v => .of_eq rfl, fun base _ _ => ?_, law_right⟩
  have KT_LONG : ∃ a, mg "LONG" = some (.ref a) ∧ KTab K w a [("signs", 4), ("places", 3), ("named", 3)] := ⟨_, PySem.W.mg_of X G zd_LONG, ⟨_, _, ld_LONG, kd_LONG, sd_LONG, td_LONG⟩⟩
  have C_l_hand : Cal l.prog w (GG K) mg base "_law_hand" 1 ["_law_script", "_law_k"] [] LW.F_l_hand := ⟨f_l_hand, _, ok_l_hand F_l_hand T, PySem.W.mg_of X G a_l_hand, k_l_hand, F_l_hand.binds (ps := ["_law_script", "_law_k"]) fun _ _ _ _ _ _ us hl => match us, hl with | [_, _], _ => rfl, fun q hq => by cases hq⟩
  have C_l_take : Cal l.prog w (GG K) mg base "_law_take" 1 ["_law_hand_here", "_law_many"] [] LW.F_l_take := ⟨f_l_take, _, ok_l_take F_l_take T, PySem.W.mg_of X G a_l_take, k_l_take, F_l_take.binds (ps := ["_law_hand_here", "_law_many"]) fun _ _ _ _ _ _ us hl => match us, hl with | [_, _], _ => rfl, fun q hq => by cases hq⟩
  have C_l_pick : Cal l.prog w (GG K) mg base "_law_pick" 2 ["_law_hand_here", "_law_some"] [] LW.F_l_pick := ⟨f_l_pick, _, ok_l_pick F_l_pick T C_l_take, PySem.W.mg_of X G a_l_pick, k_l_pick, F_l_pick.binds (ps := ["_law_hand_here", "_law_some"]) fun _ _ _ _ _ _ us hl => match us, hl with | [_, _], _ => rfl, fun q hq => by cases hq⟩
  have C_rank : Cal l.prog w (GG K) mg base "rank" 1 ["worth"] [(["worth"], [0])] LW.F_rank := ⟨f_rank, _, ok_rank F_rank T, PySem.W.mg_of X G a_rank, k_rank, F_rank.binds (ps := ["worth"]) fun _ _ _ _ _ _ us hl => match us, hl with | [_], _ => rfl, fun q hq => by
      simp only [List.mem_cons, List.not_mem_nil, or_false] at hq
      rcases hq with rfl
      · intro s ws hl
        match ws, hl with
        | [_], _ => exact .of_eq rfl
⟩
  have KF_rank : KeyF l.prog w K mg "rank" := keyFn_of F_rank (PySem.W.mg_of X G a_rank) sc_rank (by decide +kernel) (F_rank.binds (ps := ["worth"]) fun _ _ _ _ _ _ us hl => match us, hl with | [_], _ => rfl) (by decide) ⟨_, _, _, _, _, _, _, _, _, _, _, _, _, _, _, _, _, rfl⟩
  have C_l_ranks_right : Cal l.prog w (GG K) mg base "_law_ranks_right" 3 ["_law_hand_here"] [] LW.F_l_ranks_right := ⟨f_l_ranks_right, _, ok_l_ranks_right F_l_ranks_right T C_l_take C_l_pick C_rank KF_rank, PySem.W.mg_of X G a_l_ranks_right, k_l_ranks_right, F_l_ranks_right.binds (ps := ["_law_hand_here"]) fun _ _ _ _ _ _ us hl => match us, hl with | [_], _ => rfl, fun q hq => by cases hq⟩
  have C_l_words : Cal l.prog w (GG K) mg base "_law_words" 3 ["_law_hand_here", "_law_many"] [] LW.F_l_words := ⟨f_l_words, _, ok_l_words F_l_words T C_l_take C_l_pick, PySem.W.mg_of X G a_l_words, k_l_words, F_l_words.binds (ps := ["_law_hand_here", "_law_many"]) fun _ _ _ _ _ _ us hl => match us, hl with | [_, _], _ => rfl, fun q hq => by cases hq⟩
  have C_l_odd_one : Cal l.prog w (GG K) mg base "_law_odd_one" 3 ["_law_hand_here"] [] LW.F_l_odd_one := ⟨f_l_odd_one, _, ok_l_odd_one F_l_odd_one T C_l_pick, PySem.W.mg_of X G a_l_odd_one, k_l_odd_one, F_l_odd_one.binds (ps := ["_law_hand_here"]) fun _ _ _ _ _ _ us hl => match us, hl with | [_], _ => rfl, fun q hq => by cases hq⟩
  have C_is_whole : Cal l.prog w (GG K) mg base "is_whole" 1 ["thing"] [] LW.F_is_whole := ⟨f_is_whole, _, ok_is_whole F_is_whole T, PySem.W.mg_of X G a_is_whole, k_is_whole, F_is_whole.binds (ps := ["thing"]) fun _ _ _ _ _ _ us hl => match us, hl with | [_], _ => rfl, fun q hq => by cases hq⟩
  have C_is_worth : Cal l.prog w (GG K) mg base "is_worth" 2 ["thing"] [(["thing"], [0])] LW.F_is_worth := ⟨f_is_worth, _, ok_is_worth F_is_worth T C_is_whole, PySem.W.mg_of X G a_is_worth, k_is_worth, F_is_worth.binds (ps := ["thing"]) fun _ _ _ _ _ _ us hl => match us, hl with | [_], _ => rfl, fun q hq => by
      simp only [List.mem_cons, List.not_mem_nil, or_false] at hq
      rcases hq with rfl
      · intro s ws hl
        match ws, hl with
        | [_], _ => exact .of_eq rfl
⟩
  have C_is_form : Cal l.prog w (GG K) mg base "is_form" 2 ["thing"] [(["thing"], [0])] LW.F_is_form := ⟨f_is_form, _, ok_is_form F_is_form T C_is_whole, PySem.W.mg_of X G a_is_form, k_is_form, F_is_form.binds (ps := ["thing"]) fun _ _ _ _ _ _ us hl => match us, hl with | [_], _ => rfl, fun q hq => by
      simp only [List.mem_cons, List.not_mem_nil, or_false] at hq
      rcases hq with rfl
      · intro s ws hl
        match ws, hl with
        | [_], _ => exact .of_eq rfl
⟩
  have C_is_name : Cal l.prog w (GG K) mg base "is_name" 1 ["thing"] [] LW.F_is_name := ⟨f_is_name, _, ok_is_name F_is_name T, PySem.W.mg_of X G a_is_name, k_is_name, F_is_name.binds (ps := ["thing"]) fun _ _ _ _ _ _ us hl => match us, hl with | [_], _ => rfl, fun q hq => by cases hq⟩
  have C_are_names : Cal l.prog w (GG K) mg base "are_names" 2 ["thing", "most"] [] LW.F_are_names := ⟨f_are_names, _, ok_are_names F_are_names T C_is_name, PySem.W.mg_of X G a_are_names, k_are_names, F_are_names.binds (ps := ["thing", "most"]) fun _ _ _ _ _ _ us hl => match us, hl with | [_, _], _ => rfl, fun q hq => by cases hq⟩
  have C_are_widths : Cal l.prog w (GG K) mg base "are_widths" 2 ["thing", "many"] [] LW.F_are_widths := ⟨f_are_widths, _, ok_are_widths F_are_widths T C_is_whole, PySem.W.mg_of X G a_are_widths, k_are_widths, F_are_widths.binds (ps := ["thing", "many"]) fun _ _ _ _ _ _ us hl => match us, hl with | [_, _], _ => rfl, fun q hq => by cases hq⟩
  have C_is_shape : Cal l.prog w (GG K) mg base "is_shape" 3 ["thing"] [(["thing"], [0])] LW.F_is_shape := ⟨f_is_shape, _, ok_is_shape F_is_shape T C_are_names C_are_widths KT_LONG, PySem.W.mg_of X G a_is_shape, k_is_shape, F_is_shape.binds (ps := ["thing"]) fun _ _ _ _ _ _ us hl => match us, hl with | [_], _ => rfl, fun q hq => by
      simp only [List.mem_cons, List.not_mem_nil, or_false] at hq
      rcases hq with rfl
      · intro s ws hl
        match ws, hl with
        | [_], _ => exact .of_eq rfl
⟩
  have C_l_is_worth : Cal l.prog w (GG K) mg base "_law_is_worth" 1 ["_law_what"] [] LW.F_l_is_worth := ⟨f_l_is_worth, _, ok_l_is_worth F_l_is_worth T, PySem.W.mg_of X G a_l_is_worth, k_l_is_worth, F_l_is_worth.binds (ps := ["_law_what"]) fun _ _ _ _ _ _ us hl => match us, hl with | [_], _ => rfl, fun q hq => by cases hq⟩
  have C_l_is_form : Cal l.prog w (GG K) mg base "_law_is_form" 1 ["_law_what"] [] LW.F_l_is_form := ⟨f_l_is_form, _, ok_l_is_form F_l_is_form T, PySem.W.mg_of X G a_l_is_form, k_l_is_form, F_l_is_form.binds (ps := ["_law_what"]) fun _ _ _ _ _ _ us hl => match us, hl with | [_], _ => rfl, fun q hq => by cases hq⟩
  have C_l_is_word : Cal l.prog w (GG K) mg base "_law_is_word" 1 ["_law_what"] [] LW.F_l_is_word := ⟨f_l_is_word, _, ok_l_is_word F_l_is_word T, PySem.W.mg_of X G a_l_is_word, k_l_is_word, F_l_is_word.binds (ps := ["_law_what"]) fun _ _ _ _ _ _ us hl => match us, hl with | [_], _ => rfl, fun q hq => by cases hq⟩
  have C_l_are_cols : Cal l.prog w (GG K) mg base "_law_are_cols" 2 ["_law_what"] [] LW.F_l_are_cols := ⟨f_l_are_cols, _, ok_l_are_cols F_l_are_cols T C_l_is_word, PySem.W.mg_of X G a_l_are_cols, k_l_are_cols, F_l_are_cols.binds (ps := ["_law_what"]) fun _ _ _ _ _ _ us hl => match us, hl with | [_], _ => rfl, fun q hq => by cases hq⟩
  have C_l_is_shape : Cal l.prog w (GG K) mg base "_law_is_shape" 3 ["_law_what"] [] LW.F_l_is_shape := ⟨f_l_is_shape, _, ok_l_is_shape F_l_is_shape T C_l_are_cols, PySem.W.mg_of X G a_l_is_shape, k_l_is_shape, F_l_is_shape.binds (ps := ["_law_what"]) fun _ _ _ _ _ _ us hl => match us, hl with | [_], _ => rfl, fun q hq => by cases hq⟩
  have C_l_told_right : Cal l.prog w (GG K) mg base "_law_told_right" 4 ["_law_item"] [] LW.F_l_told_right := ⟨f_l_told_right, _, ok_l_told_right F_l_told_right T C_is_worth C_is_form C_is_shape C_l_is_worth C_l_is_form C_l_is_shape, PySem.W.mg_of X G a_l_told_right, k_l_told_right, F_l_told_right.binds (ps := ["_law_item"]) fun _ _ _ _ _ _ us hl => match us, hl with | [_], _ => rfl, fun q hq => by cases hq⟩
  have C_l_bent0 : Cal l.prog w (GG K) mg base "_law_bent" 4 ["_law_hand_here", "_law_item", "_law_deep"] [] LW.F_l_bent0 := ⟨f_l_bent, _, ok_l_bent0, PySem.W.mg_of X G a_l_bent, k_l_bent, F_l_bent.binds (ps := ["_law_hand_here", "_law_item", "_law_deep"]) fun _ _ _ _ _ _ us hl => match us, hl with | [_, _, _], _ => rfl, fun q hq => by cases hq⟩
  have C_l_bent1 : Cal l.prog w (GG K) mg base "_law_bent" 5 ["_law_hand_here", "_law_item", "_law_deep"] [] LW.F_l_bent1 := ⟨f_l_bent, _, ok_l_bent1 F_l_bent T C_l_take C_l_odd_one C_l_bent0, PySem.W.mg_of X G a_l_bent, k_l_bent, F_l_bent.binds (ps := ["_law_hand_here", "_law_item", "_law_deep"]) fun _ _ _ _ _ _ us hl => match us, hl with | [_, _, _], _ => rfl, fun q hq => by cases hq⟩
  have C_l_bent2 : Cal l.prog w (GG K) mg base "_law_bent" 6 ["_law_hand_here", "_law_item", "_law_deep"] [] LW.F_l_bent2 := ⟨f_l_bent, _, ok_l_bent2 F_l_bent T C_l_take C_l_odd_one C_l_bent1, PySem.W.mg_of X G a_l_bent, k_l_bent, F_l_bent.binds (ps := ["_law_hand_here", "_law_item", "_law_deep"]) fun _ _ _ _ _ _ us hl => match us, hl with | [_, _, _], _ => rfl, fun q hq => by cases hq⟩
  have C_l_bent : Cal l.prog w (GG K) mg base "_law_bent" 7 ["_law_hand_here", "_law_item", "_law_deep"] [] LW.F_l_bent := ⟨f_l_bent, _, ok_l_bent F_l_bent T C_l_take C_l_odd_one C_l_bent2, PySem.W.mg_of X G a_l_bent, k_l_bent, F_l_bent.binds (ps := ["_law_hand_here", "_law_item", "_law_deep"]) fun _ _ _ _ _ _ us hl => match us, hl with | [_, _, _], _ => rfl, fun q hq => by cases hq⟩
  exact ok_law F_law T C_l_hand C_l_ranks_right C_l_words C_l_take C_l_pick C_l_odd_one C_l_told_right C_l_bent
end LW

open PySem PySem.W PyProof.Rows in
set_option maxRecDepth 100000 in
set_option maxHeartbeats 0 in
theorem PySem.Challenge.cw_cleanedtables_k01_worths_forms_shapes_of_holds : PySem.Challenge.rw_cleanedtables_k01_worths_forms_shapes_of.Holds := by
  w_on; o_law; k_head; (case hw => w_witness2)
  k_fill
  refine DL.walkG (l := PySem.Challenge.rw_cleanedtables_k01_worths_forms_shapes_of) (n := 63) (k := 8) (x := "_law_script") rfl (by decide) rfl ⟨rfl, by decide, by decide⟩ (fun w h Y => PySem.W.kIn_of Y) ?F
  case F =>
    intro w mg fa h KX G hmg
    refine' LW.all_mk KX G hmg ?a_l_hand ?l_l_hand ?c_l_hand ?k_l_hand ?a_l_take ?l_l_take ?c_l_take ?k_l_take ?a_l_pick ?l_l_pick ?c_l_pick ?k_l_pick ?a_rank ?l_rank ?c_rank ?k_rank ?a_l_ranks_right ?l_l_ranks_right ?c_l_ranks_right ?k_l_ranks_right ?a_l_words ?l_l_words ?c_l_words ?k_l_words ?a_l_odd_one ?l_l_odd_one ?c_l_odd_one ?k_l_odd_one ?a_is_whole ?l_is_whole ?c_is_whole ?k_is_whole ?a_is_worth ?l_is_worth ?c_is_worth ?k_is_worth ?a_is_form ?l_is_form ?c_is_form ?k_is_form ?a_is_name ?l_is_name ?c_is_name ?k_is_name ?a_are_names ?l_are_names ?c_are_names ?k_are_names ?a_are_widths ?l_are_widths ?c_are_widths ?k_are_widths ?a_is_shape ?l_is_shape ?c_is_shape ?k_is_shape ?a_l_is_worth ?l_l_is_worth ?c_l_is_worth ?k_l_is_worth ?a_l_is_form ?l_l_is_form ?c_l_is_form ?k_l_is_form ?a_l_is_word ?l_l_is_word ?c_l_is_word ?k_l_is_word ?a_l_are_cols ?l_l_are_cols ?c_l_are_cols ?k_l_are_cols ?a_l_is_shape ?l_l_is_shape ?c_l_is_shape ?k_l_is_shape ?a_l_told_right ?l_l_told_right ?c_l_told_right ?k_l_told_right ?a_l_bent ?l_l_bent ?c_l_bent ?k_l_bent ?a_law ?l_law ?c_law ?k_law ?zb_abs ?zb_all ?zb_bool ?zb_int ?zb_isinstance ?zb_len ?zb_list ?zb_max ?zb_min ?zb_range ?zb_repr ?zb_set ?zb_sorted ?zb_str ?zb_tuple ?zc_LETTERS ?zc_MOST_COLUMNS ?zc_MOST_LETTERS ?zc_MOST_PLACES ?zc_MOST_WIDTH ?zc_NAMED_SIGNS ?lc_NAMED_SIGNS ?vc_NAMED_SIGNS ?zc_ORDERS ?lc_ORDERS ?vc_ORDERS ?zc_QUOTES ?lc_QUOTES ?vc_QUOTES ?zc_SIGNS ?lc_SIGNS ?vc_SIGNS ?zd_LONG ?ld_LONG ?kd_LONG ?sd_LONG ?td_LONG LW.law_right
    (case a_l_hand => k_is)
    (case l_l_hand => k_is)
    (case c_l_hand => k_is)
    (case k_l_hand => k_is)
    (case a_l_take => k_is)
    (case l_l_take => k_is)
    (case c_l_take => k_is)
    (case k_l_take => k_is)
    (case a_l_pick => k_is)
    (case l_l_pick => k_is)
    (case c_l_pick => k_is)
    (case k_l_pick => k_is)
    (case a_rank => k_is)
    (case l_rank => k_is)
    (case c_rank => k_is)
    (case k_rank => k_is)
    (case a_l_ranks_right => k_is)
    (case l_l_ranks_right => k_is)
    (case c_l_ranks_right => k_is)
    (case k_l_ranks_right => k_is)
    (case a_l_words => k_is)
    (case l_l_words => k_is)
    (case c_l_words => k_is)
    (case k_l_words => k_is)
    (case a_l_odd_one => k_is)
    (case l_l_odd_one => k_is)
    (case c_l_odd_one => k_is)
    (case k_l_odd_one => k_is)
    (case a_is_whole => k_is)
    (case l_is_whole => k_is)
    (case c_is_whole => k_is)
    (case k_is_whole => k_is)
    (case a_is_worth => k_is)
    (case l_is_worth => k_is)
    (case c_is_worth => k_is)
    (case k_is_worth => k_is)
    (case a_is_form => k_is)
    (case l_is_form => k_is)
    (case c_is_form => k_is)
    (case k_is_form => k_is)
    (case a_is_name => k_is)
    (case l_is_name => k_is)
    (case c_is_name => k_is)
    (case k_is_name => k_is)
    (case a_are_names => k_is)
    (case l_are_names => k_is)
    (case c_are_names => k_is)
    (case k_are_names => k_is)
    (case a_are_widths => k_is)
    (case l_are_widths => k_is)
    (case c_are_widths => k_is)
    (case k_are_widths => k_is)
    (case a_is_shape => k_is)
    (case l_is_shape => k_is)
    (case c_is_shape => k_is)
    (case k_is_shape => k_is)
    (case a_l_is_worth => k_is)
    (case l_l_is_worth => k_is)
    (case c_l_is_worth => k_is)
    (case k_l_is_worth => k_is)
    (case a_l_is_form => k_is)
    (case l_l_is_form => k_is)
    (case c_l_is_form => k_is)
    (case k_l_is_form => k_is)
    (case a_l_is_word => k_is)
    (case l_l_is_word => k_is)
    (case c_l_is_word => k_is)
    (case k_l_is_word => k_is)
    (case a_l_are_cols => k_is)
    (case l_l_are_cols => k_is)
    (case c_l_are_cols => k_is)
    (case k_l_are_cols => k_is)
    (case a_l_is_shape => k_is)
    (case l_l_is_shape => k_is)
    (case c_l_is_shape => k_is)
    (case k_l_is_shape => k_is)
    (case a_l_told_right => k_is)
    (case l_l_told_right => k_is)
    (case c_l_told_right => k_is)
    (case k_l_told_right => k_is)
    (case a_l_bent => k_is)
    (case l_l_bent => k_is)
    (case c_l_bent => k_is)
    (case k_l_bent => k_is)
    (case a_law => k_is)
    (case l_law => k_is)
    (case c_law => k_is)
    (case k_law => k_is)
    (case zb_abs => k_is)
    (case zb_all => k_is)
    (case zb_bool => k_is)
    (case zb_int => k_is)
    (case zb_isinstance => k_is)
    (case zb_len => k_is)
    (case zb_list => k_is)
    (case zb_max => k_is)
    (case zb_min => k_is)
    (case zb_range => k_is)
    (case zb_repr => k_is)
    (case zb_set => k_is)
    (case zb_sorted => k_is)
    (case zb_str => k_is)
    (case zb_tuple => k_is)
    (case zc_LETTERS => k_is)
    (case zc_MOST_COLUMNS => k_is)
    (case zc_MOST_LETTERS => k_is)
    (case zc_MOST_PLACES => k_is)
    (case zc_MOST_WIDTH => k_is)
    (case zc_NAMED_SIGNS => k_is)
    (case lc_NAMED_SIGNS => k_is)
    (case vc_NAMED_SIGNS => exact ⟨by decide, by repeat' first | exact .nil | refine .cons ⟨_, rfl⟩ ?_⟩)
    (case zc_ORDERS => k_is)
    (case lc_ORDERS => k_is)
    (case vc_ORDERS => exact ⟨by decide, by repeat' first | exact .nil | refine .cons ⟨_, rfl⟩ ?_⟩)
    (case zc_QUOTES => k_is)
    (case lc_QUOTES => k_is)
    (case vc_QUOTES => exact ⟨by decide, by repeat' first | exact .nil | refine .cons ⟨_, rfl⟩ ?_⟩)
    (case zc_SIGNS => k_is)
    (case lc_SIGNS => k_is)
    (case vc_SIGNS => exact ⟨by decide, by repeat' first | exact .nil | refine .cons ⟨_, rfl⟩ ?_⟩)
    (case zd_LONG => k_is)
    (case ld_LONG => k_is)
    (case kd_LONG => exact ⟨⟨_, _, rfl, rfl⟩, ⟨_, _, rfl, rfl⟩, ⟨_, _, rfl, rfl⟩, trivial⟩)
    (case sd_LONG => decide)
    (case td_LONG => exact .cons ⟨_, _, rfl, rfl⟩ (.cons ⟨_, _, rfl, rfl⟩ (.cons ⟨_, _, rfl, rfl⟩ (.nil))))

