import PyProof.Rows.All
import Wide.All
import OpenK.AllK
import Wide.FinOn
import HandS.ForMost
import HandS.ForExc
import HandS.CallSlots
import HandS.IsInst
import HandS.Zip
import HandS.Star
import HandS.Flow
import HandS.StrMore
import HandS.Wide
import HandS.WideBits
import HandS.TupAny
import HandS.RaiseMore
import HandS.Conv
import HandS.SetKeys
import HandS.EndBits
import HandS.Replace
import PyProof.Rows.StrPadFill
import HandS.Text
import KE.GoesMore
import HandS.DictComp
import HandS.Steps
import KE.SortData
import HandS.Set
import HandS.SetFor
import HandS.SetTxt0
import PyProof.Rows.SetFrom
import PyProof.StrLawsRepr
import PySem.Challenge.RW_cleanedtables_k86_programs_row_by_row
set_option Elab.async false
set_option linter.all false
set_option maxRecDepth 100000
/-! The data layer: what expressions and statements come to, told in plain data (PyData), over the hand layer's judgements. -/
namespace DL
open PySem PySem.Spec PyProof.Rows L2

abbrev D := PyData
def kD : Key → D
  | .inl i => .int i
  | .inr x => .str x
mutual
inductive Rp (K : PySem.W.Frag) (I : Hp) : V → D → Prop
  | non : Rp K I .non .none
  | bl (b : Bool) : Rp K I (.bl b) (.bool b)
  | int (i : Int) : Rp K I (.int i) (.int i)
  | str (x : Str) : Rp K I (.str x) (.str x)
  | lst {a : Addr} {xs : List V} {ds : List D} : SqL K I a xs → RpA K I xs ds → Rp K I (.ref a) (.list ds)
  | tup {a : Addr} {xs : List V} {ds : List D} : SqT K I a xs → RpA K I xs ds → Rp K I (.ref a) (.tuple ds)
  | dic {a : Addr} {kvs : List (Key × V)} {ps : List (D × D)} : I a = some (.dK kvs) → RpK K I kvs ps → Rp K I (.ref a) (.dict ps)
inductive RpA (K : PySem.W.Frag) (I : Hp) : List V → List D → Prop
  | nil : RpA K I [] []
  | cons {v : V} {vs : List V} {d : D} {ds : List D} : Rp K I v d → RpA K I vs ds → RpA K I (v :: vs) (d :: ds)
inductive RpK (K : PySem.W.Frag) (I : Hp) : List (Key × V) → List (D × D) → Prop
  | nil : RpK K I [] []
  | cons {k : Key} {v : V} {kvs : List (Key × V)} {d : D} {ps : List (D × D)} : Rp K I v d → RpK K I kvs ps → RpK K I ((k, v) :: kvs) ((kD k, d) :: ps)
end
theorem seqL {K : PySem.W.Frag} {H H' : Hp} {a : Addr} {xs : List V} (e : Same H H') (h : SqL K H a xs) : SqL K H' a xs := e.seq h
theorem seqT {K : PySem.W.Frag} {H H' : Hp} {a : Addr} {xs : List V} (e : Same H H') (h : SqT K H a xs) : SqT K H' a xs := by
  rcases h with (h | ⟨o, h⟩) | h
  · exact .inl (.inl (e _ _ h))
  · exact .inl (.inr ⟨o, e _ _ h⟩)
  · exact .inr h
mutual
theorem Rp.mono {K : PySem.W.Frag} {I I' : Hp} (e : Same I I') : ∀ (d : D) (v : V), Rp K I v d → Rp K I' v d
  | .none, _, h => by cases h; exact .non
  | .bool _, _, h => by cases h; exact .bl _
  | .int _, _, h => by cases h; exact .int _
  | .str _, _, h => by cases h; exact .str _
  | .list ds, _, h => by
    cases h with
    | lst hs ha => exact .lst (seqL e hs) (RpA.mono e ds _ ha)
  | .tuple ds, _, h => by
    cases h with
    | tup hs ha => exact .tup (seqT e hs) (RpA.mono e ds _ ha)
  | .dict ps, _, h => by
    cases h with
    | dic hs ha => exact .dic (e _ _ hs) (RpK.mono e ps _ ha)
theorem RpA.mono {K : PySem.W.Frag} {I I' : Hp} (e : Same I I') : ∀ (ds : List D) (vs : List V), RpA K I vs ds → RpA K I' vs ds
  | [], _, h => by cases h; exact .nil
  | d :: ds, _, h => by
    cases h with
    | cons h1 h2 => exact .cons (Rp.mono e d _ h1) (RpA.mono e ds _ h2)
theorem RpK.mono {K : PySem.W.Frag} {I I' : Hp} (e : Same I I') : ∀ (ps : List (D × D)) (kvs : List (Key × V)), RpK K I kvs ps → RpK K I' kvs ps
  | [], _, h => by cases h; exact .nil
  | (_, d) :: ps, _, h => by
    cases h with
    | cons h1 h2 => exact .cons (Rp.mono e d _ h1) (RpK.mono e ps _ h2)
end
theorem RpA.length {K : PySem.W.Frag} {I : Hp} : ∀ {ds : List D} {vs : List V}, RpA K I vs ds → vs.length = ds.length
  | _, _, .nil => rfl
  | _, _, .cons _ t => by rw [List.length_cons, List.length_cons, RpA.length t]
theorem RpA.get {K : PySem.W.Frag} {I : Hp} : ∀ {ds : List D} {vs : List V} {i : Nat} {v : V}, RpA K I vs ds → vs[i]? = some v → ∃ d, ds[i]? = some d ∧ Rp K I v d
  | _, _, _, _, .nil, h => by simp at h
  | _, _, 0, _, .cons r t, h => by
    simp at h
    subst h
    exact ⟨_, rfl, r⟩
  | _, _, i + 1, _, .cons r t, h => by
    obtain ⟨d, h1, h2⟩ := RpA.get (i := i) t (by simpa using h)
    exact ⟨d, by simpa using h1, h2⟩
theorem RpA.got {K : PySem.W.Frag} {I : Hp} {ds : List D} {vs : List V} {i : Nat} {d : D} (r : RpA K I vs ds) (h : ds[i]? = some d) : ∃ v, vs[i]? = some v ∧ Rp K I v d := by
  have hl := r.length
  have hi : i < vs.length := by
    have := (List.getElem?_eq_some_iff.mp h).1
    omega
  have e : vs[i]? = some vs[i] := by simp [hi]
  obtain ⟨d', h1, h2⟩ := r.get e
  rw [h] at h1
  cases h1
  exact ⟨_, e, h2⟩
theorem RpA.app {K : PySem.W.Frag} {I : Hp} : ∀ {ds es : List D} {vs us : List V}, RpA K I vs ds → RpA K I us es → RpA K I (vs ++ us) (ds ++ es)
  | _, _, _, _, .nil, h => h
  | _, _, _, _, .cons r t, h => .cons r (RpA.app t h)
theorem RpA.take {K : PySem.W.Frag} {I : Hp} : ∀ {ds : List D} {vs : List V} (n : Nat), RpA K I vs ds → RpA K I (vs.take n) (ds.take n)
  | _, _, 0, _ => by simp; exact .nil
  | _, _, n + 1, .nil => .nil
  | _, _, n + 1, .cons r t => .cons r (RpA.take n t)
theorem RpA.drop {K : PySem.W.Frag} {I : Hp} : ∀ {ds : List D} {vs : List V} (n : Nat), RpA K I vs ds → RpA K I (vs.drop n) (ds.drop n)
  | _, _, 0, h => h
  | _, _, n + 1, .nil => .nil
  | _, _, n + 1, .cons r t => RpA.drop n t
mutual
def nodict : D → Bool
  | .list ds => nodicts ds
  | .tuple ds => nodicts ds
  | .dict _ => false
  | _ => true
def nodicts : List D → Bool
  | [] => true
  | d :: ds => nodict d && nodicts ds
end
mutual
theorem Rp.dp {K : PySem.W.Frag} {I : Hp} : ∀ (d : D) (v : V), nodict d = true → Rp K I v d → Dp K I v d
  | .none, _, _, h => by cases h; exact .non
  | .bool _, _, _, h => by cases h; exact .bl _
  | .int _, _, _, h => by cases h; exact .int _
  | .str _, _, _, h => by cases h; exact .str _
  | .list ds, _, n, h => by
    cases h with
    | lst hs ha => exact .lst hs (RpA.dp ds _ (by simpa [nodict] using n) ha)
  | .tuple ds, _, n, h => by
    cases h with
    | tup hs ha => exact .tup hs (RpA.dp ds _ (by simpa [nodict] using n) ha)
  | .dict ps, _, n, _ => by simp [nodict] at n
theorem RpA.dp {K : PySem.W.Frag} {I : Hp} : ∀ (ds : List D) (vs : List V), nodicts ds = true → RpA K I vs ds → DpAll K I vs ds
  | [], _, _, h => by cases h; exact .nil
  | d :: ds, _, n, h => by
    simp only [nodicts, Bool.and_eq_true] at n
    cases h with
    | cons h1 h2 => exact .cons (Rp.dp d _ n.1 h1) (RpA.dp ds _ n.2 h2)
end

/-! ### what a name, an expression may be; what stands in a store -/
inductive Dv where
  | d (x : D) | c (n : Nat) | f (n : Nat)
abbrev DEnv := List (Option Dv)
inductive Cell where
  | lst (xs : List Dv) | dic (kvs : List (Key × Dv)) | dT (kvs : List (List Key × Dv)) | obj (C : Nat) (fs : List (Str × Dv)) | dead
abbrev Store := List Cell
structure Ex where
  cls : Nat
  fs : List (Str × Dv)
inductive Out (β : Type) where
  | ok (b : β) (μ : Store) | ex (e : Ex) (μ : Store) | bad
def Out.bind {β γ : Type} : Out β → (β → Store → Out γ) → Out γ
  | .ok b μ, k => k b μ
  | .ex e μ, _ => .ex e μ
  | .bad, _ => .bad
@[simp] theorem bind_ok {β γ : Type} (b : β) (μ : Store) (k : β → Store → Out γ) : (Out.ok b μ).bind k = k b μ := rfl
@[simp] theorem bind_ex {β γ : Type} (e : Ex) (μ : Store) (k : β → Store → Out γ) : (Out.ex e μ : Out β).bind k = .ex e μ := rfl
@[simp] theorem bind_bad {β γ : Type} (k : β → Store → Out γ) : (Out.bad : Out β).bind k = .bad := rfl

structure GT where
  K : PySem.W.Frag
  FA : Nat → Option Addr
/-- I: what is frozen; α: where the store's cells stand; F: what stands there for others, untouched -/
structure Wd where
  I : Hp
  α : List Addr
  F : Hp
def Wd.le (w w' : Wd) : Prop := Same w.I w'.I ∧ w.α <+: w'.α ∧ Same w.F w'.F
theorem Wd.le_refl (w : Wd) : w.le w := ⟨Same.refl _, List.prefix_refl _, Same.refl _⟩
theorem Wd.le.trans {a b c : Wd} (h : a.le b) (k : b.le c) : a.le c := ⟨h.1.trans k.1, h.2.1.trans k.2.1, h.2.2.trans k.2.2⟩

def Rv (G : GT) (w : Wd) (v : V) : Dv → Prop
  | .d x => Rp G.K w.I v x
  | .c n => ∃ a, w.α[n]? = some a ∧ v = .ref a
  | .f n => ∃ a, G.FA n = some a ∧ v = .ref a
theorem pre_get {α : Type} {l m : List α} (h : l <+: m) {n : Nat} {a : α} (e : l[n]? = some a) : m[n]? = some a := by
  obtain ⟨t, rfl⟩ := h
  have := (List.getElem?_eq_some_iff.mp e).1
  rw [List.getElem?_append_left this]
  exact e
theorem Rv.mono {G : GT} {w w' : Wd} (h : w.le w') {v : V} : ∀ {b : Dv}, Rv G w v b → Rv G w' v b
  | .d _, r => Rp.mono h.1 _ _ r
  | .c _, ⟨a, e, q⟩ => ⟨a, pre_get h.2.1 e, q⟩
  | .f _, r => r
abbrev Rvs (G : GT) (w : Wd) : List V → List Dv → Prop := Paired (Rv G w)
theorem Rvs.mono {G : GT} {w w' : Wd} (h : w.le w') : ∀ {vs : List V} {bs : List Dv}, Rvs G w vs bs → Rvs G w' vs bs
  | _, _, .nil => .nil
  | _, _, .cons r t => .cons (Rv.mono h r) (Rvs.mono h t)

def CellAt (G : GT) (w : Wd) (H : Hp) (a : Addr) : Cell → Prop
  | .lst xs => w.I a = none ∧ ∃ vs, H a = some (.lst vs) ∧ Rvs G w vs xs
  | .dic kvs => w.I a = none ∧ ∃ ws, H a = some (.dK ws) ∧ Paired (fun (p : Key × V) (q : Key × Dv) => p.1 = q.1 ∧ Rv G w p.2 q.2) ws kvs
  | .dT kvs => w.I a = none ∧ ∃ ws, H a = some (.dT ws) ∧ Paired (fun (p : List Key × V) (q : List Key × Dv) => p.1 = q.1 ∧ Rv G w p.2 q.2) ws kvs
  | .obj _ _ => False
  | .dead => True
structure Lay (G : GT) (w : Wd) (μ : Store) (H : Hp) : Prop where
  same : Same w.I H
  len : w.α.length = μ.length
  nd : w.α.Nodup
  lv : ∀ a ∈ w.α, ∃ o, H a = some o
  fr : Same w.F H
  fd : ∀ a ∈ w.α, w.F a = none
  di : ∀ a o, w.F a = some o → w.I a = none
  at_ : ∀ (n : Nat) (c : Cell) (a : Addr), μ[n]? = some c → w.α[n]? = some a → CellAt G w H a c
theorem Paired.imp {α β : Type} {F F' : α → β → Prop} (h : ∀ a b, F a b → F' a b) : ∀ {l : List α} {m : List β}, Paired F l m → Paired F' l m
  | _, _, .nil => .nil
  | _, _, .cons r t => .cons (h _ _ r) (Paired.imp h t)
def EnvR (G : GT) (w : Wd) (σ : L2.St) (ρ : DEnv) : Prop := σ.length = ρ.length ∧ ∀ (i : Nat) (b : Dv), ρ[i]? = some (some b) → ∃ v, σ[i]? = some (some v) ∧ Rv G w v b
theorem EnvR.mono {G : GT} {w w' : Wd} (h : w.le w') {σ : L2.St} {ρ : DEnv} (e : EnvR G w σ ρ) : EnvR G w' σ ρ :=
  ⟨e.1, fun i b q => let ⟨v, h1, h2⟩ := e.2 i b q; ⟨v, h1, Rv.mono h h2⟩⟩
theorem EnvR.set {G : GT} {w : Wd} {σ : L2.St} {ρ : DEnv} (e : EnvR G w σ ρ) (i : Nat) {v : V} {b : Dv} (r : Rv G w v b) : EnvR G w (σ.set i (some v)) (ρ.set i (some b)) := by
  refine ⟨by rw [List.length_set, List.length_set]; exact e.1, fun j c q => ?_⟩
  by_cases h : i = j
  · subst h
    by_cases hi : i < ρ.length
    · rw [List.getElem?_set_self hi] at q
      cases q
      exact ⟨v, by rw [List.getElem?_set_self (by rw [e.1]; exact hi)], r⟩
    · rw [List.getElem?_eq_none (by rw [List.length_set]; omega)] at q
      cases q
  · rw [List.getElem?_set_ne h] at q
    obtain ⟨u, h1, h2⟩ := e.2 j c q
    exact ⟨u, by rw [List.getElem?_set_ne h]; exact h1, h2⟩

/-- an exception at its data -/
def ExR (G : GT) (w : Wd) (H : Hp) (cls : Value) (d : Option Addr) (e : Ex) : Prop :=
  ∃ C, G.FA e.cls = some C ∧ cls = .ref C ∧ ((d = none ∧ e.fs = []) ∨ ∃ da vs, d = some da ∧ w.I da = some (.xd vs) ∧ Paired (fun (p : Str × V) (q : Str × Dv) => p.1 = q.1 ∧ Rv G w p.2 q.2) vs e.fs)

/-! ### what is wanted behind -/
def Pst {β γ : Type} (G : GT) (W : WX) (σ : L2.St) (R : Wd → γ → β → Prop) (w : Wd) (o : Out β) (Q : γ → Hp → Prop) : Prop :=
  match o with
  | .ok b μ' => ∀ w' v H', w.le w' → Lay G w' μ' H' → R w' v b → Q v H'
  | .ex e μ' => ∀ w' cls d H', w.le w' → Lay G w' μ' H' → ExR G w' H' cls d e → W cls d σ H'
  | .bad => False
theorem Pst.mono {β γ : Type} {G : GT} {W : WX} {σ : L2.St} {R : Wd → γ → β → Prop} {w w' : Wd} {o : Out β} {Q : γ → Hp → Prop} (h : w.le w') (p : Pst G W σ R w o Q) : Pst G W σ R w' o Q := by
  cases o with
  | ok b μ => exact fun w2 v H l => p w2 v H (h.trans l)
  | ex e μ => exact fun w2 c d H l => p w2 c d H (h.trans l)
  | bad => exact p
def tD {β γ : Type} (G : GT) (W : WX) (R : Wd → γ → β → Prop) (m : DEnv → Store → Out β) : L2.St → Hp → (γ → Hp → Prop) → Prop :=
  fun σ H Q => ∃ w μ ρ, Lay G w μ H ∧ EnvR G w σ ρ ∧ Pst G W σ R w (m ρ μ) Q
theorem tD.seq {β γ δ ε : Type} {G : GT} {W : WX} {R : Wd → γ → β → Prop} {R2 : Wd → δ → ε → Prop} {m : DEnv → Store → Out β} {k : DEnv → β → Store → Out ε} {σ : L2.St} {H : Hp} {Q : δ → Hp → Prop} {S : γ → Hp → Prop}
    {w : Wd} {μ : Store} {ρ : DEnv} (hl : Lay G w μ H) (he : EnvR G w σ ρ) (p : Pst G W σ R2 w ((m ρ μ).bind (k ρ)) Q)
    (h : ∀ w1 μ1 H1 v b, w.le w1 → Lay G w1 μ1 H1 → EnvR G w1 σ ρ → R w1 v b → Pst G W σ R2 w1 (k ρ b μ1) Q → S v H1) : tD G W R m σ H S := by
  refine ⟨w, μ, ρ, hl, he, ?_⟩
  cases e : m ρ μ with
  | ok b μ1 =>
    rw [e] at p
    exact fun w1 v H1 l1 lay r => h w1 μ1 H1 v b l1 lay (he.mono l1) r (Pst.mono l1 p)
  | ex x μ1 =>
    rw [e] at p
    exact p
  | bad =>
    rw [e] at p
    exact p.elim

abbrev tE (G : GT) (W : WX) (m : DEnv → Store → Out Dv) : TE := tD G W (Rv G) m
abbrev tT (G : GT) (W : WX) (m : DEnv → Store → Out Bool) : TT := tD G W (fun _ b c => b = c) m
abbrev tA (G : GT) (W : WX) (m : DEnv → Store → Out (List Dv)) : TA := tD G W (Rvs G) m
theorem PE.imp {X : Cx} {e : Expr} {t t' : TE} (h : PE X e t) (i : ∀ σ H Q, t' σ H Q → t σ H Q) : PE X e t' := ⟨fun p s σ H Q I hw => h.run p s σ H Q I (i _ _ _ hw)⟩
theorem PT.imp {X : Cx} {e : Expr} {t t' : TT} (h : PT X e t) (i : ∀ σ H Q, t' σ H Q → t σ H Q) : PT X e t' := ⟨fun p s σ H Q I hw => h.run p s σ H Q I (i _ _ _ hw)⟩
theorem PW.imp {X : Cx} {e : Expr} {t t' : TT} (h : PW X e t) (i : ∀ σ H Q, t' σ H Q → t σ H Q) : PW X e t' := ⟨fun wh p s σ H Q I hw => h.run wh p s σ H Q I (i _ _ _ hw)⟩
theorem PA.imp {X : Cx} {e : List Expr} {t t' : TA} (h : PA X e t) (i : ∀ σ H Q, t' σ H Q → t σ H Q) : PA X e t' := ⟨fun po p s σ H Q I hw => h.run po p s σ H Q I (i _ _ _ hw)⟩
theorem PS.imp {X : Cx} {e : Stmt} {t t' : TS} (h : PS X e t) (i : ∀ D σ H, t' D σ H → t D σ H) : PS X e t' := ⟨fun p s σ H D I hw => h.run p s σ H D I (i _ _ _ hw)⟩
theorem PSs.imp {X : Cx} {e : List Stmt} {t t' : TS} (h : PSs X e t) (i : ∀ D σ H, t' D σ H → t D σ H) : PSs X e t' := ⟨fun p s σ H D I hw => h.run p s σ H D I (i _ _ _ hw)⟩
/-- the judgements over data -/
abbrev DE (X : Cx) (G : GT) (W : WX) (e : Expr) (m : DEnv → Store → Out Dv) : Prop := PE X e (tE G W m)
abbrev DT (X : Cx) (G : GT) (W : WX) (e : Expr) (m : DEnv → Store → Out Bool) : Prop := PT X e (tT G W m)
abbrev DW (X : Cx) (G : GT) (W : WX) (e : Expr) (m : DEnv → Store → Out Bool) : Prop := PW X e (tT G W m)
abbrev DA (X : Cx) (G : GT) (W : WX) (es : List Expr) (m : DEnv → Store → Out (List Dv)) : Prop := PA X es (tA G W m)

inductive Fl where
  | nx (ρ : DEnv) | bk (ρ : DEnv) | ct (ρ : DEnv) | rt (b : Dv)
def PstS (G : GT) (W : WX) (w : Wd) (o : Out Fl) (D : Ends) : Prop :=
  match o with
  | .ok (.nx ρ) μ' => ∀ w' σ' H', w.le w' → Lay G w' μ' H' → EnvR G w' σ' ρ → D.nx σ' H'
  | .ok (.bk ρ) μ' => ∀ w' σ' H', w.le w' → Lay G w' μ' H' → EnvR G w' σ' ρ → D.bk σ' H'
  | .ok (.ct ρ) μ' => ∀ w' σ' H', w.le w' → Lay G w' μ' H' → EnvR G w' σ' ρ → D.ct σ' H'
  | .ok (.rt b) μ' => ∀ w' v H', w.le w' → Lay G w' μ' H' → Rv G w' v b → D.rt v H'
  | .ex e μ' => ∀ w' cls d σ' H', w.le w' → Lay G w' μ' H' → ExR G w' H' cls d e → W cls d σ' H'
  | .bad => False
theorem PstS.mono {G : GT} {W : WX} {w w' : Wd} {o : Out Fl} {D : Ends} (h : w.le w') (p : PstS G W w o D) : PstS G W w' o D := by
  cases o with
  | ok b μ =>
    cases b with
    | nx ρ => exact fun w2 σ H l => p w2 σ H (h.trans l)
    | bk ρ => exact fun w2 σ H l => p w2 σ H (h.trans l)
    | ct ρ => exact fun w2 σ H l => p w2 σ H (h.trans l)
    | rt v => exact fun w2 v H l => p w2 v H (h.trans l)
  | ex e μ => exact fun w2 c d s H l => p w2 c d s H (h.trans l)
  | bad => exact p
def tS (G : GT) (W : WX) (m : DEnv → Store → Out Fl) : TS := fun D σ H => ∃ w μ ρ, Lay G w μ H ∧ EnvR G w σ ρ ∧ PstS G W w (m ρ μ) D
abbrev DS (X : Cx) (G : GT) (W : WX) (st : Stmt) (m : DEnv → Store → Out Fl) : Prop := PS X st (tS G W m)
abbrev DSs (X : Cx) (G : GT) (W : WX) (st : List Stmt) (m : DEnv → Store → Out Fl) : Prop := PSs X st (tS G W m)
/-- an expression's part of a statement -/
theorem tD.seqS {β γ : Type} {G : GT} {W : WX} {R : Wd → γ → β → Prop} {m : DEnv → Store → Out β} {k : DEnv → β → Store → Out Fl} {σ : L2.St} {H : Hp} {D : Ends} {S : γ → Hp → Prop}
    {w : Wd} {μ : Store} {ρ : DEnv} (hl : Lay G w μ H) (he : EnvR G w σ ρ) (p : PstS G W w ((m ρ μ).bind (k ρ)) D)
    (h : ∀ w1 μ1 H1 v b, w.le w1 → Lay G w1 μ1 H1 → EnvR G w1 σ ρ → R w1 v b → PstS G W w1 (k ρ b μ1) D → S v H1) : tD G W R m σ H S := by
  refine ⟨w, μ, ρ, hl, he, ?_⟩
  cases e : m ρ μ with
  | ok b μ1 =>
    rw [e] at p
    exact fun w1 v H1 l1 lay r => h w1 μ1 H1 v b l1 lay (he.mono l1) r (PstS.mono l1 p)
  | ex x μ1 =>
    rw [e] at p
    exact fun w1 c d H1 l1 lay r => p w1 c d σ H1 l1 lay r
  | bad =>
    rw [e] at p
    exact p.elim
end DL

/-! Rules of the data layer: expressions. -/
namespace DL
open PySem PySem.Spec PyProof.Rows L2
abbrev ME := DEnv → Store → Out Dv
abbrev MT := DEnv → Store → Out Bool
abbrev MA := DEnv → Store → Out (List Dv)
abbrev MS := DEnv → Store → Out Fl
abbrev Op1 := Dv → Store → Out Dv
abbrev Op2 := Dv → Dv → Store → Out Dv
abbrev OpN := List Dv → Store → Out Dv

def eVar (i : Nat) : ME := fun ρ μ => match ρ[i]? with
  | some (some b) => .ok b μ
  | _ => .bad
def eC (b : Dv) : ME := fun _ μ => .ok b μ
def eBad : ME := fun _ _ => .bad
def e1 (f : Op1) (a : ME) : ME := fun ρ μ => (a ρ μ).bind fun x μ => f x μ
def e2 (f : Op2) (a b : ME) : ME := fun ρ μ => (a ρ μ).bind fun x μ => (b ρ μ).bind fun y μ => f x y μ
def asBool : Dv → Store → Out Bool
  | .d (.bool b), μ => .ok b μ
  | _, _ => .bad
/-- an expression that gives a truth, as a test -/
def tV (a : ME) : MT := fun ρ μ => (a ρ μ).bind asBool
def bV (a : MT) : ME := fun ρ μ => (a ρ μ).bind fun b μ => .ok (.d (.bool b)) μ
def tAndM (a b : MT) : MT := fun ρ μ => (a ρ μ).bind fun x μ => if x = true then b ρ μ else .ok false μ
def tOrM (a b : MT) : MT := fun ρ μ => (a ρ μ).bind fun x μ => if x = true then .ok true μ else b ρ μ
def tNotM (a : MT) : MT := fun ρ μ => (a ρ μ).bind fun x μ => .ok (!x) μ
def eAnd (a b : ME) : ME := fun ρ μ => (a ρ μ).bind fun x μ => (asBool x μ).bind fun k μ => if k = true then b ρ μ else .ok (.d (.bool false)) μ
def eOr (a b : ME) : ME := fun ρ μ => (a ρ μ).bind fun x μ => (asBool x μ).bind fun k μ => if k = true then .ok (.d (.bool true)) μ else b ρ μ
def eNot (a : ME) : ME := fun ρ μ => (a ρ μ).bind fun x μ => (asBool x μ).bind fun k μ => .ok (.d (.bool (!k))) μ
def eIf (c : MT) (a b : ME) : ME := fun ρ μ => (c ρ μ).bind fun x μ => if x = true then a ρ μ else b ρ μ
def eChain (f g : Op2) (a b c : ME) : ME := fun ρ μ => (a ρ μ).bind fun x μ => (b ρ μ).bind fun y μ => (f x y μ).bind fun z μ => (asBool z μ).bind fun k μ =>
  if k = true then (c ρ μ).bind fun u μ => g y u μ else .ok (.d (.bool false)) μ
def aNil : MA := fun _ μ => .ok [] μ
def aCons (a : ME) (r : MA) : MA := fun ρ μ => (a ρ μ).bind fun x μ => (r ρ μ).bind fun xs μ => .ok (x :: xs) μ
def eN (f : OpN) (a : MA) : ME := fun ρ μ => (a ρ μ).bind fun xs μ => f xs μ
def eMth (f : Dv → OpN) (o : ME) (a : MA) : ME := fun ρ μ => (o ρ μ).bind fun x μ => (a ρ μ).bind fun xs μ => f x xs μ

/-- what an operation's rule asks follows from what is wanted of its data -/
def Ok1 (G : GT) (r : V → Hp → VK → Prop) (f : Op1) : Prop := ∀ (W : WX) (σ : L2.St) (w : Wd) (μ : Store) (H : Hp) (x : V) (b : Dv) (Q : VK), Lay G w μ H → Rv G w x b → Pst G W σ (Rv G) w (f b μ) Q → r x H Q
def Ok2 (G : GT) (r : R2) (f : Op2) : Prop := ∀ (W : WX) (σ : L2.St) (w : Wd) (μ : Store) (H : Hp) (x y : V) (b c : Dv) (Q : VK), Lay G w μ H → Rv G w x b → Rv G w y c → Pst G W σ (Rv G) w (f b c μ) Q → r x y H Q
def OkN (G : GT) (r : List V → Hp → VK → Prop) (f : OpN) : Prop := ∀ (W : WX) (σ : L2.St) (w : Wd) (μ : Store) (H : Hp) (xs : List V) (bs : List Dv) (Q : VK), Lay G w μ H → Rvs G w xs bs → Pst G W σ (Rv G) w (f bs μ) Q → r xs H Q
theorem Ok2.or1 {G : GT} {r r' : R2} {f : Op2} (h : Ok2 G r f) : Ok2 G (fun x y H Q => r x y H Q ∨ r' x y H Q) f := fun W σ w μ H x y b c Q l rx ry p => .inl (h W σ w μ H x y b c Q l rx ry p)

section
variable {X : Cx} {G : GT} {W : WX} {a b c e o : Expr} {es : List Expr} {ma mb mc mo : ME} {ta tb tc : MT} {mas : MA} {pos p : Pos} {x : Str} {rest : List Expr}
theorem de_var (i : Nat) {x : Str} (hN : X.N[i]? = some x := by rfl) (hv : Vis X.env.scope x := by first | exact Or.inl rfl | exact Or.inr (Or.inl rfl) | exact Or.inr (Or.inr rfl)) (hd : (x == ("__debug__" : Str)) = false := by decide)
    (hcd : (x == ("__classdict__" : Str)) = false := by decide) : DE X G W (.Name x pos) (eVar i) := by
  refine PE.imp (pe_var hN hv hd hcd) ?_
  rintro σ H Q ⟨w, μ, ρ, hl, he, p⟩
  unfold eVar at p
  cases q : ρ[i]? with
  | none => rw [q] at p; exact p.elim
  | some z =>
    cases z with
    | none => rw [q] at p; exact p.elim
    | some b =>
      rw [q] at p
      obtain ⟨v, h1, h2⟩ := he.2 i b q
      exact ⟨v, h1, p w v H w.le_refl hl h2⟩
/-- what is told of any value that is there at once -/
theorem tC_imp {v : V} {b : Dv} (h : ∀ w, Rv G w v b) : ∀ σ H Q, tE G W (eC b) σ H Q → tC v σ H Q := by
  rintro σ H Q ⟨w, μ, ρ, hl, he, p⟩
  exact p w v H w.le_refl hl (h w)
theorem de_int {i j} : DE X G W (.Constant (.int i) j pos) (eC (.d (.int i))) := PE.imp pe_int (tC_imp fun _ => .int i)
theorem de_bl {b j} : DE X G W (.Constant (.bool b) j pos) (eC (.d (.bool b))) := PE.imp pe_bl (tC_imp fun _ => .bl b)
theorem de_non {j} : DE X G W (.Constant .none j pos) (eC (.d .none)) := PE.imp pe_non (tC_imp fun _ => .non)
theorem de_str {x j} : DE X G W (.Constant (.str x) j pos) (eC (.d (.str x))) := PE.imp pe_str (tC_imp fun _ => .str x)
theorem de_glob {v : V} {u : Value} {b : Dv} (hg : Gl X x) (hm : X.mg x = some u) (r : RelV v u) (h : ∀ w, Rv G w v b) (hd : (x == ("__debug__" : Str)) = false := by decide) : DE X G W (.Name x pos) (eC b) := PE.imp (pe_glob hg hm r hd) (tC_imp h)
theorem de_bad {t : TE} (h : PE X e t) : DE X G W e eBad := PE.imp h (by rintro σ H Q ⟨w, μ, ρ, hl, he, p⟩; exact p.elim)
theorem de_op {op : Operator} {r : R2} {f : Op2} (ho : OpR X (binaryOp op) r) (h : Ok2 G r f) (ha : DE X G W a ma) (hb : DE X G W b mb) : DE X G W (.BinOp a op b pos) (e2 f ma mb) := by
  refine PE.imp (pe_op ho ha hb) ?_
  rintro σ H Q ⟨w, μ, ρ, hl, he, p⟩
  exact tD.seq (k := fun ρ x μ => (mb ρ μ).bind fun y μ => f x y μ) hl he p fun w1 μ1 H1 v b l1 lay1 e1 r1 p1 => tD.seq (k := fun ρ y μ => f b y μ) lay1 e1 p1 fun w2 μ2 H2 v2 b2 l2 lay2 e2 r2 p2 => h W σ w2 μ2 H2 v v2 b b2 Q lay2 (r1.mono l2) r2 p2
theorem de_un {op : UnaryOp} {r : V → Hp → VK → Prop} {f : Op1} (ho : UnR X (unaryOp op) r) (h : Ok1 G r f) (ha : DE X G W a ma) : DE X G W (.UnaryOp op a pos) (e1 f ma) := by
  refine PE.imp (pe_un ho ha) ?_
  rintro σ H Q ⟨w, μ, ρ, hl, he, p⟩
  exact tD.seq (k := fun ρ x μ => f x μ) hl he p fun w1 μ1 H1 v b l1 lay1 e1 r1 p1 => h W σ w1 μ1 H1 v b Q lay1 r1 p1
theorem op_imp {r : R2} {f : Op2} (h : Ok2 G r f) : ∀ σ H Q, tE G W (e2 f ma mb) σ H Q → tOp r (tE G W ma) (tE G W mb) σ H Q := by
  rintro σ H Q ⟨w, μ, ρ, hl, he, p⟩
  exact tD.seq (k := fun ρ x μ => (mb ρ μ).bind fun y μ => f x y μ) hl he p fun w1 μ1 H1 v b l1 lay1 e1 r1 p1 => tD.seq (k := fun ρ y μ => f b y μ) lay1 e1 p1 fun w2 μ2 H2 v2 b2 l2 lay2 e2 r2 p2 => h W σ w2 μ2 H2 v v2 b b2 Q lay2 (r1.mono l2) r2 p2
theorem de_cmp {op : CmpOp} {r : R2} {f : Op2} (ho : OpR X (compareOp op) r) (h : Ok2 G r f) (ha : DE X G W a ma) (hb : DE X G W b mb) (hm : behindInMarks op b = false := by first | rfl | exact nomark _ | with_unfolding_all rfl) : DE X G W (.Compare a [op] [b] pos) (e2 f ma mb) :=
  PE.imp (pe_cmpR ho ha hb hm) (op_imp h)
/-- a value as a test -/
theorem test_imp {m : ME} : ∀ σ H Q, tT G W (tV m) σ H Q → tTest (tE G W m) σ H Q := by
  rintro σ H Q ⟨w, μ, ρ, hl, he, p⟩
  refine tD.seq (k := fun ρ x μ => asBool x μ) hl he p fun w1 μ1 H1 v b l1 lay1 e1 r1 p1 => ?_
  cases b with
  | d x =>
    cases x with
    | bool k =>
      have r1 : Rp G.K w1.I v (.bool k) := r1
      cases r1
      exact ⟨k, rfl, p1 w1 k H1 w1.le_refl lay1 rfl⟩
    | _ => exact p1.elim
  | _ => exact p1.elim
theorem tTest.imp {t t' : TE} (h : ∀ σ H Q, t' σ H Q → t σ H Q) : ∀ σ H Q, tTest t' σ H Q → tTest t σ H Q := fun σ H Q q => h _ _ _ q
theorem dt_cmp {op : CmpOp} {r : R2} {f : Op2} (ho : OpR X (compareOp op) r) (h : Ok2 G r f) (ha : DE X G W a ma) (hb : DE X G W b mb) (hm : behindInMarks op b = false := by first | rfl | exact nomark _ | with_unfolding_all rfl) : DT X G W (.Compare a [op] [b] pos) (tV (e2 f ma mb)) :=
  PT.imp (pt_cmpR ho ha hb hm) fun σ H Q q => tTest.imp (op_imp h) σ H Q (test_imp σ H Q q)
theorem dt_val (h : DE X G W e ma) (he : ∀ whole, isTrue e X.env whole = (do let v ← whole; standAt e.pos; holding [v] (truthy v)) := by intro _; rfl) : DT X G W e (tV ma) := PT.imp (pt_val h he) test_imp
theorem chain_imp {r r' : R2} {f g : Op2} (h : Ok2 G r f) (h' : Ok2 G r' g) : ∀ σ H Q, tE G W (eChain f g ma mb mc) σ H Q → tChain r r' (tE G W ma) (tE G W mb) (tE G W mc) σ H Q := by
  rintro σ H Q ⟨w, μ, ρ, hl, he, p⟩
  refine tD.seq (k := fun ρ x μ => (mb ρ μ).bind fun y μ => (f x y μ).bind fun z μ => (asBool z μ).bind fun k μ => if k = true then (mc ρ μ).bind fun u μ => g y u μ else .ok (.d (.bool false)) μ) hl he p fun w1 μ1 H1 v b l1 lay1 en1 r1 p1 => ?_
  refine tD.seq (k := fun ρ y μ => (f b y μ).bind fun z μ => (asBool z μ).bind fun k μ => if k = true then (mc ρ μ).bind fun u μ => g y u μ else .ok (.d (.bool false)) μ) lay1 en1 p1 fun w2 μ2 H2 v2 b2 l2 lay2 en2 r2 p2 => ?_
  refine h W σ w2 μ2 H2 v v2 b b2 _ lay2 (r1.mono l2) r2 ?_
  cases q : f b b2 μ2 with
  | bad => rw [q] at p2; exact p2.elim
  | ex e μ3 => rw [q] at p2; exact p2
  | ok z μ3 =>
    rw [q] at p2
    intro w3 v3 H3 l3 lay3 r3
    cases z with
    | d zz =>
      cases zz with
      | bool k =>
        have r3 : Rp G.K w3.I v3 (.bool k) := r3
        cases r3
        refine ⟨k, rfl, ?_⟩
        have p3 := Pst.mono l3 p2
        cases k with
        | false => exact p3 w3 (.bl false) H3 w3.le_refl lay3 (.bl false)
        | true => exact tD.seq (k := fun ρ u μ => g b2 u μ) lay3 (en2.mono l3) p3 fun w4 μ4 H4 v4 b4 l4 lay4 en4 r4 p4 => h' W σ w4 μ4 H4 v2 v4 b2 b4 Q lay4 (r2.mono (l3.trans l4)) r4 p4
      | _ => exact p2.elim
    | _ => exact p2.elim
theorem de_chain {op op' : CmpOp} {r r' : R2} {f g : Op2} (ho : OpR X (compareOp op) r) (h : Ok2 G r f) (ho' : OpR X (compareOp op') r') (h' : Ok2 G r' g) (ha : DE X G W a ma) (hb : DE X G W b mb) (hc : DE X G W c mc)
    (hm : lastMarks [op, op'] [b, c] = false := by with_unfolding_all rfl) : DE X G W (.Compare a [op, op'] [b, c] pos) (eChain f g ma mb mc) := PE.imp (pe_chain ho ho' ha hb hc hm) (chain_imp h h')
theorem dt_chain {op op' : CmpOp} {r r' : R2} {f g : Op2} (ho : OpR X (compareOp op) r) (h : Ok2 G r f) (ho' : OpR X (compareOp op') r') (h' : Ok2 G r' g) (ha : DE X G W a ma) (hb : DE X G W b mb) (hc : DE X G W c mc)
    (hm : lastMarks [op, op'] [b, c] = false := by with_unfolding_all rfl) : DT X G W (.Compare a [op, op'] [b, c] pos) (tV (eChain f g ma mb mc)) :=
  PT.imp (pt_chain ho ho' ha hb hc hm) fun σ H Q q => tTest.imp (chain_imp h h') σ H Q (test_imp σ H Q q)

/-! and, or, not -/
theorem dw_pt (h : DW X G W e ta) : DT X G W e ta := h.pt
theorem dw_and1 (h : DT X G W a ta) : DW X G W (.BoolOp .And [a] pos) ta := pw_and1 h
theorem dw_or1 (h : DT X G W a ta) : DW X G W (.BoolOp .Or [a] pos) ta := pw_or1 h
theorem dw_and (ha : DT X G W a ta) (hb : DW X G W (.BoolOp .And (b :: rest) pos) tb) : DW X G W (.BoolOp .And (a :: b :: rest) pos) (tAndM ta tb) := by
  refine PW.imp (pw_and ha hb) ?_
  rintro σ H Q ⟨w, μ, ρ, hl, he, p⟩
  refine tD.seq (k := fun ρ x μ => if x = true then tb ρ μ else .ok false μ) hl he p fun w1 μ1 H1 v b l1 lay1 en1 r1 p1 => ?_
  have r1 : v = b := r1
  subst r1
  cases v with
  | true => exact ⟨w1, μ1, ρ, lay1, en1, p1⟩
  | false => exact p1 w1 false H1 w1.le_refl lay1 rfl
theorem dw_or (ha : DT X G W a ta) (hb : DW X G W (.BoolOp .Or (b :: rest) pos) tb) : DW X G W (.BoolOp .Or (a :: b :: rest) pos) (tOrM ta tb) := by
  refine PW.imp (pw_or ha hb) ?_
  rintro σ H Q ⟨w, μ, ρ, hl, he, p⟩
  refine tD.seq (k := fun ρ x μ => if x = true then .ok true μ else tb ρ μ) hl he p fun w1 μ1 H1 v b l1 lay1 en1 r1 p1 => ?_
  have r1 : v = b := r1
  subst r1
  cases v with
  | false => exact ⟨w1, μ1, ρ, lay1, en1, p1⟩
  | true => exact p1 w1 true H1 w1.le_refl lay1 rfl
theorem dt_not (ha : DT X G W a ta) : DT X G W (.UnaryOp .Not a pos) (tNotM ta) := by
  refine PT.imp (pt_not ha) ?_
  rintro σ H Q ⟨w, μ, ρ, hl, he, p⟩
  refine tD.seq (k := fun ρ x μ => .ok (!x) μ) hl he p fun w1 μ1 H1 v b l1 lay1 en1 r1 p1 => ?_
  have r1 : v = b := r1
  subst r1
  exact p1 w1 (!v) H1 w1.le_refl lay1 rfl
theorem de_one {op} (h : DE X G W a ma) : DE X G W (.BoolOp op [a] pos) ma := pe_one h
theorem bool_imp {α : Type} {R : Wd → α → Dv → Prop} {k : Bool → Store → Out Dv} {σ : L2.St} {w : Wd} {μ : Store} {Q : V → Hp → Prop} {v : V} {b : Dv} (r : Rv G w v b) (p : Pst G W σ (Rv G) w ((asBool b μ).bind k) Q) : ∃ t, v = .bl t ∧ b = .d (.bool t) ∧ Pst G W σ (Rv G) w (k t μ) Q := by
  cases b with
  | d x =>
    cases x with
    | bool t =>
      have r : Rp G.K w.I v (.bool t) := r
      cases r
      exact ⟨t, rfl, rfl, p⟩
    | _ => exact p.elim
  | _ => exact p.elim
theorem de_and (ha : DE X G W a ma) (hb : DE X G W (.BoolOp .And (b :: rest) pos) mb) : DE X G W (.BoolOp .And (a :: b :: rest) pos) (eAnd ma mb) := by
  refine PE.imp (pe_and ha hb) ?_
  rintro σ H Q ⟨w, μ, ρ, hl, he, p⟩
  refine tD.seq (k := fun ρ x μ => (asBool x μ).bind fun k μ => if k = true then mb ρ μ else .ok (.d (.bool false)) μ) hl he p fun w1 μ1 H1 v b l1 lay1 en1 r1 p1 => ?_
  obtain ⟨t, rfl, rfl, p1⟩ := bool_imp (α := V) (R := Rv G) r1 p1
  refine ⟨t, rfl, ?_⟩
  cases t with
  | true => exact ⟨w1, μ1, ρ, lay1, en1, p1⟩
  | false => exact p1 w1 _ H1 w1.le_refl lay1 (.bl false)
theorem de_or (ha : DE X G W a ma) (hb : DE X G W (.BoolOp .Or (b :: rest) pos) mb) : DE X G W (.BoolOp .Or (a :: b :: rest) pos) (eOr ma mb) := by
  refine PE.imp (pe_or ha hb) ?_
  rintro σ H Q ⟨w, μ, ρ, hl, he, p⟩
  refine tD.seq (k := fun ρ x μ => (asBool x μ).bind fun k μ => if k = true then .ok (.d (.bool true)) μ else mb ρ μ) hl he p fun w1 μ1 H1 v b l1 lay1 en1 r1 p1 => ?_
  obtain ⟨t, rfl, rfl, p1⟩ := bool_imp (α := V) (R := Rv G) r1 p1
  refine ⟨t, rfl, ?_⟩
  cases t with
  | false => exact ⟨w1, μ1, ρ, lay1, en1, p1⟩
  | true => exact p1 w1 _ H1 w1.le_refl lay1 (.bl true)
theorem de_not (ha : DE X G W a ma) : DE X G W (.UnaryOp .Not a pos) (eNot ma) := by
  refine PE.imp (pe_not ha) ?_
  rintro σ H Q ⟨w, μ, ρ, hl, he, p⟩
  refine tD.seq (k := fun ρ x μ => (asBool x μ).bind fun k μ => Out.ok (Dv.d (.bool (!k))) μ) hl he p fun w1 μ1 H1 v b l1 lay1 en1 r1 p1 => ?_
  obtain ⟨t, rfl, rfl, p1⟩ := bool_imp (α := V) (R := Rv G) r1 p1
  exact ⟨t, rfl, p1 w1 _ H1 w1.le_refl lay1 (.bl _)⟩
theorem de_ifExp (hc : DT X G W c tc) (ha : DE X G W a ma) (hb : DE X G W b mb) : DE X G W (.IfExp c a b pos) (eIf tc ma mb) := by
  refine PE.imp (pe_ifExp hc ha hb) ?_
  rintro σ H Q ⟨w, μ, ρ, hl, he, p⟩
  refine tD.seq (k := fun ρ x μ => if x = true then ma ρ μ else mb ρ μ) hl he p fun w1 μ1 H1 v b l1 lay1 en1 r1 p1 => ?_
  have r1 : v = b := r1
  subst r1
  cases v with
  | true => exact ⟨w1, μ1, ρ, lay1, en1, p1⟩
  | false => exact ⟨w1, μ1, ρ, lay1, en1, p1⟩

/-! arguments, calls -/
theorem da_nil : DA X G W [] aNil := by
  refine PA.imp pa_nil ?_
  rintro σ H Q ⟨w, μ, ρ, hl, he, p⟩
  exact p w [] H w.le_refl hl .nil
theorem acons_imp {mr : MA} : ∀ σ H Q, tA G W (aCons ma mr) σ H Q → tCons (tE G W ma) (tA G W mr) σ H Q := by
  rintro σ H Q ⟨w, μ, ρ, hl, he, p⟩
  refine tD.seq (k := fun ρ x μ => (mr ρ μ).bind fun xs μ => .ok (x :: xs) μ) hl he p fun w1 μ1 H1 v b l1 lay1 en1 r1 p1 => ?_
  refine tD.seq (k := fun ρ xs μ => .ok (b :: xs) μ) lay1 en1 p1 fun w2 μ2 H2 vs bs l2 lay2 en2 r2 p2 => ?_
  exact p2 w2 _ H2 w2.le_refl lay2 (.cons (r1.mono l2) r2)
theorem da_cons {mr : MA} (ha : DE X G W e ma) (hr : DA X G W es mr) (hs : starEach (e :: es) X.env = (false, eval e X.env) :: starEach es X.env := by rfl) : DA X G W (e :: es) (aCons ma mr) := PA.imp (pa_cons ha hr hs) acons_imp
theorem args_imp {r : List V → Hp → VK → Prop} {f : OpN} (h : OkN G r f) : ∀ σ H Q, tE G W (eN f mas) σ H Q → tCB r (tA G W mas) σ H Q := by
  rintro σ H Q ⟨w, μ, ρ, hl, he, p⟩
  exact tD.seq (k := fun ρ xs μ => f xs μ) hl he p fun w1 μ1 H1 v b l1 lay1 en1 r1 p1 => h W σ w1 μ1 H1 v b Q lay1 r1 p1
theorem de_callB {id : String} {r : List V → Hp → VK → Prop} {f : OpN} (hc : CallR X (.builtin id) r) (h : OkN G r f) (hg : Gl X x) (hm : X.mg x = none) (hv : bootBuiltins x = some (.builtin id)) (ha : DA X G W (e :: es) mas) (hn : x ≠ "__name__" := by decide) (hdb : (x == ("__debug__" : Str)) = false := by decide)
    (he : starEach (e :: es) X.env = (false, eval e X.env) :: starEach es X.env := by rfl) (hpl : (backTo pos (starEach es X.env)).any (·.1) = false := by rfl) : DE X G W (.Call (.Name x p) (e :: es) [] pos) (eN f mas) :=
  PE.imp (pe_callB hc hg hm hv ha hn hdb he hpl) (args_imp h)
theorem de_callTy {T : String} {r : List V → Hp → VK → Prop} {f : OpN} (hc : CallR X (.type T) r) (h : OkN G r f) (hg : Gl X x) (hm : X.mg x = none) (hv : bootBuiltins x = some (.type T)) (ha : DA X G W (e :: es) mas) (hn : x ≠ "__name__" := by decide) (hdb : (x == ("__debug__" : Str)) = false := by decide)
    (he : starEach (e :: es) X.env = (false, eval e X.env) :: starEach es X.env := by rfl) (hpl : (backTo pos (starEach es X.env)).any (·.1) = false := by rfl) : DE X G W (.Call (.Name x p) (e :: es) [] pos) (eN f mas) :=
  PE.imp (pe_callTy hc hg hm hv ha hn hdb he hpl) (args_imp h)
end

/-! ### a def's promise, its call -/
def PstF (G : GT) (w : Wd) (o : Out Dv) (Q : VK) (E : XK) : Prop :=
  match o with
  | .ok b μ' => ∀ w' v H', w.le w' → Lay G w' μ' H' → Rv G w' v b → Q v H'
  | .ex e μ' => ∀ w' cls d H', w.le w' → Lay G w' μ' H' → ExR G w' H' cls d e → E cls d H'
  | .bad => False
def spD (G : GT) (n : Nat) (F : OpN) : Sp := fun vs H Q E => vs.length = n ∧ ∃ w μ bs, Lay G w μ H ∧ Rvs G w vs bs ∧ PstF G w (F bs μ) Q E
section
variable {X : Cx} {G : GT} {W : WX} {a b c e o : Expr} {es : List Expr} {ma mb mc mo : ME} {mas mks : MA} {pos p : Pos} {x : Str} {k n : Nat} {f : Addr} {fd : FuncData} {ps : List Str} {F : OpN}
theorem call_imp : ∀ σ H Q, tE G W (eN (fun bs μ => if bs.length = n then F bs μ else .bad) mas) σ H Q → tCallSD (spD G n F) [] (WE W) (tA G W mas) σ H Q := by
  rintro σ H Q ⟨w, μ, ρ, hl, he, p⟩
  refine tD.seq (k := fun ρ bs μ => if bs.length = n then F bs μ else .bad) hl he p fun w1 μ1 H1 v b l1 lay1 en1 r1 p1 => ?_
  by_cases q : b.length = n
  · rw [if_pos q] at p1
    rw [List.append_nil]
    refine ⟨by rw [Paired.length r1]; exact q, w1, μ1, b, lay1, r1, ?_⟩
    cases z : F b μ1 with
    | ok c μ2 => rw [z] at p1; exact p1
    | ex c μ2 => rw [z] at p1; exact p1
    | bad => rw [z] at p1; exact p1
  · rw [if_neg q] at p1
    exact p1.elim
def fCall (n : Nat) (F : OpN) : OpN := fun bs μ => if bs.length = n then F bs μ else .bad
theorem de_call (hF : FnOk X.prog X.w X.K X.mg X.base (L2.CX X.prog X.w) k f fd ps (spD G n F)) (hr : Room k X.A) (hg : Gl X x) (hm : X.mg x = some (.ref f)) (hk : PySem.W.keepIn X.K (.ref f) = true) (hb : Binds X.K fd ps []) (tk : Takes X W)
    (ha : DA X G W (e :: es) mas) (hdb : (x == ("__debug__" : Str)) = false := by decide) (he : starEach (e :: es) X.env = (false, eval e X.env) :: starEach es X.env := by rfl) (hpl : (backTo pos (starEach es X.env)).any (·.1) = false := by rfl) :
    DE X G W (.Call (.Name x p) (e :: es) [] pos) (eN (fCall n F) mas) :=
  PE.imp (pe_callSD hF hr hg hm hk hb .nil (fun σ => passAt tk σ) ha hdb he hpl) call_imp
end
end DL

/-! Rules of the data layer: statements, loops, bodies. -/
namespace DL
open PySem PySem.Spec PyProof.Rows L2

def sNext : MS := fun ρ μ => .ok (.nx ρ) μ
def sBreak : MS := fun ρ μ => .ok (.bk ρ) μ
def sCont : MS := fun ρ μ => .ok (.ct ρ) μ
def sBad : MS := fun _ _ => .bad
def sDrop (m : ME) : MS := fun ρ μ => (m ρ μ).bind fun _ μ => .ok (.nx ρ) μ
def sRet (m : ME) : MS := fun ρ μ => (m ρ μ).bind fun b μ => .ok (.rt b) μ
def sRetN : MS := fun _ μ => .ok (.rt (.d .none)) μ
def sIf (c : MT) (a b : MS) : MS := fun ρ μ => (c ρ μ).bind fun x μ => if x = true then a ρ μ else b ρ μ
def seqF (u : MS) : Fl → Store → Out Fl
  | .nx ρ, μ => u ρ μ
  | f, μ => .ok f μ
def sSeq (t u : MS) : MS := fun ρ μ => (t ρ μ).bind (seqF u)
abbrev MG := Dv → DEnv → Store → Out DEnv
abbrev MGs := List Dv → DEnv → Store → Out DEnv
def gN (i : Nat) : MG := fun b ρ μ => .ok (ρ.set i (some b)) μ
def gsNil : MGs := fun bs ρ μ => match bs with
  | [] => .ok ρ μ
  | _ => .bad
def gsCons (g : MG) (r : MGs) : MGs := fun bs ρ μ => match bs with
  | b :: t => (g b ρ μ).bind fun ρ μ => r t ρ μ
  | [] => .bad
def gT (n : Nat) (g : MGs) : MG := fun b ρ μ => match b with
  | .d (.tuple ds) => if ds.length = n then g (ds.map .d) ρ μ else .bad
  | _ => .bad
def Out.gb {β γ : Type} : Out β → (β → Store → Out γ) → Out γ
  | .ok b μ, k => k b μ
  | _, _ => .bad
@[simp] theorem gb_ok {β γ : Type} (b : β) (μ : Store) (k : β → Store → Out γ) : (Out.ok b μ).gb k = k b μ := rfl
def sAsg (m : ME) (g : MG) : MS := fun ρ μ => (m ρ μ).bind fun b μ => (g b ρ μ).gb fun ρ μ => .ok (.nx ρ) μ
def sSet (i : Nat) (m : ME) : MS := fun ρ μ => (m ρ μ).bind fun b μ => .ok (.nx (ρ.set i (some b))) μ
def parF (i j : Nat) (ρ : DEnv) : List Dv → Store → Out Fl
  | [b, c], μ => .ok (.nx ((ρ.set i (some b)).set j (some c))) μ
  | _, _ => .bad
def sPar (i j : Nat) (m : MA) : MS := fun ρ μ => (m ρ μ).bind (parF i j ρ)
def sAug (i : Nat) (m : ME) (f : Op2) : MS := fun ρ μ => match ρ[i]? with
  | some (some x) => (m ρ μ).bind fun y μ => (f x y μ).bind fun z μ => .ok (.nx (ρ.set i (some z))) μ
  | _ => .bad

/-- alike but at some slots -/
def Agr (S : List Nat) (σ σ' : L2.St) : Prop := σ'.length = σ.length ∧ ∀ i, i ∉ S → σ'[i]? = σ[i]?
theorem Agr.refl (σ : L2.St) : Agr [] σ σ := ⟨rfl, fun _ _ => rfl⟩
theorem Agr.trans {S T : List Nat} {a b c : L2.St} (h : Agr S a b) (k : Agr T b c) : Agr (S ++ T) a c :=
  ⟨k.1.trans h.1, fun i hi => (k.2 i fun z => hi (List.mem_append_right _ z)).trans (h.2 i fun z => hi (List.mem_append_left _ z))⟩
theorem Agr.set (σ : L2.St) (i : Nat) (v : Option V) : Agr [i] σ (σ.set i v) := ⟨List.length_set, fun j hj => List.getElem?_set_ne fun e => hj (by rw [e]; exact List.mem_singleton.mpr rfl)⟩
def PstG (G : GT) (w : Wd) (S : List Nat) (σ : L2.St) (o : Out DEnv) (Q : L2.St → Hp → Prop) : Prop :=
  match o with
  | .ok ρ μ' => ∀ w' σ' H', w.le w' → Lay G w' μ' H' → EnvR G w' σ' ρ → Agr S σ σ' → Q σ' H'
  | _ => False
theorem PstG.mono {G : GT} {w w' : Wd} {S : List Nat} {σ : L2.St} {o : Out DEnv} {Q : L2.St → Hp → Prop} (h : w.le w') (p : PstG G w S σ o Q) : PstG G w' S σ o Q := by
  cases o with
  | ok ρ μ => exact fun w2 σ H l => p w2 σ H (h.trans l)
  | ex e μ => exact p
  | bad => exact p
def tG (G : GT) (S : List Nat) (g : MG) : TG := fun v σ H Q => ∃ w μ ρ b, Lay G w μ H ∧ EnvR G w σ ρ ∧ Rv G w v b ∧ PstG G w S σ (g b ρ μ) Q
def tGs (G : GT) (S : List Nat) (g : MGs) : TGs := fun vs σ H Q => ∃ w μ ρ bs, Lay G w μ H ∧ EnvR G w σ ρ ∧ Rvs G w vs bs ∧ PstG G w S σ (g bs ρ μ) Q
abbrev DG (X : Cx) (G : GT) (S : List Nat) (tg : Expr) (g : MG) : Prop := PG X tg (tG G S g)
abbrev DGs (X : Cx) (G : GT) (S : List Nat) (ts : List Expr) (g : MGs) : Prop := PGs X ts (tGs G S g)
theorem PG.imp {X : Cx} {e : Expr} {t t' : TG} (h : PG X e t) (i : ∀ v σ H Q, t' v σ H Q → t v σ H Q) : PG X e t' := ⟨fun p s σ H v u Q I r hw => h.run p s σ H v u Q I r (i _ _ _ _ hw)⟩
theorem PGs.imp {X : Cx} {e : List Expr} {t t' : TGs} (h : PGs X e t) (i : ∀ v σ H Q, t' v σ H Q → t v σ H Q) : PGs X e t' := ⟨fun p s σ H v u Q I r hw => h.run p s σ H v u Q I r (i _ _ _ _ hw)⟩
theorem Rvs_of_RpA {G : GT} {w : Wd} : ∀ {ds : List D} {vs : List V}, RpA G.K w.I vs ds → Rvs G w vs (ds.map .d)
  | _, _, .nil => .nil
  | _, _, .cons r t => .cons r (Rvs_of_RpA t)

section
variable {X : Cx} {G : GT} {W : WX} {a b c e o tg : Expr} {es : List Expr} {ma mb mc mo m : ME} {ta tb tc : MT} {mas : MA} {pos p : Pos} {x : Str} {st : Stmt} {rest body : List Stmt} {ms mt mu mv : MS} {g : MG} {gs : MGs} {S T : List Nat}
theorem dg_name {i : Nat} {x : Str} (hN : X.N.Nodup) (hi : X.N[i]? = some x := by rfl) (hx : Loc X.env.scope x := by first | exact Or.inl rfl | exact Or.inr rfl) (hf : X.fn x = true ∨ X.env.scope.names.lookup x = some .local := by first | exact .inl rfl | exact .inr rfl | assumption) : DG X G [i] (.Name x pos) (gN i) := by
  refine PG.imp (pg_name hN hi hx hf) ?_
  rintro v σ H Q ⟨w, μ, ρ, b, hl, he, r, p⟩
  exact p w _ H w.le_refl hl (he.set i r) (Agr.set σ i _)
theorem dgs_nil : DGs X G [] [] gsNil := by
  refine PGs.imp pgs_nil ?_
  rintro v σ H Q ⟨w, μ, ρ, bs, hl, he, r, p⟩
  cases r with
  | nil => exact ⟨rfl, p w σ H w.le_refl hl he (Agr.refl σ)⟩
  | cons _ _ => exact p.elim
theorem dgs_cons (h1 : DG X G S e g) (h2 : DGs X G T es gs) (hs : (assignEach (e :: es) X.env).map (·.2) = assign e X.env :: (assignEach es X.env).map (·.2) := by rfl) : DGs X G (S ++ T) (e :: es) (gsCons g gs) := by
  refine PGs.imp (pgs_cons h1 h2 hs) ?_
  rintro vs σ H Q ⟨w, μ, ρ, bs, hl, he, r, p⟩
  cases r with
  | nil => exact p.elim
  | @cons v b vs bs rv rr =>
    refine ⟨v, vs, rfl, w, μ, ρ, b, hl, he, rv, ?_⟩
    have p : PstG G w (S ++ T) σ ((g b ρ μ).bind fun ρ μ => gs bs ρ μ) Q := p
    cases q : g b ρ μ with
    | bad => rw [q] at p; exact p.elim
    | ex _ _ => rw [q] at p; exact p.elim
    | ok ρ1 μ1 =>
      rw [q] at p
      have p : PstG G w (S ++ T) σ (gs bs ρ1 μ1) Q := p
      refine fun w1 σ1 H1 l1 lay1 en1 ag => ⟨w1, μ1, ρ1, bs, lay1, en1, Rvs.mono l1 rr, ?_⟩
      cases q2 : gs bs ρ1 μ1 with
      | bad => rw [q2] at p; exact p.elim
      | ex _ _ => rw [q2] at p; exact p.elim
      | ok ρ2 μ2 =>
        rw [q2] at p
        exact fun w2 σ2 H2 l2 lay2 en2 ag2 => p w2 σ2 H2 (l1.trans l2) lay2 en2 (ag.trans ag2)
theorem dg_tup {k n : Nat} (hc : X.calm = true) (hK : X.K = G.K) (h : DGs X G S es gs) (hn : (assignEach es X.env).length = n := by rfl) (hst : (assignEach es X.env).findIdx? (·.1) = none := by rfl) : DG X G S (.Tuple es k pos) (gT n gs) := by
  refine PG.imp (pg_tup hc h hn hst) ?_
  rintro v σ H Q ⟨w, μ, ρ, b, hl, he, r, p⟩
  cases b with
  | d x =>
    cases x with
    | tuple ds =>
      have r : Rp G.K w.I v (.tuple ds) := r
      cases r with
      | @tup a xs _ hs ha =>
        have p : PstG G w S σ (if ds.length = n then gs (ds.map .d) ρ μ else .bad) Q := p
        by_cases q : ds.length = n
        · rw [if_pos q] at p
          exact ⟨a, xs, rfl, by rw [hK]; exact seqT hl.same hs, by rw [ha.length]; exact q, w, μ, ρ, _, hl, he, Rvs_of_RpA ha, p⟩
        · rw [if_neg q] at p
          exact p.elim
    | _ => exact p.elim
  | _ => exact p.elim

theorem dss_nil : DSs X G W [] sNext := by
  refine PSs.imp pss_nil ?_
  rintro D σ H ⟨w, μ, ρ, hl, he, p⟩
  exact p w σ H w.le_refl hl he
theorem seq_imp : ∀ D σ H, tS G W (sSeq ms mt) D σ H → tSeq (tS G W ms) (tS G W mt) D σ H := by
  rintro D σ H ⟨w, μ, ρ, hl, he, p⟩
  refine ⟨w, μ, ρ, hl, he, ?_⟩
  have p : PstS G W w ((ms ρ μ).bind (seqF mt)) D := p
  cases q : ms ρ μ with
  | bad => rw [q] at p; exact p.elim
  | ex e μ1 => rw [q] at p; exact p
  | ok f μ1 =>
    rw [q] at p
    cases f with
    | nx ρ1 => exact fun w1 σ1 H1 l1 lay1 en1 => ⟨w1, μ1, ρ1, lay1, en1, PstS.mono l1 p⟩
    | bk ρ1 => exact p
    | ct ρ1 => exact p
    | rt v => exact p
theorem dss_cons (h1 : DS X G W st ms) (h2 : DSs X G W rest mt) : DSs X G W (st :: rest) (sSeq ms mt) := PSs.imp (pss_cons h1 h2) seq_imp
theorem dss_one (h1 : DS X G W st ms) : DSs X G W [st] ms := pss_one h1
theorem ds_pass : DS X G W (.Pass pos) sNext := by
  refine PS.imp ps_pass ?_
  rintro D σ H ⟨w, μ, ρ, hl, he, p⟩
  exact p w σ H w.le_refl hl he
theorem ds_break : DS X G W (.Break pos) sBreak := by
  refine PS.imp ps_break ?_
  rintro D σ H ⟨w, μ, ρ, hl, he, p⟩
  exact p w σ H w.le_refl hl he
theorem ds_continue : DS X G W (.Continue pos) sCont := by
  refine PS.imp ps_continue ?_
  rintro D σ H ⟨w, μ, ρ, hl, he, p⟩
  exact p w σ H w.le_refl hl he
theorem ds_never : DS X G W st sBad := by
  refine PS.imp ps_never ?_
  rintro D σ H ⟨w, μ, ρ, hl, he, p⟩
  exact p.elim
theorem dss_never : DSs X G W body sBad := by
  refine PSs.imp pss_never ?_
  rintro D σ H ⟨w, μ, ρ, hl, he, p⟩
  exact p.elim
theorem ds_expr (he : DE X G W e m) (hs : swapsWith e none pos.line X.env = pure false := by rfl) : DS X G W (.Expr e pos) (sDrop m) := by
  refine PS.imp (ps_expr he hs) ?_
  rintro D σ H ⟨w, μ, ρ, hl, he, p⟩
  exact tD.seqS (k := fun ρ _ μ => .ok (.nx ρ) μ) hl he p fun w1 μ1 H1 v b l1 lay1 en1 r1 p1 => p1 w1 σ H1 w1.le_refl lay1 en1
theorem ds_ret (he : DE X G W e m) : DS X G W (.Return (some e) pos) (sRet m) := by
  refine PS.imp (ps_ret he) ?_
  rintro D σ H ⟨w, μ, ρ, hl, he, p⟩
  exact tD.seqS (k := fun ρ b μ => .ok (.rt b) μ) hl he p fun w1 μ1 H1 v b l1 lay1 en1 r1 p1 => p1 w1 v H1 w1.le_refl lay1 r1
theorem ds_retN : DS X G W (.Return none pos) sRetN := by
  refine PS.imp ps_retN ?_
  rintro D σ H ⟨w, μ, ρ, hl, he, p⟩
  exact p w .non H w.le_refl hl .non
theorem ds_if {sa sb : List Stmt} (hc : DT X G W c tc) (ha : DSs X G W sa ms) (hb : DSs X G W sb mt) : DS X G W (.If c sa sb pos) (sIf tc ms mt) := by
  refine PS.imp (ps_if hc ha hb) ?_
  rintro D σ H ⟨w, μ, ρ, hl, he, p⟩
  refine tD.seqS (k := fun ρ x μ => if x = true then ms ρ μ else mt ρ μ) hl he p fun w1 μ1 H1 v b l1 lay1 en1 r1 p1 => ?_
  have r1 : v = b := r1
  subst r1
  cases v with
  | true => exact ⟨w1, μ1, ρ, lay1, en1, p1⟩
  | false => exact ⟨w1, μ1, ρ, lay1, en1, p1⟩
theorem asg_imp : ∀ D σ H, tS G W (sAsg m g) D σ H → tAsg (tE G W m) (tG G S g) D σ H := by
  rintro D σ H ⟨w, μ, ρ, hl, he, p⟩
  refine tD.seqS (k := fun ρ b μ => (g b ρ μ).gb fun ρ μ => .ok (.nx ρ) μ) hl he p fun w1 μ1 H1 v b l1 lay1 en1 r1 p1 => ⟨w1, μ1, ρ, b, lay1, en1, r1, ?_⟩
  cases q : g b ρ μ1 with
  | bad => rw [q] at p1; exact p1.elim
  | ex _ _ => rw [q] at p1; exact p1.elim
  | ok ρ2 μ2 =>
    rw [q] at p1
    exact fun w2 σ2 H2 l2 lay2 en2 _ => p1 w2 σ2 H2 l2 lay2 en2
theorem ds_asg (he : DE X G W e m) (hg : DG X G S tg g) (hs : swapsWithSole [tg] e pos.line X.env = pure false := by rfl) (hw : swappedStores [tg] e X.env = pure none := by rfl)
    (h1 : (assignEach [tg] X.env).map (·.2) = [assign tg X.env] := by rfl) : DS X G W (.Assign [tg] e pos) (sAsg m g) := PS.imp (ps_asg he hg hs hw h1) asg_imp
theorem ds_set {i : Nat} {x : Str} {pos' : Pos} (hN : X.N.Nodup) (he : DE X G W e m) (hi : X.N[i]? = some x := by rfl) (hx : Loc X.env.scope x := by first | exact Or.inl rfl | exact Or.inr rfl) (hs : swapsWith e (some (.Name x pos')) pos.line X.env = pure false := by rfl) (hf : X.fn x = true ∨ X.env.scope.names.lookup x = some .local := by first | exact .inl rfl | exact .inr rfl | assumption) :
    DS X G W (.Assign [.Name x pos'] e pos) (sSet i m) := by
  refine PS.imp (ps_set hN hi hx he hs hf) ?_
  rintro D σ H ⟨w, μ, ρ, hl, he, p⟩
  exact tD.seqS (k := fun ρ b μ => .ok (.nx (ρ.set i (some b))) μ) hl he p fun w1 μ1 H1 v b l1 lay1 en1 r1 p1 => p1 w1 _ H1 w1.le_refl lay1 (en1.set i r1)
theorem ds_par {i j : Nat} {x y : Str} {px py pt : Pos} {kt k2 pt2} (hc : X.calm = true) (hN : X.N.Nodup) (ha : DA X G W [a, b] mas) (hi : X.N[i]? = some x := by rfl) (hj : X.N[j]? = some y := by rfl) (hij : i ≠ j := by decide)
    (hx : X.env.scope.names.lookup x = some .local := by rfl) (hy : X.env.scope.names.lookup y = some .local := by rfl)
    (hw : swappedStores [.Tuple [.Name x px, .Name y py] kt pt] (.Tuple [a, b] k2 pt2) X.env = pure (some [x, y]) := by rfl)
    (hs : swapsWithSole [.Tuple [.Name x px, .Name y py] kt pt] (.Tuple [a, b] k2 pt2) pos.line X.env = pure false := by rfl) :
    DS X G W (.Assign [.Tuple [.Name x px, .Name y py] kt pt] (.Tuple [a, b] k2 pt2) pos) (sPar i j mas) := by
  refine PS.imp (ps_par hc hN hi hj hij hx hy ha hw hs) ?_
  rintro D σ H ⟨w, μ, ρ, hl, he, p⟩
  refine tD.seqS (k := parF i j) hl he p fun w1 μ1 H1 vs bs l1 lay1 en1 r1 p1 => ?_
  match bs, r1, p1 with
  | [b, c], .cons r (.cons r' .nil), p1 => exact ⟨_, _, rfl, p1 w1 _ H1 w1.le_refl lay1 ((en1.set i r).set j r')⟩
def OkIp (G : GT) (r : TIp) (f : Op2) : Prop := ∀ (W : WX) (σ : L2.St) (w : Wd) (μ : Store) (H : Hp) (x y : V) (b c : Dv) (Q : VK), Lay G w μ H → Rv G w x b → Rv G w y c → Pst G W σ (Rv G) w (f b c μ) Q → r x y H Q
theorem ds_aug {i : Nat} {x : Str} {op : Operator} {ti : TIp} {f : Op2} {pos' : Pos} (hN : X.N.Nodup) (he : DE X G W e m) (ho : PIp X op ti) (hok : OkIp G ti f) (hi : X.N[i]? = some x := by rfl) (hx : Loc X.env.scope x := by first | exact Or.inl rfl | exact Or.inr rfl) (hf : X.fn x = true ∨ X.env.scope.names.lookup x = some .local := by first | exact .inl rfl | exact .inr rfl | assumption) :
    DS X G W (.AugAssign (.Name x pos') op e pos) (sAug i m f) := by
  refine PS.imp (ps_aug hN hi hx he ho hf) ?_
  rintro D σ H ⟨w, μ, ρ, hl, he, p⟩
  unfold sAug at p
  cases q : ρ[i]? with
  | none => rw [q] at p; exact p.elim
  | some z =>
    cases z with
    | none => rw [q] at p; exact p.elim
    | some b =>
      rw [q] at p
      obtain ⟨v, h1, h2⟩ := he.2 i b q
      refine ⟨v, h1, tD.seqS (k := fun ρ y μ => (f b y μ).bind fun z μ => .ok (.nx (ρ.set i (some z))) μ) hl he p fun w1 μ1 H1 u c l1 lay1 en1 r1 p1 => ?_⟩
      refine hok (fun c d _ H => W c d σ H) σ w1 μ1 H1 v u b c _ lay1 (h2.mono l1) r1 ?_
      cases z : f b c μ1 with
      | bad => rw [z] at p1; exact p1.elim
      | ex e μ2 => rw [z] at p1; exact fun w2 c d H2 l2 lay2 r2 => p1 w2 c d σ H2 l2 lay2 r2
      | ok z μ2 =>
        rw [z] at p1
        exact fun w2 v2 H2 l2 lay2 r2 => p1 w2 _ H2 l2 lay2 ((en1.mono l2).set i r2)

/-! ### loops -/
/-- the items that a loop walks: one by one, from any later state -/
structure ItR (G : GT) (w : Wd) (J : It) (bs : List Dv) : Prop where
  go : ∀ i w' μ H, i < bs.length → w.le w' → Lay G w' μ H → J.go i H
  yld : ∀ i b w' μ H x H', bs[i]? = some b → w.le w' → Lay G w' μ H → J.yld i H x H' → ∃ w2, w'.le w2 ∧ Lay G w2 μ H' ∧ Rv G w2 x b
  stop : ∀ i w' μ H, bs.length ≤ i → w.le w' → Lay G w' μ H → J.stop i H
theorem ItR.mono {G : GT} {w w' : Wd} {J : It} {bs : List Dv} (l : w.le w') (h : ItR G w J bs) : ItR G w' J bs :=
  ⟨fun i w2 μ H hi l2 => h.go i w2 μ H hi (l.trans l2), fun i b w2 μ H x H' e l2 => h.yld i b w2 μ H x H' e (l.trans l2), fun i w2 μ H hi l2 => h.stop i w2 μ H hi (l.trans l2)⟩
abbrev MI := DEnv → Store → Out (List Dv)
def PstI (G : GT) (W : WX) (σ : L2.St) (w : Wd) (o : Out (List Dv)) (R : It → Hp → Prop) : Prop := Pst G W σ (fun w (J : It) bs => ItR G w J bs) w o R
def tI (G : GT) (W : WX) (mi : MI) : TI := tD G W (fun w (J : It) bs => ItR G w J bs) mi
abbrev DI (X : Cx) (G : GT) (W : WX) (tg iter : Expr) (mi : MI) : Prop := PI X tg iter (tI G W mi)
theorem PI.imp {X : Cx} {tg e : Expr} {t t' : TI} (h : PI X tg e t) (i : ∀ σ H Q, t' σ H Q → t σ H Q) : PI X tg e t' := ⟨fun p s σ H Q I hw => h.run p s σ H Q I (i _ _ _ hw)⟩
def forL (g : MG) (mb : MS) : List Dv → DEnv → Store → Out Fl
  | [], ρ, μ => .ok (.nx ρ) μ
  | b :: bs, ρ, μ => (g b ρ μ).gb fun ρ μ => (mb ρ μ).bind fun f μ => match f with
    | .nx ρ => forL g mb bs ρ μ
    | .ct ρ => forL g mb bs ρ μ
    | .bk ρ => .ok (.nx ρ) μ
    | .rt v => .ok (.rt v) μ
def sFor (mi : MI) (g : MG) (mb : MS) : MS := fun ρ μ => (mi ρ μ).bind fun bs μ => forL g mb bs ρ μ
theorem for_imp {mi : MI} {mb : MS} : ∀ D σ H, tS G W (sFor mi g mb) D σ H → tFor (tI G W mi) (tG G S g) (tS G W mb) D σ H := by
  rintro D σ H ⟨w, μ, ρ, hl, he, p⟩
  refine tD.seqS (k := fun ρ bs μ => forL g mb bs ρ μ) hl he p fun w1 μ1 H1 J bs l1 lay1 en1 it p1 => ?_
  refine ⟨fun i m σ H => m = bs.length - i ∧ i ≤ bs.length ∧ ∃ w2 μ2 ρ2, w1.le w2 ∧ Lay G w2 μ2 H ∧ EnvR G w2 σ ρ2 ∧ PstS G W w2 (forL g mb (bs.drop i) ρ2 μ2) D, ⟨bs.length, by simp, Nat.zero_le _, w1, μ1, ρ, w1.le_refl, lay1, en1, p1⟩, ?_⟩
  rintro i m σ2 H2 ⟨rfl, hi, w2, μ2, ρ2, l2, lay2, en2, p2⟩
  by_cases hlt : i < bs.length
  · refine .inr ⟨it.go i w2 μ2 H2 hlt l2 lay2, fun σ H => ∃ w3 μ3 ρ3, w1.le w3 ∧ Lay G w3 μ3 H ∧ EnvR G w3 σ ρ3 ∧ PstS G W w3 (forL g mb (bs.drop (i + 1)) ρ3 μ3) D, fun σ' H' q => ⟨bs.length - (i + 1), by omega, rfl, hlt, q⟩, fun x H' y => ?_⟩
    have eb : bs[i]? = some bs[i] := by simp [hlt]
    obtain ⟨w3, l3, lay3, r3⟩ := it.yld i _ w2 μ2 H2 x H' eb l2 lay2 y
    refine ⟨w3, μ2, ρ2, bs[i], lay3, en2.mono l3, r3, ?_⟩
    rw [List.drop_eq_getElem_cons hlt] at p2
    have p2 := PstS.mono l3 p2
    unfold forL at p2
    cases q : g bs[i] ρ2 μ2 with
    | bad => rw [q] at p2; exact p2.elim
    | ex _ _ => rw [q] at p2; exact p2.elim
    | ok ρ4 μ4 =>
      rw [q] at p2
      intro w4 σ4 H4 l4 lay4 en4 _
      refine ⟨w4, μ4, ρ4, lay4, en4, ?_⟩
      have p4 : PstS G W w4 ((mb ρ4 μ4).bind fun f μ => match f with
        | .nx ρ => forL g mb (bs.drop (i + 1)) ρ μ
        | .ct ρ => forL g mb (bs.drop (i + 1)) ρ μ
        | .bk ρ => .ok (.nx ρ) μ
        | .rt v => .ok (.rt v) μ) D := PstS.mono l4 p2
      have l14 : w1.le w4 := (l2.trans l3).trans l4
      cases q5 : mb ρ4 μ4 with
      | bad => rw [q5] at p4; exact p4.elim
      | ex e μ5 => rw [q5] at p4; exact p4
      | ok f μ5 =>
        rw [q5] at p4
        cases f with
        | nx ρ5 => exact fun w5 σ5 H5 l5 lay5 en5 => ⟨w5, μ5, ρ5, l14.trans l5, lay5, en5, PstS.mono l5 p4⟩
        | ct ρ5 => exact fun w5 σ5 H5 l5 lay5 en5 => ⟨w5, μ5, ρ5, l14.trans l5, lay5, en5, PstS.mono l5 p4⟩
        | bk ρ5 => exact p4
        | rt v => exact p4
  · refine .inl ⟨it.stop i w2 μ2 H2 (by omega) l2 lay2, ?_⟩
    rw [List.drop_of_length_le (by omega)] at p2
    exact p2 w2 σ2 H2 w2.le_refl lay2 en2
theorem ds_for {iter : Expr} {mi : MI} {mb : MS} (hp : PassesOwn (model X.prog X.w) X.A X.env X.xe) (hc : X.calm = true) (hi : DI X G W tg iter mi) (hg : DG X G S tg g) (hb : DSs X G W body mb)
    (hs : ∀ x, foldedSetIterable iter X.env x = pure x := by intro _; rfl) : DS X G W (.For tg iter body [] pos) (sFor mi g mb) := PS.imp (ps_for hp hc hi hg hb hs) for_imp
/-- a while, with as much fuel as is told -/
def whileL (c : MT) (mb : MS) : Nat → DEnv → Store → Out Fl
  | 0, _, _ => .bad
  | n + 1, ρ, μ => (c ρ μ).bind fun k μ => if k = true then (mb ρ μ).bind fun f μ => match f with
    | .nx ρ => whileL c mb n ρ μ
    | .ct ρ => whileL c mb n ρ μ
    | .bk ρ => .ok (.nx ρ) μ
    | .rt v => .ok (.rt v) μ
    else .ok (.nx ρ) μ
theorem while_imp {mb : MS} {n : Nat} : ∀ D σ H, tS G W (whileL tc mb n) D σ H → tWhile (tT G W tc) (tS G W mb) D σ H := by
  rintro D σ H ⟨w, μ, ρ, hl, he, p⟩
  refine ⟨fun m σ H => ∃ w μ ρ, Lay G w μ H ∧ EnvR G w σ ρ ∧ PstS G W w (whileL tc mb m ρ μ) D, ⟨n, w, μ, ρ, hl, he, p⟩, ?_⟩
  rintro m σ1 H1 ⟨w1, μ1, ρ1, lay1, en1, p1⟩
  cases m with
  | zero => exact p1.elim
  | succ m =>
    unfold whileL at p1
    refine tD.seqS (k := fun ρ k μ => if k = true then (mb ρ μ).bind fun f μ => match f with
    | .nx ρ => whileL tc mb m ρ μ
    | .ct ρ => whileL tc mb m ρ μ
    | .bk ρ => .ok (.nx ρ) μ
    | .rt v => .ok (.rt v) μ
    else .ok (.nx ρ) μ) lay1 en1 p1 fun w2 μ2 H2 v b l2 lay2 en2 r2 p2 => ?_
    have r2 : v = b := r2
    subst r2
    cases v with
    | false => exact p2 w2 σ1 H2 w2.le_refl lay2 en2
    | true =>
      refine ⟨fun σ H => ∃ w μ ρ, Lay G w μ H ∧ EnvR G w σ ρ ∧ PstS G W w (whileL tc mb m ρ μ) D, fun σ' H' q => ⟨m, Nat.lt_succ_self _, q⟩, w2, μ2, ρ1, lay2, en2, ?_⟩
      rw [if_pos rfl] at p2
      cases q5 : mb ρ1 μ2 with
      | bad => rw [q5] at p2; exact p2.elim
      | ex e μ5 => rw [q5] at p2; exact p2
      | ok f μ5 =>
        rw [q5] at p2
        cases f with
        | nx ρ5 => exact fun w5 σ5 H5 l5 lay5 en5 => ⟨w5, μ5, ρ5, lay5, en5, PstS.mono l5 p2⟩
        | ct ρ5 => exact fun w5 σ5 H5 l5 lay5 en5 => ⟨w5, μ5, ρ5, lay5, en5, PstS.mono l5 p2⟩
        | bk ρ5 => exact p2
        | rt v => exact p2
theorem ds_while {c : Expr} {mb : MS} (n : Nat) (hp : PassesOwn (model X.prog X.w) X.A X.env X.xe) (hc : DT X G W c tc) (hb : DSs X G W body mb) : DS X G W (.While c body [] pos) (whileL tc mb n) := PS.imp (ps_while hp hc hb) while_imp
end

/-! ### a def by its body -/
def runB (n : Nat) (B : MS) : OpN := fun bs μ => match B (bs.map some ++ List.replicate (n - bs.length) none) μ with
  | .ok (.nx _) μ' => .ok (.d .none) μ'
  | .ok (.rt b) μ' => .ok b μ'
  | .ok _ _ => .bad
  | .ex e μ' => .ex e μ'
  | .bad => .bad
theorem env_start {G : GT} {w : Wd} {N : List Str} : ∀ {vs : List V} {bs : List Dv}, Rvs G w vs bs → EnvR G w (L2.start N vs) (bs.map some ++ List.replicate (N.length - bs.length) none) := fun {vs bs} r => by
  have hl := Paired.length r
  unfold L2.start
  refine ⟨by simp [hl], fun i b q => ?_⟩
  by_cases hi : i < bs.length
  · rw [List.getElem?_append_left (by simpa using hi), List.getElem?_map] at q
    rw [List.getElem?_append_left (by simpa [hl] using hi), List.getElem?_map]
    cases e : bs[i]? with
    | none => rw [e] at q; cases q
    | some c =>
      rw [e] at q
      cases q
      have : ∀ {vs : List V} {bs : List Dv} {i : Nat}, Rvs G w vs bs → bs[i]? = some b → ∃ v, vs[i]? = some v ∧ Rv G w v b := by
        intro vs bs i r
        induction r generalizing i with
        | nil => intro h; simp at h
        | cons r t ih =>
          intro h
          cases i with
          | zero => simp at h; subst h; exact ⟨_, rfl, r⟩
          | succ i => exact ih (by simpa using h)
      obtain ⟨v, h1, h2⟩ := this r e
      exact ⟨v, by rw [h1]; rfl, h2⟩
  · rw [List.getElem?_append_right (by simpa using hi), List.getElem?_replicate] at q
    split at q <;> cases q
section
variable {P : Program} {w : World} {G : GT} {mg : Str → Option Value} {base : Heap}
/-- THE RULE for a def -/
theorem fn_ok {x qual : Str} {st : Stmt} {f : Addr} {fd : FuncData} {N ps : List Str} {k : Nat} {B : MS} (F : Fun G.K x qual st f fd) (S : FnScope N ps (defScope st))
    (hB : ∀ (cdv : Value) (A : Around) (outer : List Env) (s : Shared) (H : Hp) (E : XK), Room k (A.deeper (envOfC qual (defScope st) s.heap.objs.size f cdv)) →
      Takes (cxOf (L2.CX P w) P w G.K mg base N qual (defScope st) f cdv A outer s H E) (fun cls d _ H => E cls d H) →
      PassesOwn (model P w) (A.deeper (envOfC qual (defScope st) s.heap.objs.size f cdv)) (cxOf (L2.CX P w) P w G.K mg base N qual (defScope st) f cdv A outer s H E).env (cxOf (L2.CX P w) P w G.K mg base N qual (defScope st) f cdv A outer s H E).xe →
      DSs (cxOf (L2.CX P w) P w G.K mg base N qual (defScope st) f cdv A outer s H E) G (fun cls d _ H => E cls d H) (defBody st) B) :
    FnOk P w G.K mg base (L2.CX P w) (k + 1) f fd ps (spD G ps.length (runB N.length B)) := by
  refine F.okX S (fun vs H Q E h => h.1) fun cdv A outer s H vs Q E hr h => ?_
  obtain ⟨hn, w0, μ, bs, lay, r, p⟩ := h
  have tk : Takes (cxOf (L2.CX P w) P w G.K mg base N qual (defScope st) f cdv A outer s H E) (fun cls d _ H => E cls d H) := takes_of rfl rfl rfl rfl
  refine ⟨_, hB cdv A outer s H E hr tk (passes_of rfl), w0, μ, _, lay, env_start r, ?_⟩
  unfold runB at p
  cases q : B (bs.map some ++ List.replicate (N.length - bs.length) none) μ with
  | bad => rw [q] at p; exact p.elim
  | ex e μ' =>
    rw [q] at p
    exact fun w' cls d _ H' l lay' r' => p w' cls d H' l lay' r'
  | ok fl μ' =>
    rw [q] at p
    cases fl with
    | nx ρ => exact fun w' σ' H' l lay' _ => p w' .non H' l lay' .non
    | rt b => exact p
    | bk ρ => exact p.elim
    | ct ρ => exact p.elim
end
end DL

/-! Rules of the data layer: displays, comprehensions, cells. -/
namespace DL
open PySem PySem.Spec PyProof.Rows L2

def allD : List Dv → Option (List D)
  | [] => some []
  | .d x :: r => match allD r with
    | some xs => some (x :: xs)
    | none => none
  | _ :: _ => none
theorem allD_map : ∀ ds : List D, allD (ds.map .d) = some ds
  | [] => rfl
  | d :: ds => by simp [allD, allD_map ds]
theorem allD_eq : ∀ {bs : List Dv} {ds : List D}, allD bs = some ds → bs = ds.map .d
  | [], _, h => by cases h; rfl
  | .d x :: r, _, h => by
    unfold allD at h
    cases q : allD r with
    | none => rw [q] at h; cases h
    | some xs => rw [q] at h; cases h; rw [allD_eq q]; rfl
  | .c _ :: _, _, h => by cases h
  | .f _ :: _, _, h => by cases h
theorem RpA_of_Rvs {G : GT} {w : Wd} : ∀ {vs : List V} {ds : List D}, Rvs G w vs (ds.map .d) → RpA G.K w.I vs ds
  | _, [], h => by cases h; exact .nil
  | _, d :: ds, h => by
    cases h with
    | cons r t => exact .cons r (RpA_of_Rvs t)

/-! ### worlds -/
theorem ne_mem {l : List Addr} {a p : Addr} (h : a ∈ l) (n : p ∉ l) : a ≠ p := fun z => n (z ▸ h)
theorem ne_get {l : List Addr} {a p : Addr} {i : Nat} (h : l[i]? = some a) (n : p ∉ l) : a ≠ p := ne_mem (List.mem_of_getElem? h) n
theorem Rv.cong {G : GT} {w w' : Wd} (hI : w'.I = w.I) (hα : w'.α = w.α) {v : V} : ∀ {b : Dv}, Rv G w v b → Rv G w' v b
  | .d _, r => by unfold Rv at r ⊢; rw [hI]; exact r
  | .c _, r => by unfold Rv at r ⊢; rw [hα]; exact r
  | .f _, r => r
theorem Rvs.cong {G : GT} {w w' : Wd} (hI : w'.I = w.I) (hα : w'.α = w.α) : ∀ {vs : List V} {bs : List Dv}, Rvs G w vs bs → Rvs G w' vs bs
  | _, _, .nil => .nil
  | _, _, .cons r t => .cons (Rv.cong hI hα r) (Rvs.cong hI hα t)
theorem EnvR.cong {G : GT} {w w' : Wd} (hI : w'.I = w.I) (hα : w'.α = w.α) {σ : L2.St} {ρ : DEnv} (e : EnvR G w σ ρ) : EnvR G w' σ ρ :=
  ⟨e.1, fun i b q => let ⟨v, h1, h2⟩ := e.2 i b q; ⟨v, h1, Rv.cong hI hα h2⟩⟩
theorem CellAt.cong {G : GT} {w w' : Wd} {H H' : Hp} {a : Addr} (hI : w.I a = none → w'.I a = none) (le : Same w.I w'.I ∧ w.α <+: w'.α) (hH : H' a = H a) : ∀ {c : Cell}, CellAt G w H a c → CellAt G w' H' a c := by
  have rv : ∀ {v b}, Rv G w v b → Rv G w' v b := fun {v b} r => by
    cases b with
    | d x => exact Rp.mono le.1 _ _ r
    | c n => obtain ⟨a, e, q⟩ := r; exact ⟨a, pre_get le.2 e, q⟩
    | f n => exact r
  intro c h
  cases c with
  | lst xs =>
    obtain ⟨h1, vs, h2, h3⟩ := h
    exact ⟨hI h1, vs, by rw [hH]; exact h2, Paired.imp (fun _ _ => rv) h3⟩
  | dic kvs =>
    obtain ⟨h1, vs, h2, h3⟩ := h
    exact ⟨hI h1, vs, by rw [hH]; exact h2, Paired.imp (fun _ _ z => ⟨z.1, rv z.2⟩) h3⟩
  | dT kvs =>
    obtain ⟨h1, vs, h2, h3⟩ := h
    exact ⟨hI h1, vs, by rw [hH]; exact h2, Paired.imp (fun _ _ z => ⟨z.1, rv z.2⟩) h3⟩
  | obj C fs => exact h.elim
  | dead => trivial
section
variable {G : GT} {w : Wd} {μ : Store} {H : Hp}
theorem Lay.na (l : Lay G w μ H) {p : Addr} (np : H p = none) : w.I p = none ∧ p ∉ w.α ∧ w.F p = none := by
  refine ⟨l.same.free np, fun hm => ?_, l.fr.free np⟩
  obtain ⟨o, e⟩ := l.lv p hm
  rw [np] at e
  cases e
/-- an object of no concern -/
theorem Lay.other (l : Lay G w μ H) {p : Addr} (h1 : w.I p = none) (h2 : p ∉ w.α) (h3 : w.F p = none) (o : HO) : Lay G w μ (upd H p o) where
  same := fun b u e => by rw [upd_ne (fun z => by rw [z, h1] at e; cases e)]; exact l.same b u e
  len := l.len
  nd := l.nd
  lv := fun a ha => by rw [upd_ne (ne_mem ha h2)]; exact l.lv a ha
  fr := fun b u e => by rw [upd_ne (fun z => by rw [z, h3] at e; cases e)]; exact l.fr b u e
  fd := l.fd
  di := l.di
  at_ := fun n c a e q => (l.at_ n c a e q).cong (fun z => z) ⟨Same.refl _, List.prefix_refl _⟩ (upd_ne (ne_get q h2))
abbrev Wd.put (w : Wd) (p : Addr) (o : HO) : Wd := ⟨upd w.I p o, w.α, w.F⟩
theorem same_upd {I : Hp} {p : Addr} {o : HO} (n : I p = none) : Same I (upd I p o) := fun b u e => by rw [upd_ne (ne_of_none e n)]; exact e
/-- a new object, frozen at once -/
theorem Lay.new (l : Lay G w μ H) {p : Addr} (np : H p = none) (o : HO) : w.le (w.put p o) ∧ Lay G (w.put p o) μ (upd H p o) := by
  obtain ⟨h1, h2, h3⟩ := l.na np
  have l2 := l.other h1 h2 h3 o
  refine ⟨⟨same_upd h1, List.prefix_refl _, Same.refl _⟩, fun b u e => ?_, l2.len, l2.nd, l2.lv, l2.fr, l2.fd, fun a u e => ?_, fun n c a e q => ?_⟩
  · by_cases z : b = p
    · subst z; have e : upd w.I b o b = some u := e; rw [upd_same] at e; rw [upd_same]; exact e
    · have e : upd w.I p o b = some u := e
      rw [upd_ne z] at e; exact l2.same b u e
  · have : a ≠ p := fun z => by rw [z, h3] at e; cases e
    show upd w.I p o a = none
    rw [upd_ne this]; exact l.di a u e
  · have ap : a ≠ p := ne_get q h2
    exact CellAt.cong (w' := w.put p o) (fun z => by show upd w.I p o a = none; rw [upd_ne ap]; exact z) ⟨same_upd h1, List.prefix_refl _⟩ rfl (l2.at_ n c a e q)
abbrev Wd.ext (w : Wd) (p : Addr) : Wd := ⟨w.I, w.α ++ [p], w.F⟩
/-- a new object, a cell -/
theorem Lay.cell (l : Lay G w μ H) {p : Addr} (np : H p = none) {o : HO} {c : Cell} (hc : ∀ H', H' p = some o → CellAt G (w.ext p) H' p c) : w.le (w.ext p) ∧ Lay G (w.ext p) (μ ++ [c]) (upd H p o) := by
  obtain ⟨h1, h2, h3⟩ := l.na np
  have l2 := l.other h1 h2 h3 o
  refine ⟨⟨Same.refl _, List.prefix_append _ _, Same.refl _⟩, l2.same, by simp [l2.len], ?_, fun a ha => ?_, l2.fr, fun a ha => ?_, l2.di, fun n c' a e q => ?_⟩
  · refine List.nodup_append.mpr ⟨l.nd, by simp, fun a ha b hb => ?_⟩
    simp at hb
    subst hb
    exact ne_mem ha h2
  · rcases List.mem_append.mp ha with ha | ha
    · exact l2.lv a ha
    · simp at ha; subst ha; exact ⟨o, upd_same⟩
  · rcases List.mem_append.mp ha with ha | ha
    · exact l2.fd a ha
    · simp at ha; subst ha; exact h3
  · by_cases hn : n < μ.length
    · rw [List.getElem?_append_left hn] at e
      have q : (w.α ++ [p])[n]? = some a := q
      rw [List.getElem?_append_left (by rw [l.len]; exact hn)] at q
      exact CellAt.cong (w := w) (w' := w.ext p) (fun z => z) ⟨Same.refl _, List.prefix_append _ _⟩ rfl (l2.at_ n c' a e q)
    · have hn' : n = μ.length := by
        have := (List.getElem?_eq_some_iff.mp e).1
        simp at this
        omega
      subst hn'
      have q : (w.α ++ [p])[μ.length]? = some a := q
      rw [← l.len, List.getElem?_append_right (Nat.le_refl _)] at q
      rw [List.getElem?_append_right (Nat.le_refl _)] at e
      simp at q e
      subst q e
      exact hc _ upd_same
abbrev Wd.priv (w : Wd) (p : Addr) (o : HO) : Wd := ⟨w.I, w.α, upd w.F p o⟩
abbrev Wd.unp (w : Wd) (p : Addr) : Wd := ⟨w.I, w.α, fun b => if b = p then none else w.F b⟩
theorem Lay.priv (l : Lay G w μ H) {p : Addr} {o : HO} (h1 : w.I p = none) (h2 : p ∉ w.α) (h3 : w.F p = none) (e : H p = some o) : w.le (w.priv p o) ∧ Lay G (w.priv p o) μ H := by
  refine ⟨⟨Same.refl _, List.prefix_refl _, same_upd h3⟩, l.same, l.len, l.nd, l.lv, fun b u q => ?_, fun a ha => ?_, fun a u q => ?_, fun n c a e' q => (l.at_ n c a e' q).cong (fun z => z) ⟨Same.refl _, List.prefix_refl _⟩ rfl⟩
  · by_cases z : b = p
    · subst z; have q : upd w.F b o b = some u := q; rw [upd_same] at q; rw [← q]; exact e
    · have q : upd w.F p o b = some u := q; rw [upd_ne z] at q; exact l.fr b u q
  · show upd w.F p o a = none
    rw [upd_ne (ne_mem ha h2)]; exact l.fd a ha
  · by_cases z : a = p
    · subst z; exact h1
    · have q : upd w.F p o a = some u := q; rw [upd_ne z] at q; exact l.di a u q
/-- the private object is written, and private no more -/
theorem Lay.unp {w0 : Wd} (l : Lay G w μ H) {p : Addr} {o : HO} (le : (w0.priv p o).le w) (h3 : w0.F p = none) (o' : HO) : w0.le (w.unp p) ∧ Lay G (w.unp p) μ (upd H p o') ∧ H p = some o ∧ w.I p = none ∧ p ∉ w.α := by
  have hF : w.F p = some o := le.2.2 p o upd_same
  have hI : w.I p = none := l.di p o hF
  have hα : p ∉ w.α := fun hm => by have := l.fd p hm; rw [hF] at this; cases this
  have w0F : ∀ b u, w0.F b = some u → b ≠ p := fun b u e z => by rw [z, h3] at e; cases e
  refine ⟨⟨le.1, le.2.1, fun b u e => ?_⟩, ⟨fun b u e => ?_, l.len, l.nd, fun a ha => ?_, fun b u e => ?_, fun a ha => ?_, fun a u e => ?_, fun n c a e q => ?_⟩, l.fr p o hF, hI, hα⟩
  · show (if b = p then none else w.F b) = some u
    rw [if_neg (w0F b u e)]
    exact le.2.2 b u (by show upd w0.F p o b = some u; rw [upd_ne (w0F b u e)]; exact e)
  · rw [upd_ne (fun z => by have e : w.I b = some u := e; rw [z, hI] at e; cases e)]; exact l.same b u e
  · rw [upd_ne (ne_mem ha hα)]; exact l.lv a ha
  · have e : (if b = p then none else w.F b) = some u := e
    by_cases z : b = p
    · rw [if_pos z] at e; cases e
    · rw [if_neg z] at e; rw [upd_ne z]; exact l.fr b u e
  · show (if a = p then none else w.F a) = none
    split
    · rfl
    · exact l.fd a ha
  · have e : (if a = p then none else w.F a) = some u := e
    by_cases z : a = p
    · rw [if_pos z] at e; cases e
    · rw [if_neg z] at e; exact l.di a u e
  · exact (l.at_ n c a e q).cong (fun z => z) ⟨Same.refl _, List.prefix_refl _⟩ (upd_ne (ne_get q hα))
end

/-! ### displays -/
def dList (bs : List Dv) (μ : Store) : Out Dv := match allD bs with
  | some ds => if ds.length ≤ sizeLine then .ok (.d (.list ds)) μ else .bad
  | none => .bad
def dTup (bs : List Dv) (μ : Store) : Out Dv := match allD bs with
  | some ds => if ds.length ≤ sizeLine then .ok (.d (.tuple ds)) μ else .bad
  | none => .bad
/-- a new list that may be changed -/
def cList (bs : List Dv) (μ : Store) : Out Dv := if bs.length ≤ sizeLine then .ok (.c μ.length) (μ ++ [.lst bs]) else .bad
section
variable {X : Cx} {G : GT} {W : WX} {es : List Expr} {mas : MA} {pos : Pos} {σ : L2.St} {w : Wd} {μ : Store} {H : Hp} {Q : VK}
theorem list_new {xs : List V} {bs : List Dv} (l : Lay G w μ H) (r : Rvs G w xs bs) (p : Pst G W σ (Rv G) w (dList bs μ) Q) : xs.length ≤ sizeLine ∧ ∀ a, H a = none → Q (.ref a) (upd H a (.lst xs)) := by
  unfold dList at p
  cases q : allD bs with
  | none => rw [q] at p; exact p.elim
  | some ds =>
    rw [q] at p
    have p : Pst G W σ (Rv G) w (if ds.length ≤ sizeLine then .ok (.d (.list ds)) μ else .bad) Q := p
    by_cases z : ds.length ≤ sizeLine
    · rw [if_pos z] at p
      rw [allD_eq q] at r
      have ra := RpA_of_Rvs r
      refine ⟨by rw [ra.length]; exact z, fun a na => ?_⟩
      obtain ⟨le, l2⟩ := l.new na (.lst xs)
      exact p _ (.ref a) _ le l2 (.lst (SqL.of upd_same) (RpA.mono le.1 _ _ ra))
    · rw [if_neg z] at p
      exact p.elim
theorem tup_new {xs : List V} {bs : List Dv} (l : Lay G w μ H) (r : Rvs G w xs bs) (p : Pst G W σ (Rv G) w (dTup bs μ) Q) : xs.length ≤ sizeLine ∧ ∀ a, H a = none → Q (.ref a) (upd H a (.tup xs)) := by
  unfold dTup at p
  cases q : allD bs with
  | none => rw [q] at p; exact p.elim
  | some ds =>
    rw [q] at p
    have p : Pst G W σ (Rv G) w (if ds.length ≤ sizeLine then .ok (.d (.tuple ds)) μ else .bad) Q := p
    by_cases z : ds.length ≤ sizeLine
    · rw [if_pos z] at p
      rw [allD_eq q] at r
      have ra := RpA_of_Rvs r
      refine ⟨by rw [ra.length]; exact z, fun a na => ?_⟩
      obtain ⟨le, l2⟩ := l.new na (.tup xs)
      exact p _ (.ref a) _ le l2 (.tup (SqT.of upd_same) (RpA.mono le.1 _ _ ra))
    · rw [if_neg z] at p
      exact p.elim
theorem list_cell {xs : List V} {bs : List Dv} (l : Lay G w μ H) (r : Rvs G w xs bs) (p : Pst G W σ (Rv G) w (cList bs μ) Q) : xs.length ≤ sizeLine ∧ ∀ a, H a = none → Q (.ref a) (upd H a (.lst xs)) := by
  unfold cList at p
  by_cases z : bs.length ≤ sizeLine
  · rw [if_pos z] at p
    refine ⟨by rw [Paired.length r]; exact z, fun a na => ?_⟩
    obtain ⟨h1, h2, h3⟩ := l.na na
    have le : w.le (w.ext a) := ⟨Same.refl _, List.prefix_append _ _, Same.refl _⟩
    obtain ⟨_, l2⟩ := l.cell na (o := .lst xs) (c := .lst bs) fun H' e => ⟨h1, xs, e, r.mono le⟩
    exact p _ (.ref a) _ le l2 ⟨a, by show (w.α ++ [a])[μ.length]? = some a; rw [← l.len]; simp, rfl⟩
  · rw [if_neg z] at p
    exact p.elim
theorem de_lst (ha : DA X G W es mas) : DE X G W (.List es pos) (eN dList mas) := by
  refine PE.imp (pe_lst ha) ?_
  rintro σ H Q ⟨w, μ, ρ, hl, he, p⟩
  exact tD.seq (k := fun ρ xs μ => dList xs μ) hl he p fun w1 μ1 H1 v b l1 lay1 en1 r1 p1 => list_new lay1 r1 p1
theorem de_lstC (ha : DA X G W es mas) : DE X G W (.List es pos) (eN cList mas) := by
  refine PE.imp (pe_lst ha) ?_
  rintro σ H Q ⟨w, μ, ρ, hl, he, p⟩
  exact tD.seq (k := fun ρ xs μ => cList xs μ) hl he p fun w1 μ1 H1 v b l1 lay1 en1 r1 p1 => list_cell lay1 r1 p1
theorem de_tup {x1} (ha : DA X G W es mas) : DE X G W (.Tuple es x1 pos) (eN dTup mas) := by
  refine PE.imp (pe_tup ha) ?_
  rintro σ H Q ⟨w, μ, ρ, hl, he, p⟩
  exact tD.seq (k := fun ρ xs μ => dTup xs μ) hl he p fun w1 μ1 H1 v b l1 lay1 en1 r1 p1 => tup_new lay1 r1 p1
end

/-! ### comprehensions -/
abbrev W0 : WX := fun _ _ _ _ => False
def wipeD (ρ : DEnv) : List Nat → DEnv
  | [] => ρ
  | v :: vs => (wipeD ρ vs).set v none
def tYesM : MT := fun _ μ => .ok true μ
def lcM (g : MG) (tt : MT) (te : ME) (ρ : DEnv) : List Dv → Store → Out (List Dv)
  | [], μ => .ok [] μ
  | b :: bs, μ => (g b ρ μ).gb fun ρ' μ => (tt ρ' μ).gb fun k μ => if k = true then (te ρ' μ).gb fun y μ => (lcM g tt te ρ bs μ).gb fun ys μ => .ok (y :: ys) μ else lcM g tt te ρ bs μ
def lcF (fin : OpN) (g : MG) (tt : MT) (te : ME) (vs : List Nat) (ρ : DEnv) (bs : List Dv) (μ : Store) : Out Dv :=
  if bs.length ≤ sizeLine then (lcM g tt te (wipeD ρ vs) bs μ).gb fin else .bad
def eLc (fin : OpN) (mi : MI) (g : MG) (tt : MT) (te : ME) (vs : List Nat) : ME := fun ρ μ => (mi ρ μ).bind fun bs μ => lcF fin g tt te vs ρ bs μ
theorem wipe_get (σ : L2.St) (i : Nat) : ∀ vs : List Nat, (wipe σ vs)[i]? = if i ∈ vs ∧ i < σ.length then some none else σ[i]?
  | [] => by simp [wipe]
  | v :: vs => by
    unfold wipe
    by_cases h : v = i
    · subst h
      by_cases hl : v < σ.length
      · rw [List.getElem?_set_self (by rw [wipe_length]; exact hl), if_pos ⟨by simp, hl⟩]
      · rw [List.getElem?_eq_none (by rw [List.length_set, wipe_length]; omega), if_neg (fun z => hl z.2), List.getElem?_eq_none (by omega)]
    · rw [List.getElem?_set_ne h, wipe_get σ i vs]
      have : (i ∈ v :: vs ∧ i < σ.length) ↔ (i ∈ vs ∧ i < σ.length) := by
        simp only [List.mem_cons]
        constructor
        · rintro ⟨a | a, b⟩
          · exact absurd a.symm h
          · exact ⟨a, b⟩
        · rintro ⟨a, b⟩
          exact ⟨.inr a, b⟩
      simp only [this]
theorem wipe_agr {S vs : List Nat} {σ σ' : L2.St} (h : Agr S (wipe σ vs) σ') (hs : ∀ i ∈ S, i ∈ vs) : wipe σ' vs = wipe σ vs := by
  have hl : σ'.length = σ.length := by rw [h.1, wipe_length]
  apply List.ext_getElem?
  intro i
  rw [wipe_get, wipe_get, hl]
  by_cases z : i ∈ vs ∧ i < σ.length
  · rw [if_pos z, if_pos z]
  · rw [if_neg z, if_neg z]
    by_cases hi : i ∈ S
    · have : ¬ i < σ.length := fun q => z ⟨hs i hi, q⟩
      rw [List.getElem?_eq_none (by omega), List.getElem?_eq_none (by omega)]
    · rw [h.2 i hi, wipe_get, if_neg z]
theorem EnvR.wipe {G : GT} {w : Wd} {σ : L2.St} {ρ : DEnv} (e : EnvR G w σ ρ) : ∀ vs : List Nat, EnvR G w (L2.wipe σ vs) (wipeD ρ vs)
  | [] => e
  | v :: vs => by
    have ih := EnvR.wipe e vs
    unfold L2.wipe wipeD
    refine ⟨by rw [List.length_set, List.length_set]; exact ih.1, fun i b q => ?_⟩
    by_cases h : v = i
    · subst h
      by_cases hl : v < (wipeD ρ vs).length
      · rw [List.getElem?_set_self hl] at q; cases q
      · rw [List.getElem?_eq_none (by rw [List.length_set]; omega)] at q; cases q
    · rw [List.getElem?_set_ne h] at q
      obtain ⟨v', h1, h2⟩ := ih.2 i b q
      exact ⟨v', by rw [List.getElem?_set_ne h]; exact h1, h2⟩
theorem Lay.stay {G : GT} {w : Wd} {μ : Store} {H : Hp} {a : Addr} {vs : List V} (l : Lay G w μ H) (h1 : w.I a = none) (h2 : a ∉ w.α) (h3 : w.F a = none) (e : H a = some (.lst vs)) : w.le (w.put a (.lst vs)) ∧ Lay G (w.put a (.lst vs)) μ H := by
  refine ⟨⟨same_upd h1, List.prefix_refl _, Same.refl _⟩, fun b u q => ?_, l.len, l.nd, l.lv, l.fr, l.fd, fun b u q => ?_, fun n c b q1 q2 => ?_⟩
  · by_cases z : b = a
    · subst z; have q : upd w.I b (.lst vs) b = some u := q; rw [upd_same] at q; rw [← q]; exact e
    · have q : upd w.I a (.lst vs) b = some u := q; rw [upd_ne z] at q; exact l.same b u q
  · have : b ≠ a := fun z => by rw [z, h3] at q; cases q
    show upd w.I a _ b = none
    rw [upd_ne this]; exact l.di b u q
  · have ap : b ≠ a := ne_get q2 h2
    exact CellAt.cong (w' := w.put a (.lst vs)) (fun z => by show upd w.I a _ b = none; rw [upd_ne ap]; exact z) ⟨same_upd h1, List.prefix_refl _⟩ rfl (l.at_ n c b q1 q2)
/-- what becomes of the list that is made: frozen, or a cell -/
def OkFin (G : GT) (fin : OpN) : Prop := ∀ (W : WX) (σ : L2.St) (w : Wd) (μ : Store) (H : Hp) (a : Addr) (vs : List V) (bs : List Dv) (Q : VK), Lay G w μ H → w.I a = none → a ∉ w.α → w.F a = none → H a = some (.lst vs) → Rvs G w vs bs →
  Pst G W σ (Rv G) w (fin bs μ) Q → Q (.ref a) H
theorem fin_list {G : GT} : OkFin G dList := by
  intro W σ w μ H a vs bs Q l h1 h2 h3 e r p
  unfold dList at p
  cases q : allD bs with
  | none => rw [q] at p; exact p.elim
  | some ds =>
    rw [q] at p
    have p : Pst G W σ (Rv G) w (if ds.length ≤ sizeLine then .ok (.d (.list ds)) μ else .bad) Q := p
    by_cases z : ds.length ≤ sizeLine
    · rw [if_pos z] at p
      rw [allD_eq q] at r
      have ra := RpA_of_Rvs r
      obtain ⟨le, l2⟩ := l.stay h1 h2 h3 e
      exact p _ (.ref a) _ le l2 (.lst (SqL.of upd_same) (RpA.mono le.1 _ _ ra))
    · rw [if_neg z] at p
      exact p.elim
section
variable {X : Cx} {G : GT} {W : WX} {mi : MI} {g : MG} {tt : MT} {te : ME} {S vs : List Nat} {fin : OpN}
theorem lc_imp (hf : OkFin G fin) (hS : ∀ i ∈ S, i ∈ vs) : ∀ σ H Q, tE G W (eLc fin mi g tt te vs) σ H Q → tLc (tI G W mi) (tG G S g) (tT G W0 tt) (tE G W0 te) vs σ H Q := by
  rintro σ H Q ⟨w, μ, ρ, hl, he, p⟩
  refine tD.seq (k := fun ρ bs μ => lcF fin g tt te vs ρ bs μ) hl he p fun w1 μ1 H1 J bs l1 lay1 en1 it p1 => ?_
  intro a na
  unfold lcF at p1
  by_cases hz : bs.length ≤ sizeLine
  case neg => rw [if_neg hz] at p1; exact p1.elim
  rw [if_pos hz] at p1
  obtain ⟨n1, n2, n3⟩ := lay1.na na
  refine ⟨fun i m H => m = bs.length - i ∧ i ≤ bs.length ∧ ∃ w2 μ2 us acc, w1.le w2 ∧ Lay G w2 μ2 H ∧ H a = some (.lst us) ∧ w2.I a = none ∧ a ∉ w2.α ∧ w2.F a = none ∧ Rvs G w2 us acc ∧ acc.length ≤ i ∧
    Pst G W σ (Rv G) w2 ((lcM g tt te (wipeD ρ vs) (bs.drop i) μ2).gb fun ys μ => fin (acc ++ ys) μ) Q, ⟨bs.length, by simp, Nat.zero_le _, w1, μ1, [], [], w1.le_refl, lay1.other n1 n2 n3 _, upd_same, n1, n2, n3, .nil, Nat.le_refl _, p1⟩, ?_⟩
  rintro i m H2 ⟨rfl, hi, w2, μ2, us, acc, l2, lay2, e2, i2, a2, f2, r2, hacc, p2⟩
  by_cases hlt : i < bs.length
  · refine .inr ⟨it.go i w2 μ2 H2 hlt l2 lay2, fun H => ∃ w2 μ2 us acc, w1.le w2 ∧ Lay G w2 μ2 H ∧ H a = some (.lst us) ∧ w2.I a = none ∧ a ∉ w2.α ∧ w2.F a = none ∧ Rvs G w2 us acc ∧ acc.length ≤ i + 1 ∧
      Pst G W σ (Rv G) w2 ((lcM g tt te (wipeD ρ vs) (bs.drop (i + 1)) μ2).gb fun ys μ => fin (acc ++ ys) μ) Q, fun H' q => ⟨bs.length - (i + 1), by omega, rfl, hlt, q⟩, fun x H' y => ?_⟩
    have eb : bs[i]? = some bs[i] := by simp [hlt]
    obtain ⟨lp, layp⟩ := lay2.priv i2 a2 f2 e2
    obtain ⟨w3, l3, lay3, r3⟩ := it.yld i _ _ μ2 H2 x H' eb (l2.trans lp) layp y
    have en3 : EnvR G w3 (wipe σ vs) (wipeD ρ vs) := (en1.wipe vs).mono ((l2.trans lp).trans l3)
    refine ⟨w3, μ2, wipeD ρ vs, bs[i], lay3, en3, r3, ?_⟩
    rw [List.drop_eq_getElem_cons hlt] at p2
    unfold lcM at p2
    cases q : g bs[i] (wipeD ρ vs) μ2 with
    | bad => rw [q] at p2; exact p2.elim
    | ex _ _ => rw [q] at p2; exact p2.elim
    | ok ρ4 μ4 =>
      rw [q] at p2
      intro w4 σ4 H4 l4 lay4 en4 ag
      refine ⟨wipe_agr ag hS, w4, μ4, ρ4, lay4, en4, ?_⟩
      cases q5 : tt ρ4 μ4 with
      | bad => simp only [gb_ok, q5] at p2; exact p2.elim
      | ex _ _ => simp only [gb_ok, q5] at p2; exact p2.elim
      | ok k μ5 =>
        simp only [gb_ok, q5] at p2
        intro w5 v5 H5 l5 lay5 r5
        have r5 : v5 = k := r5
        subst r5
        have lw5 : (w2.priv a (.lst us)).le w5 := (l3.trans l4).trans l5
        cases v5 with
        | false =>
          simp only [Bool.false_eq_true, if_false] at p2
          obtain ⟨le6, lay6, e6, i6, a6⟩ := lay5.unp lw5 f2 (.lst us)
          have hH : upd H5 a (.lst us) = H5 := by
            funext b
            by_cases z : b = a
            · subst z; rw [upd_same, e6]
            · rw [upd_ne z]
          rw [hH] at lay6
          exact ⟨w5.unp a, μ5, us, acc, l2.trans le6, lay6, e6, i6, a6, if_pos rfl, r2.mono le6, by omega, Pst.mono le6 p2⟩
        | true =>
          simp only [if_true] at p2
          refine ⟨w5, μ5, ρ4, lay5, en4.mono l5, ?_⟩
          cases q6 : te ρ4 μ5 with
          | bad => rw [q6] at p2; exact p2.elim
          | ex _ _ => rw [q6] at p2; exact p2.elim
          | ok y μ6 =>
            rw [q6] at p2
            intro w6 v6 H6 l6 lay6 r6
            obtain ⟨le7, lay7, e7, i7, a7⟩ := lay6.unp (lw5.trans l6) f2 (.lst (us ++ [v6]))
            refine ⟨us, e7, by rw [Paired.length r2]; omega, w6.unp a, μ6, us ++ [v6], acc ++ [y], l2.trans le7, lay7, upd_same, i7, a7, if_pos rfl, ?_, by simp; omega, ?_⟩
            · have h1 := r2.mono le7
              have h2 : Rv G (w6.unp a) v6 y := Rv.cong rfl rfl r6
              exact Paired.rec (motive := fun l m _ => Rvs G (w6.unp a) (l ++ [v6]) (m ++ [y])) (.cons h2 .nil) (fun r _ ih => .cons r ih) h1
            · have p3 := Pst.mono le7 p2
              cases q7 : lcM g tt te (wipeD ρ vs) (bs.drop (i + 1)) μ6 with
              | bad => simp only [gb_ok, q7] at p3; exact p3.elim
              | ex _ _ => simp only [gb_ok, q7] at p3; exact p3.elim
              | ok ys μ7 =>
                simp only [gb_ok, q7] at p3
                simp only [gb_ok, List.append_assoc, List.singleton_append]
                exact p3
  · refine .inl ⟨it.stop i w2 μ2 H2 (by omega) l2 lay2, ?_⟩
    rw [List.drop_of_length_le (by omega)] at p2
    simp only [lcM, gb_ok, List.append_nil] at p2
    exact hf W σ w2 μ2 H2 a us acc Q lay2 i2 a2 f2 e2 r2 p2
theorem dts_nil {X : Cx} : PTs X [] (tT G W tYesM) := ⟨fun pins s σ H Q I h => by
  obtain ⟨w, μ, ρ, hl, he, p⟩ := h
  exact pts_nil.run pins s σ H Q I (p w true H w.le_refl hl rfl)⟩
theorem dts_one {X : Cx} {c : Expr} (h : DT X G W c tt) : PTs X [c] (tT G W tt) := pts_one h
theorem de_lc {elt tg iter : Expr} {ifs : List Expr} {scope : Scope} (own : List (Str × Nat)) {pos : Pos} (hf : OkFin G fin) (hc : X.calm = true) (hN : X.N.Nodup) (hi : DI X G W tg iter mi) (ok : BlkOk X.N X.env.scope scope own)
    (hg : ∀ (s : Shared) (H : Hp) (C : Addr) (cl : List (Str × Addr)) (fp : List Addr), DG (X.blk s H scope (compEnvC scope cl C X.env) fp) G S tg g) (ht : ∀ (s : Shared) (H : Hp) (C : Addr) (cl : List (Str × Addr)) (fp : List Addr), PTs (X.blk s H scope (compEnvC scope cl C X.env) fp) ifs (tT G W0 tt))
    (he : ∀ (s : Shared) (H : Hp) (C : Addr) (cl : List (Str × Addr)) (fp : List Addr), DE (X.blk s H scope (compEnvC scope cl C X.env) fp) G W0 elt te) (hS : ∀ i ∈ S, i ∈ own.map (·.2) := by decide) (hs : ∀ x, foldedSetIterable iter X.env x = pure x := by intro _; rfl) :
    DE X G W (.ListComp elt [⟨tg, iter, ifs, 0⟩] scope pos) (eLc fin mi g tt te (own.map (·.2))) := PE.imp (pe_lc hc hN hi ok hg ht he hs) (lc_imp hf hS)
end
end DL

/-! A def's promise where no repr is under way around it (so that repr of data may be asked within): its rule, its calls, a law's end. -/
namespace DL
open PySem PySem.Spec PyProof.Rows L2

/-- as FnOk, told of calls with nothing guarded around -/
structure FnG (P : Program) (w : World) (K : PySem.W.Frag) (mg : Str → Option Value) (base : Heap) (k : Nat) (f : Addr) (fd : FuncData) (ps : List Str) (sp : Sp) : Prop where
  len : ∀ vs H Q E, sp vs H Q E → vs.length = ps.length
  run : ∀ (A : Around) (outer : List Env) (s : Shared) (H : Hp) (args : Args) (us : List Value) (vs : List V) (Q : VK) (E : XK), A.guards = some [] → Room k A → Env0 P w K mg base A outer s H → BindsTo s fd args (ps.zip us) → Vals vs us → sp vs H Q E →
    codeAny (model P w) A (.call (.ref f) args) (CR (L2.CX P w) outer P w H s Q E) s
theorem FnG.mono {P : Program} {w : World} {K : PySem.W.Frag} {mg : Str → Option Value} {base : Heap} {j k : Nat} {f : Addr} {fd : FuncData} {ps : List Str} {sp : Sp} (F : FnG P w K mg base j f fd ps sp) (h : j ≤ k) : FnG P w K mg base k f fd ps sp :=
  ⟨F.len, fun A outer s H args us vs Q E g r => F.run A outer s H args us vs Q E g (r.mono h)⟩
theorem FnG.imp {P : Program} {w : World} {K : PySem.W.Frag} {mg : Str → Option Value} {base : Heap} {k : Nat} {f : Addr} {fd : FuncData} {ps : List Str} {sp sp' : Sp} (F : FnG P w K mg base k f fd ps sp) (h : ∀ vs H Q E, sp' vs H Q E → sp vs H Q E) : FnG P w K mg base k f fd ps sp' :=
  ⟨fun vs H Q E q => F.len vs H Q E (h _ _ _ _ q), fun A outer s H args us vs Q E g r e b v q => F.run A outer s H args us vs Q E g r e b v (h _ _ _ _ q)⟩

theorem guards_deeper {A : Around} {env : Env} (h : A.guards = some []) : (A.deeper env).guards = some [] := h

section
variable {P : Program} {w : World} {K : PySem.W.Frag} {mg : Str → Option Value} {base : Heap}
/-- a def of the text by its body -/
theorem fnG_of {k : Nat} {f : Addr} {name qual : Str} {params : Arguments} {body : List Stmt} {sc : Scope} {dV kV doc pm cdv ct oc : Value} {an od : Option Addr} {osl : Array (Option Value)} {N ps : List Str} {sp : Sp}
    (lk : K.lookup f = some ⟨oc, od, .func (PySem.W.fnOf name qual params body sc dV kV doc pm an cdv ct), osl⟩) (cd : PySem.W.codeIn K cdv qual = true) (S : FnScope N ps sc) (len : ∀ vs H Q E, sp vs H Q E → vs.length = ps.length)
    (bd : ∀ (A : Around) (outer : List Env) (s : Shared) (H : Hp) (vs : List V) (Q : VK) (E : XK), A.guards = some [] → Room k (A.deeper (envOfC qual sc s.heap.objs.size f cdv)) → sp vs H Q E →
      ∃ t, PSs (cxOf (L2.CX P w) P w K mg base N qual sc f cdv A outer s H E) body t ∧ t ⟨fun _ H' => Q .non H', Q, fun _ _ => False, fun _ _ => False⟩ (L2.start N vs) H) :
    FnG P w K mg base (k + 1) f (PySem.W.fnOf name qual params body sc dV kV doc pm an cdv ct) ps sp := by
  constructor
  · exact len
  intro A outer s H args us vs Q E g room e0 bt rv hsp
  have hlen : vs.length = ps.length := len vs H Q E hsp
  have inK : K.In s.heap := e0.mod.kin.keeps (fun b o q => (e0.bs b o q).1)
  have nolim : s.heap.NoLimit := e0.mod.nolimit.keeps (fun b o q => (e0.bs b o q).1)
  have kinds : ∀ z ∈ ps.zip us, sc.names.lookup z.1 = some .local ∨ (sc.names.lookup z.1 = some .cell ∧ ((cellsFrom (s.heap.objs.size + 1) sc.names []).lookup z.1).isSome = true) := by
    rintro ⟨n, v⟩ hz
    rcases S.par n (List.of_mem_zip hz).1 with h | h
    · exact Or.inl h
    · exact Or.inr ⟨h, PySem.W.cellsFrom_some _ _ _ (Or.inl h)⟩
  apply codeAny_call_function room.depth (inK _ _ lk) rfl S.co S.gen rfl (PySem.W.codeRec_of inK cd) (bt _ _ _ _ _)
  apply wpAny_newFunctionEnv_cells S.kind kinds
  rintro env rfl s1 x
  refine ⟨nolim.keeps x.toInCall.keep, ?_⟩
  apply codeAny_func
  obtain ⟨t, h1, h2⟩ := bd A outer s H vs Q E g (room.deeper _) hsp
  have I := inv_start (CX := L2.CX P w) (E := E) S room.hd e0 hlen rv x
  apply wpAny_mono (h1.run [] s1 (L2.start N vs) H _ I h2)
  · rintro fl s' q
    cases fl with
    | brk => exact (by obtain ⟨_, _, _, q⟩ := q; exact q.elim)
    | cont => exact (by obtain ⟨_, _, _, q⟩ := q; exact q.elim)
    | next =>
      obtain ⟨σ', H', J, q⟩ := q
      exact ⟨V.non, H', J.os, J.bare, J.base, J.hok, rfl, q⟩
    | ret u =>
      obtain ⟨v, σ', H', J, r, q⟩ := q
      exact ⟨v, H', J.os, J.bare, J.base, J.hok, r, q⟩
  · exact fun e s' q => q
/-- THE RULE for a def -/
theorem fn_okG {G : GT} {x qual : Str} {st : Stmt} {f : Addr} {fd : FuncData} {N ps : List Str} {k : Nat} {B : MS} (F : Fun G.K x qual st f fd) (S : FnScope N ps (defScope st))
    (hB : ∀ (cdv : Value) (A : Around) (outer : List Env) (s : Shared) (H : Hp) (E : XK), (cxOf (L2.CX P w) P w G.K mg base N qual (defScope st) f cdv A outer s H E).A.guards = some [] → Room k (cxOf (L2.CX P w) P w G.K mg base N qual (defScope st) f cdv A outer s H E).A →
      Takes (cxOf (L2.CX P w) P w G.K mg base N qual (defScope st) f cdv A outer s H E) (fun cls d _ H => E cls d H) →
      PassesOwn (model P w) (cxOf (L2.CX P w) P w G.K mg base N qual (defScope st) f cdv A outer s H E).A (cxOf (L2.CX P w) P w G.K mg base N qual (defScope st) f cdv A outer s H E).env (cxOf (L2.CX P w) P w G.K mg base N qual (defScope st) f cdv A outer s H E).xe →
      DSs (cxOf (L2.CX P w) P w G.K mg base N qual (defScope st) f cdv A outer s H E) G (fun cls d _ H => E cls d H) (defBody st) B) :
    FnG P w G.K mg base (k + 1) f fd ps (spD G ps.length (runB N.length B)) := by
  obtain ⟨oc, od, kV, doc, pm, an, cdv, ct, osl, rfl, lk, hcd⟩ := F.ex
  apply fnG_of lk hcd S (fun vs H Q E h => h.1)
  intro A outer s H vs Q E g hr h
  obtain ⟨hn, w0, μ, bs, lay, r, p⟩ := h
  have tk : Takes (cxOf (L2.CX P w) P w G.K mg base N qual (defScope st) f cdv A outer s H E) (fun cls d _ H => E cls d H) := takes_of rfl rfl rfl rfl
  refine ⟨_, hB cdv A outer s H E g hr tk (passes_of rfl), w0, μ, _, lay, env_start r, ?_⟩
  unfold runB at p
  cases q : B (bs.map some ++ List.replicate (N.length - bs.length) none) μ with
  | bad => rw [q] at p; exact p.elim
  | ex e μ' =>
    rw [q] at p
    exact fun w' cls d _ H' l lay' r' => p w' cls d H' l lay' r'
  | ok fl μ' =>
    rw [q] at p
    cases fl with
    | nx ρ => exact fun w' σ' H' l lay' _ => p w' .non H' l lay' .non
    | rt b => exact p
    | bk ρ => exact p.elim
    | ct ρ => exact p.elim
end

section
variable {X : Cx} {G : GT} {W : WX} {e : Expr} {es : List Expr} {mas : MA} {pos p : Pos} {x : Str} {k n : Nat} {f : Addr} {fd : FuncData} {ps ks : List Str} {F : OpN} {sp : Sp} {E : L2.St → XK}
theorem runG {pins : List (Addr × Obj)} {σ : L2.St} {H : Hp} {s : Shared} {Q : VK} {us : List Value} {vs : List V} {args : Args} (hF : FnG X.prog X.w X.K X.mg X.base k f fd ps sp) (g : X.A.guards = some []) (hr : Room k X.A) (hx : PassesAt (L2.CX X.prog X.w) X σ (E σ)) (I : Inv X pins σ H s)
    (hb : BindsTo s fd args (ps.zip us)) (r : Vals vs us) (h : sp vs H Q (E σ)) : codeAny (model X.prog X.w) X.A (.call (.ref f) args) (fun r s' => match r with | .ok (.ret u) => EP X pins σ Q u s' | .ok _ => False | .error e => X.xe e s') s := by
  apply codeAny_mono (hF.run X.A X.stack s H args us vs Q (E σ) g hr I.env0 hb r h)
  rintro (e | fl) s' q
  · exact hx pins H s e s' I q
  · cases fl with
    | ret u => exact I.after q
    | next => exact q.elim
    | brk => exact q.elim
    | cont => exact q.elim
theorem de_callG (hF : FnG X.prog X.w X.K X.mg X.base k f fd ps (spD G n F)) (g : X.A.guards = some []) (hr : Room k X.A) (hg : Gl X x) (hm : X.mg x = some (.ref f)) (hk : PySem.W.keepIn X.K (.ref f) = true) (hb : Binds X.K fd ps []) (tk : Takes X W)
    (ha : DA X G W (e :: es) mas) (hdb : (x == ("__debug__" : Str)) = false := by decide) (he : starEach (e :: es) X.env = (false, eval e X.env) :: starEach es X.env := by rfl) (hpl : (backTo pos (starEach es X.env)).any (·.1) = false := by rfl) :
    DE X G W (.Call (.Name x p) (e :: es) [] pos) (eN (fCall n F) mas) := by
  apply PE.imp (t := tCallSD (spD G n F) [] (WE W) (tA G W mas)) _ call_imp
  constructor
  intro pins s σ H Q I h
  apply wpAny_Call_Name_kw
  apply ld_glob I hg hm _ hdb
  apply PySem.W.callWith_K (h₀ := X.base) I.ok.mod.kin hk _ he hpl
  apply thn (ha.run pos pins s σ H _ I h)
  rintro us s1 ⟨vs, H1, I1, r, q⟩
  refine ⟨I1.kIn, ?_⟩
  rw [List.append_nil] at q
  have hl : (us ++ ([] : List Value)).length = ps.length := by rw [List.append_nil, ← r.length]; exact hF.len _ _ _ _ q
  have hb1 := hb s1 us I1.kIn hl
  rw [List.append_nil] at hb1
  apply wpAny_call
  apply codeAny_mono (runG hF g hr (fun _ _ _ _ _ I c => passAt tk σ _ _ _ _ _ I c) I1 hb1 r q)
  rintro (e | fl) s' q
  · exact q
  · cases fl with
    | ret u => exact q
    | next => exact q.elim
    | brk => exact q.elim
    | cont => exact q.elim
end
end DL

/-! Operations of the data layer: numbers, comparisons, membership. -/
namespace DL
open PySem PySem.Spec PyProof.Rows L2
section
variable {G : GT} {w : Wd} {v : V}
theorem rv_int {i : Int} (r : Rv G w v (.d (.int i))) : v = .int i := by
  have r : Rp G.K w.I v (.int i) := r
  cases r; rfl
theorem rv_str {z : Str} (r : Rv G w v (.d (.str z))) : v = .str z := by
  have r : Rp G.K w.I v (.str z) := r
  cases r; rfl
theorem rv_bl {k : Bool} (r : Rv G w v (.d (.bool k))) : v = .bl k := by
  have r : Rp G.K w.I v (.bool k) := r
  cases r; rfl
theorem rv_non (r : Rv G w v (.d .none)) : v = .non := by
  have r : Rp G.K w.I v .none := r
  cases r; rfl
theorem rv_lst {ds : List D} (r : Rv G w v (.d (.list ds))) : ∃ a xs, v = .ref a ∧ SqL G.K w.I a xs ∧ RpA G.K w.I xs ds := by
  have r : Rp G.K w.I v (.list ds) := r
  cases r with
  | lst h1 h2 => exact ⟨_, _, rfl, h1, h2⟩
theorem rv_tup {ds : List D} (r : Rv G w v (.d (.tuple ds))) : ∃ a xs, v = .ref a ∧ SqT G.K w.I a xs ∧ RpA G.K w.I xs ds := by
  have r : Rp G.K w.I v (.tuple ds) := r
  cases r with
  | tup h1 h2 => exact ⟨_, _, rfl, h1, h2⟩
theorem rv_ints {ns : List Int} {xs : List V} {I : Hp} {K : PySem.W.Frag} : RpA K I xs (ns.map .int) → xs = ns.map .int := by
  induction ns generalizing xs with
  | nil => intro h; cases h; rfl
  | cons n ns ih =>
    intro h
    cases h with
    | cons r t => cases r; rw [ih t]; rfl
theorem rv_strs {ns : List Str} {xs : List V} {I : Hp} {K : PySem.W.Frag} : RpA K I xs (ns.map .str) → xs = ns.map .str := by
  induction ns generalizing xs with
  | nil => intro h; cases h; rfl
  | cons n ns ih =>
    intro h
    cases h with
    | cons r t => cases r; rw [ih t]; rfl
theorem rv_bls {ns : List Bool} {xs : List V} {I : Hp} {K : PySem.W.Frag} : RpA K I xs (ns.map .bool) → xs = ns.map .bl := by
  induction ns generalizing xs with
  | nil => intro h; cases h; rfl
  | cons n ns ih =>
    intro h
    cases h with
    | cons r t => cases r; rw [ih t]; rfl
theorem RpA_strs {K : PySem.W.Frag} {I : Hp} : ∀ ns : List Str, RpA K I (ns.map V.str) (ns.map PyData.str)
  | [] => .nil
  | n :: ns => .cons (.str n) (RpA_strs ns)
/-- the items of a list that is read: frozen, or a cell's -/
theorem rv_cell {μ : Store} {H : Hp} {n : Nat} {xs : List Dv} (l : Lay G w μ H) (r : Rv G w v (.c n)) (e : μ[n]? = some (.lst xs)) : ∃ a vs, v = .ref a ∧ w.α[n]? = some a ∧ H a = some (.lst vs) ∧ Rvs G w vs xs := by
  obtain ⟨a, h1, rfl⟩ := r
  obtain ⟨_, vs, h2, h3⟩ := l.at_ n _ a e h1
  exact ⟨a, vs, rfl, h1, h2, h3⟩
end
/-- a cell's, or a frozen list's items; a tuple's -/
def items : Dv → Store → Option (List Dv)
  | .d (.list ds), _ => some (ds.map .d)
  | .c n, μ => match μ[n]? with
    | some (.lst xs) => some xs
    | _ => none
  | _, _ => none
theorem items_ok {G : GT} {w : Wd} {v : V} {μ : Store} {H : Hp} {b : Dv} {xs : List Dv} (l : Lay G w μ H) (r : Rv G w v b) (e : items b μ = some xs) : ∃ a vs, v = .ref a ∧ SqL G.K H a vs ∧ Rvs G w vs xs := by
  unfold items at e
  split at e
  · cases e
    obtain ⟨a, vs, rfl, h1, h2⟩ := rv_lst r
    exact ⟨a, vs, rfl, seqL l.same h1, Rvs_of_RpA h2⟩
  · split at e
    · rename_i h
      cases e
      obtain ⟨a, vs, rfl, _, h2, h3⟩ := rv_cell l r h
      exact ⟨a, vs, rfl, SqL.of h2, h3⟩
    · cases e
  · cases e
def itemsT : Dv → Option (List Dv)
  | .d (.tuple ds) => some (ds.map .d)
  | _ => none
/-- the datum that a value is just now -/
def view : Dv → Store → Option D
  | .d x, _ => some x
  | .c n, μ => match μ[n]? with
    | some (.lst xs) => match allD xs with
      | some ds => some (.list ds)
      | none => none
    | _ => none
  | _, _ => none
theorem Rp.inH {G : GT} {w : Wd} {μ : Store} {H : Hp} {v : V} {x : D} (l : Lay G w μ H) (r : Rp G.K w.I v x) : Rp G.K H v x := Rp.mono l.same _ _ r
theorem view_ok {G : GT} {w : Wd} {v : V} {μ : Store} {H : Hp} {b : Dv} {x : D} (l : Lay G w μ H) (r : Rv G w v b) (e : view b μ = some x) : Rp G.K H v x := by
  cases b with
  | d y => cases e; exact Rp.inH l r
  | f n => cases e
  | c n =>
    unfold view at e
    simp only at e
    split at e
    · rename_i xs h
      split at e
      · rename_i ds q
        cases e
        obtain ⟨a, vs, rfl, _, h2, h3⟩ := rv_cell l r h
        rw [allD_eq q] at h3
        exact .lst (SqL.of h2) (RpA.mono l.same _ _ (RpA_of_Rvs h3))
      · cases e
    · cases e

/-! ### numbers -/
def dNum (C : Int → Int → Bool) (g : Int → Int → Int) : Op2 := fun x y μ => match x, y with
  | .d (.int i), .d (.int j) => if C i j = true then .ok (.d (.int (g i j))) μ else .bad
  | _, _ => .bad
theorem ok_num {G : GT} {C : Int → Int → Bool} {C' : Int → Int → Prop} {g : Int → Int → Int} (h : ∀ i j, C i j = true → C' i j) : Ok2 G (rI C' fun i j => .int (g i j)) (dNum C g) := by
  intro W σ w μ H x y b c Q l rx ry p
  unfold dNum at p
  split at p
  · rename_i i j
    by_cases q : C i j = true
    · rw [if_pos q] at p
      exact ⟨i, j, rv_int rx, rv_int ry, h i j q, p w _ H w.le_refl l (.int _)⟩
    · rw [if_neg q] at p; exact p.elim
  · exact p.elim
def dInt2 (g : Int → Int → D) : Op2 := fun x y μ => match x, y with
  | .d (.int i), .d (.int j) => .ok (.d (g i j)) μ
  | _, _ => .bad
theorem ok_int2 {G : GT} {g : Int → Int → Int} : Ok2 G (rI0 fun i j => .int (g i j)) (dInt2 fun i j => .int (g i j)) := by
  intro W σ w μ H x y b c Q l rx ry p
  unfold dInt2 at p
  split at p
  · rename_i i j
    exact ⟨i, j, rv_int rx, rv_int ry, p w _ H w.le_refl l (.int _)⟩
  · exact p.elim
theorem ok_int2b {G : GT} {g : Int → Int → Bool} : Ok2 G (rI0 fun i j => .bl (g i j)) (dInt2 fun i j => .bool (g i j)) := by
  intro W σ w μ H x y b c Q l rx ry p
  unfold dInt2 at p
  split at p
  · rename_i i j
    exact ⟨i, j, rv_int rx, rv_int ry, p w _ H w.le_refl l (.bl _)⟩
  · exact p.elim
def cMul (i j : Int) : Bool := decide ((Builtin.Int.intBits i : Int) + (Builtin.Int.intBits j : Int) ≤ 134217728)
def cDiv (_ j : Int) : Bool := decide (0 < j) && decide (j.natAbs.log2 < 9000)
def cMod (_ j : Int) : Bool := decide (0 < j)
def cPow (i j : Int) : Bool := decide (0 ≤ j) && decide (j ≤ 1000000) && decide (i.natAbs < 2 ^ 64)
abbrev dMul : Op2 := dNum cMul fun i j => i * j
abbrev dDiv : Op2 := dNum cDiv fun i j => i / j
abbrev dMod : Op2 := dNum cMod fun i j => i % j
abbrev dPow : Op2 := dNum cPow fun i j => i ^ j.toNat
theorem ok_mul {G : GT} : Ok2 G (rI CMulX fun i j => .int (i * j)) dMul := ok_num fun i j h => by
  unfold cMul at h
  unfold CMulX
  exact of_decide_eq_true h
theorem ok_div {G : GT} : Ok2 G (rI CDivW fun i j => .int (i / j)) dDiv := ok_num fun i j h => by
  unfold cDiv at h
  simp only [Bool.and_eq_true, decide_eq_true_eq] at h
  exact h
theorem ok_mod {G : GT} : Ok2 G (rI (fun _ j => 0 < j) fun i j => .int (i % j)) dMod := ok_num fun i j h => of_decide_eq_true h
theorem ok_pow {G : GT} : Ok2 G (rI CPow fun i j => .int (i ^ j.toNat)) dPow := ok_num fun i j h => by
  unfold cPow at h
  simp only [Bool.and_eq_true, decide_eq_true_eq] at h
  exact ⟨h.1.1, h.1.2, h.2⟩
abbrev dSub : Op2 := dInt2 fun i j => .int (i - j)
theorem ok_sub {G : GT} : Ok2 G (rI0 fun i j => .int (i - j)) dSub := ok_int2
def dNeg : Op1 := fun x μ => match x with
  | .d (.int i) => .ok (.d (.int (-i))) μ
  | _ => .bad
theorem ok_neg {G : GT} : Ok1 G (rU fun i => .int (-i)) dNeg := by
  intro W σ w μ H x b Q l rx p
  unfold dNeg at p
  split at p
  · exact ⟨_, rv_int rx, p w _ H w.le_refl l (.int _)⟩
  · exact p.elim

/-! ### + and * of sequences -/
/-- two lists that may be read -/
def rCatS (K : PySem.W.Frag) : R2 := fun x y H Q => ∃ l b xs zs, x = .ref l ∧ y = .ref b ∧ SqL K H l xs ∧ SqL K H b zs ∧ xs.length + zs.length ≤ sizeLine ∧ ∀ p, H p = none → Q (.ref p) (upd H p (.lst (xs ++ zs)))
theorem op_catS {X : Cx} : OpR X (binaryOp .Add) (rCatS X.K) := by
  intro pins s σ H x y v u Q I rx ry h
  obtain ⟨l, b, xs, zs, rfl, rfl, hx, hy, hz, q⟩ := h
  cases rx
  cases ry
  obtain ⟨its, r, ⟨o, n, e, hc, hd, hdt⟩, _⟩ := I.list hx
  obtain ⟨its2, r2, ⟨o2, n2, e2, hc2, hd2, hdt2⟩, _⟩ := I.list hy
  obtain ⟨cls, dd, data, sl⟩ := o
  obtain ⟨cls2, dd2, data2, sl2⟩ := o2
  simp only at hc hd hdt hc2 hd2 hdt2
  subst hc hd hdt hc2 hd2 hdt2
  have hsz : its.toArray.size + its2.toArray.size ≤ sizeLine := by rw [List.size_toArray, List.size_toArray, ← r.length, ← r2.length]; exact hz
  have ty1 : s.TypeIs (.ref l) "list" := ⟨_, e, rfl⟩
  have ty2 : s.TypeIs (.ref b) "list" := ⟨_, e2, rfl⟩
  refine concat_meets ty1 ty2 noFill_list_add seq_list_add PySem.F.slot_list_add PySem.F.entry_list_add (PySem.F.args_list_add_2 _ _) (list_addW l b its.toArray its2.toArray n n2 none none sl sl2 hsz) ⟨e, e2, ?_⟩
  have ea : its.toArray ++ its2.toArray = (its ++ its2).toArray := by simp
  rw [ea]
  refine ⟨.ref s.heap.objs.size, _, I.laid (t' := s.toks) (o := .lst (xs ++ zs)) (fun b ob q => Heap.get?_push_of_some _ q) (Nat.le_refl _) ?_, rfl, q _ (I.hok.fresh (Nat.le_refl _))⟩
  exact ⟨by rw [List.length_append]; exact hz, its ++ its2, 0, r.append r2, Heap.get?_push_size _ rfl⟩
def rMulS : R2 := fun x y H Q => ∃ z i, x = .str z ∧ y = .int i ∧ MulOk z i ∧ Q (.str (Txt.mul z i)) H
theorem op_mulS {X : Cx} : OpR X (binaryOp .Mult) rMulS := by
  intro pins s σ H x y v u Q I rx ry h
  obtain ⟨z, i, rfl, rfl, hm, q⟩ := h
  obtain ⟨t, rfl⟩ := rx
  obtain ⟨t', rfl⟩ := ry
  exact SB.mul hm fun t2 k => ⟨.str _, H, I.tok k, ⟨t2, rfl⟩, q⟩
def dAdd : Op2 := fun x y μ => match x, y with
  | .d (.int i), .d (.int j) => .ok (.d (.int (i + j))) μ
  | .d (.str a), .d (.str b) => if a.length + b.length ≤ sizeLine then .ok (.d (.str (a ++ b))) μ else .bad
  | .d (.tuple xs), .d (.tuple ys) => if xs.length + ys.length ≤ sizeLine then .ok (.d (.tuple (xs ++ ys))) μ else .bad
  | _, _ => match items x μ, items y μ with
    | some xs, some ys => dList (xs ++ ys) μ
    | _, _ => .bad
def rAdd (K : PySem.W.Frag) : R2 := fun x y H Q => rI0 (fun i j => .int (i + j)) x y H Q ∨ (∃ i j, x = .str i ∧ y = .str j ∧ i.length + j.length ≤ sizeLine ∧ Q (.str (i ++ j)) H) ∨ rCatA K x y H Q ∨ rCatS K x y H Q
theorem op_addA {X : Cx} : OpR X (binaryOp .Add) (DL.rAdd X.K) := op_add.or (op_add_str.or (op_catA.or op_catS))
theorem ok_add {G : GT} : Ok2 G (DL.rAdd G.K) dAdd := by
  intro W σ w μ H x y b c Q l rx ry p
  unfold dAdd at p
  split at p
  · exact .inl ⟨_, _, rv_int rx, rv_int ry, p w _ H w.le_refl l (.int _)⟩
  · split at p
    · rename_i h
      exact .inr (.inl ⟨_, _, rv_str rx, rv_str ry, h, p w _ H w.le_refl l (.str _)⟩)
    · exact p.elim
  · split at p
    · rename_i xs ys h
      obtain ⟨a, us, rfl, h1, h2⟩ := rv_tup rx
      obtain ⟨b, vs, rfl, h3, h4⟩ := rv_tup ry
      refine .inr (.inr (.inl ⟨a, b, us, vs, rfl, rfl, seqT l.same h1, seqT l.same h3, by rw [h2.length, h4.length]; exact h, fun e => ?_, fun _ e => ?_, fun _ _ p' np => ?_⟩))
      · subst e
        cases h2
        exact p w _ H w.le_refl l (.tup h3 h4)
      · subst e
        cases h4
        rw [List.append_nil] at p
        exact p w _ H w.le_refl l (.tup h1 h2)
      · obtain ⟨le, l2⟩ := l.new np (.tup (us ++ vs))
        exact p _ _ _ le l2 (.tup (SqT.of upd_same) (RpA.mono le.1 _ _ (h2.app h4)))
    · exact p.elim
  · split at p
    · rename_i xs ys h1 h2
      obtain ⟨a, us, rfl, g1, g2⟩ := items_ok l rx h1
      obtain ⟨b, vs, rfl, g3, g4⟩ := items_ok l ry h2
      have r : Rvs G w (us ++ vs) (xs ++ ys) := Paired.rec (motive := fun l m _ => Rvs G w (l ++ vs) (m ++ ys)) g4 (fun r _ ih => .cons r ih) g2
      obtain ⟨hz, q⟩ := list_new l r p
      exact .inr (.inr (.inr ⟨a, b, us, vs, rfl, rfl, g1, g3, by rw [List.length_append] at hz; exact hz, q⟩))
    · exact p.elim

/-! ### == -/
def scalD : D → D → Bool
  | .none, .none => true | .none, .int _ => true | .int _, .none => true | .none, .bool _ => true | .bool _, .none => true | .none, .str _ => true | .str _, .none => true
  | .int _, .int _ => true | .bool _, .bool _ => true | .str _, .str _ => true
  | .int _, .str _ => true | .str _, .int _ => true | .bool _, .str _ => true | .str _, .bool _ => true
  | _, _ => false
mutual
theorem nodict_of0 : ∀ d : D, d.canLay0 = true → nodict d = true
  | .none, _ => rfl
  | .bool _, _ => rfl
  | .int _, _ => rfl
  | .str _, _ => rfl
  | .list ds, h => by
    rw [nodict]
    exact nodicts_of0 ds (by simpa [PyData.canLay0] using h)
  | .tuple ds, h => by
    rw [nodict]
    exact nodicts_of0 ds (by simpa [PyData.canLay0] using h)
  | .dict _, h => by simp [PyData.canLay0] at h
theorem nodicts_of0 : ∀ ds : List D, PyData.canLayAll0 ds = true → nodicts ds = true
  | [], _ => rfl
  | d :: ds, h => by
    simp only [PyData.canLayAll0, Bool.and_eq_true] at h
    simp only [nodicts, Bool.and_eq_true]
    exact ⟨nodict_of0 d h.1, nodicts_of0 ds h.2⟩
end
theorem nodict_of {d : D} (h : SeqAt.shaped d = true) : nodict d = true := nodict_of0 d (SeqAt.canLay_of_shaped h)
/-- == of two data -/
def eqD (x y : D) : Option Bool := if scalD x y = true then some (PyData.eqv x y) else if SeqAt.shaped x && SeqAt.shaped y then some (PyData.eqv x y) else none
def dEq (neg : Bool) : Op2 := fun x y μ => match view x μ, view y μ with
  | some a, some b => match eqD a b with
    | some k => .ok (.d (.bool (if neg then !k else k))) μ
    | none => .bad
  | _, _ => .bad
theorem scal_of {K : PySem.W.Frag} {H : Hp} : ∀ {x y : D} {v u : V}, Rp K H v x → Rp K H u y → scalD x y = true → scal v u = true ∧ decide (v = u) = PyData.eqv x y := by
  intro x y v u r q h
  cases r <;> cases q <;> first | (refine ⟨rfl, ?_⟩; simp [PyData.eqv]; done) | cases h
  · rename_i a b
    refine ⟨rfl, ?_⟩
    rw [dec_bl]
    simp only [PyData.eqv]
  · rename_i a b
    refine ⟨rfl, ?_⟩
    rw [dec_int]
    simp only [PyData.eqv]
  · rename_i a b
    refine ⟨rfl, ?_⟩
    rw [dec_str]
    simp only [PyData.eqv]
def rEqA (K : PySem.W.Frag) : R2 := fun x y H Q => rEq x y H Q ∨ rEqD K x y H Q
def rNeA (K : PySem.W.Frag) : R2 := fun x y H Q => rNe x y H Q ∨ rNeD K x y H Q
theorem op_eqA {X : Cx} (hu : X.A.units + 64 < cLine) : OpR X (compareOp .Eq) (rEqA X.K) := op_eq.or (op_eqD hu)
theorem op_neA {X : Cx} (hu : X.A.units + 64 < cLine) : OpR X (compareOp .NotEq) (rNeA X.K) := op_ne.or (op_neD hu)
theorem ok_eq {G : GT} : Ok2 G (rEqA G.K) (dEq false) := by
  intro W σ w μ H x y b c Q l rx ry p
  unfold dEq at p
  split at p
  · rename_i a1 b1 h1 h2
    have r1 := view_ok l rx h1
    have r2 := view_ok l ry h2
    unfold eqD at p
    by_cases hs : scalD a1 b1 = true
    · simp only [if_pos hs] at p
      obtain ⟨g1, g2⟩ := scal_of r1 r2 hs
      exact .inl ⟨g1, p w _ H w.le_refl l (by rw [g2]; exact .bl _)⟩
    · simp only [if_neg hs] at p
      by_cases hd : (SeqAt.shaped a1 && SeqAt.shaped b1) = true
      · simp only [if_pos hd] at p
        simp only [Bool.and_eq_true] at hd
        exact .inr ⟨a1, b1, Rp.dp _ _ (nodict_of hd.1) r1, Rp.dp _ _ (nodict_of hd.2) r2, hd.1, hd.2, p w _ H w.le_refl l (.bl _)⟩
      · simp only [if_neg hd] at p
        exact p.elim
  · exact p.elim
theorem ok_ne {G : GT} : Ok2 G (rNeA G.K) (dEq true) := by
  intro W σ w μ H x y b c Q l rx ry p
  unfold dEq at p
  split at p
  · rename_i a1 b1 h1 h2
    have r1 := view_ok l rx h1
    have r2 := view_ok l ry h2
    unfold eqD at p
    by_cases hs : scalD a1 b1 = true
    · simp only [if_pos hs] at p
      obtain ⟨g1, g2⟩ := scal_of r1 r2 hs
      exact .inl ⟨g1, p w _ H w.le_refl l (by rw [g2]; exact .bl _)⟩
    · simp only [if_neg hs] at p
      by_cases hd : (SeqAt.shaped a1 && SeqAt.shaped b1) = true
      · simp only [if_pos hd] at p
        simp only [Bool.and_eq_true] at hd
        exact .inr ⟨a1, b1, Rp.dp _ _ (nodict_of hd.1) r1, Rp.dp _ _ (nodict_of hd.2) r2, hd.1, hd.2, p w _ H w.le_refl l (.bl _)⟩
      · simp only [if_neg hd] at p
        exact p.elim
  · exact p.elim

/-! ### order of numbers and texts, is None -/
def dCmp (g : Int → Int → Bool) (h : List Nat → List Nat → Bool) : Op2 := fun x y μ => match x, y with
  | .d (.int i), .d (.int j) => .ok (.d (.bool (g i j))) μ
  | .d (.str a), .d (.str b) => .ok (.d (.bool (h a.cps.toList b.cps.toList))) μ
  | _, _ => .bad
def rCmp (g : Int → Int → Bool) (h : List Nat → List Nat → Bool) : R2 := fun x y H Q => rI0 (fun i j => .bl (g i j)) x y H Q ∨ ∃ i j, x = .str i ∧ y = .str j ∧ Q (.bl (h i.cps.toList j.cps.toList)) H
theorem ok_cmp {G : GT} {g : Int → Int → Bool} {h : List Nat → List Nat → Bool} : Ok2 G (rCmp g h) (dCmp g h) := by
  intro W σ w μ H x y b c Q l rx ry p
  unfold dCmp at p
  split at p
  · exact .inl ⟨_, _, rv_int rx, rv_int ry, p w _ H w.le_refl l (.bl _)⟩
  · exact .inr ⟨_, _, rv_str rx, rv_str ry, p w _ H w.le_refl l (.bl _)⟩
  · exact p.elim
abbrev dLt : Op2 := dCmp (fun i j => decide (i < j)) fun a b => decide (a < b)
abbrev dLe : Op2 := dCmp (fun i j => decide (i ≤ j)) fun a b => !decide (b < a)
abbrev dGt : Op2 := dCmp (fun i j => decide (j < i)) fun a b => decide (b < a)
abbrev dGe : Op2 := dCmp (fun i j => decide (j ≤ i)) fun a b => !decide (a < b)
theorem op_ltA {X : Cx} : OpR X (compareOp .Lt) (rCmp (fun i j => decide (i < j)) fun a b => decide (a < b)) := op_lt.or op_lt_str
theorem op_leA {X : Cx} : OpR X (compareOp .LtE) (rCmp (fun i j => decide (i ≤ j)) fun a b => !decide (b < a)) := op_le.or op_le_str
theorem op_gtA {X : Cx} : OpR X (compareOp .Gt) (rCmp (fun i j => decide (j < i)) fun a b => decide (b < a)) := op_gt.or op_gt_str
theorem op_geA {X : Cx} : OpR X (compareOp .GtE) (rCmp (fun i j => decide (j ≤ i)) fun a b => !decide (a < b)) := op_ge.or op_ge_str
def isNone : D → Bool
  | .none => true
  | _ => false
/-- x is None (the other side is written) -/
def dIsN (neg : Bool) : Op2 := fun x _ μ => match x with
  | .d a => .ok (.d (.bool (if neg then !isNone a else isNone a))) μ
  | .c _ => .ok (.d (.bool neg)) μ
  | .f _ => .ok (.d (.bool neg)) μ
theorem non_iff {G : GT} {w : Wd} {v : V} {a : D} (r : Rv G w v (.d a)) : decide (v = V.non) = isNone a := by
  have r : Rp G.K w.I v a := r
  cases r <;> rfl
section
variable {X : Cx} {G : GT} {W : WX} {a : Expr} {ma : ME} {pos : Pos}
def eIsN (neg : Bool) (a : ME) : ME := fun ρ μ => (a ρ μ).bind fun x μ => dIsN neg x (.d .none) μ
theorem isN_imp : ∀ σ H Q, tE G W (eIsN false ma) σ H Q → tIsN (tE G W ma) σ H Q := by
  rintro σ H Q ⟨w, μ, ρ, hl, he, p⟩
  refine tD.seq (k := fun ρ x μ => dIsN false x (.d .none) μ) hl he p fun w1 μ1 H1 v b l1 lay1 en1 r1 p1 => ?_
  cases b with
  | d x => rw [non_iff r1]; exact p1 w1 _ H1 w1.le_refl lay1 (.bl _)
  | c n => obtain ⟨a, _, rfl⟩ := r1; exact p1 w1 _ H1 w1.le_refl lay1 (.bl _)
  | f n => obtain ⟨a, _, rfl⟩ := r1; exact p1 w1 _ H1 w1.le_refl lay1 (.bl _)
theorem notN_imp : ∀ σ H Q, tE G W (eIsN true ma) σ H Q → tNotN (tE G W ma) σ H Q := by
  rintro σ H Q ⟨w, μ, ρ, hl, he, p⟩
  refine tD.seq (k := fun ρ x μ => dIsN true x (.d .none) μ) hl he p fun w1 μ1 H1 v b l1 lay1 en1 r1 p1 => ?_
  cases b with
  | d x => rw [non_iff r1]; exact p1 w1 _ H1 w1.le_refl lay1 (.bl _)
  | c n => obtain ⟨a, _, rfl⟩ := r1; exact p1 w1 _ H1 w1.le_refl lay1 (.bl _)
  | f n => obtain ⟨a, _, rfl⟩ := r1; exact p1 w1 _ H1 w1.le_refl lay1 (.bl _)
theorem de_isN {j pos'} (ha : DE X G W a ma) : DE X G W (.Compare a [.Is] [.Constant .none j pos'] pos) (eIsN false ma) := PE.imp (pe_cmp (pc_isN ha) rfl) isN_imp
theorem de_notN {j pos'} (ha : DE X G W a ma) : DE X G W (.Compare a [.IsNot] [.Constant .none j pos'] pos) (eIsN true ma) := PE.imp (pe_cmp (pc_notN ha) rfl) notN_imp
theorem dt_isN {j pos'} (ha : DE X G W a ma) : DT X G W (.Compare a [.Is] [.Constant .none j pos'] pos) (tV (eIsN false ma)) := PT.imp (pt_cmp (pc_isN ha) rfl) fun σ H Q q => isN_imp σ H _ (test_imp (m := eIsN false ma) σ H Q q)
theorem dt_notN {j pos'} (ha : DE X G W a ma) : DT X G W (.Compare a [.IsNot] [.Constant .none j pos'] pos) (tV (eIsN true ma)) := PT.imp (pt_cmp (pc_notN ha) rfl) fun σ H Q q => notN_imp σ H _ (test_imp (m := eIsN true ma) σ H Q q)
end
end DL

/-! Operations of the data layer: membership, items, slices, texts, built-ins. -/
namespace DL
open PySem PySem.Spec PyProof.Rows L2

/-! ### in -/
def flatD : D → Bool
  | .none => true | .bool _ => true | .int _ => true | .str _ => true
  | _ => false
def allFlat : List Dv → Option (List D)
  | [] => some []
  | .d x :: r => if flatD x = true then match allFlat r with
    | some xs => some (x :: xs)
    | none => none else none
  | _ :: _ => none
theorem allFlat_map : ∀ {ds : List D}, (∀ d ∈ ds, flatD d = true) → allFlat (ds.map .d) = some ds
  | [], _ => rfl
  | d :: ds, h => by
    rw [List.map_cons, allFlat, if_pos (h d List.mem_cons_self), allFlat_map fun x hx => h x (List.mem_cons_of_mem _ hx)]
theorem flat_V {K : PySem.W.Frag} {I : Hp} {v : V} {x : D} (r : Rp K I v x) (h : flatD x = true) : flatV v = true := by
  cases r <;> first | rfl | cases h
theorem flat_eqv {K : PySem.W.Frag} {I : Hp} {v u : V} {x y : D} (r : Rp K I v x) (q : Rp K I u y) (h : flatD x = true) (h' : flatD y = true) : eqV v u = PyData.eqv x y := by
  cases r <;> first | cases h | skip
  all_goals (cases q <;> first | cases h' | skip)
  all_goals first | rfl | simp [eqV, PyData.eqv]
theorem flat_all {G : GT} {w : Wd} {v : V} {x : D} (r : Rp G.K w.I v x) (h : flatD x = true) : ∀ {xs : List V} {bs : List Dv} {ds : List D}, Rvs G w xs bs → allFlat bs = some ds → xs.all flatV = true ∧ inV v xs = ds.any fun y => PyData.eqv y x := by
  intro xs bs
  induction bs generalizing xs with
  | nil =>
    intro ds rr e
    cases rr
    cases e
    exact ⟨rfl, rfl⟩
  | cons b bs ih =>
    intro ds rr e
    cases rr with
    | cons r1 rr =>
      cases b with
      | d y =>
        unfold allFlat at e
        by_cases hy : flatD y = true
        · rw [if_pos hy] at e
          cases q : allFlat bs with
          | none => rw [q] at e; cases e
          | some es =>
            rw [q] at e
            cases e
            obtain ⟨g1, g2⟩ := ih rr q
            refine ⟨?_, ?_⟩
            · rw [List.all_cons, g1, flat_V r1 hy]; rfl
            · show (_ :: _ : List V).any _ = _
              rw [List.any_cons, List.any_cons, flat_eqv r1 r hy h, ← g2]
              rfl
        · rw [if_neg hy] at e; cases e
      | c _ => cases e
      | f _ => cases e
def sub1 (a b : Str) : Bool := match a.cps.toList with
  | [c] => decide (c ∈ b.cps.toList)
  | _ => !(Builtin.Str.occurrences b a 0 b.length 1).isEmpty
def itemsA (y : Dv) (μ : Store) : Option (List Dv) := match itemsT y with
  | some xs => some xs
  | none => items y μ
def dIn (neg : Bool) : Op2 := fun x y μ => match x, y with
  | .d (.str a), .d (.str b) => .ok (.d (.bool (if neg then !sub1 a b else sub1 a b))) μ
  | .d a, y => match itemsA y μ with
    | some bs => match allFlat bs with
      | some ds => if flatD a = true then .ok (.d (.bool (if neg then !(ds.any fun y => PyData.eqv y a) else ds.any fun y => PyData.eqv y a))) μ else .bad
      | none => .bad
    | none => .bad
  | _, _ => .bad
def rInS (neg : Bool) : R2 := fun x y H Q => ∃ (c : Nat) (z : Str), x = .str ⟨#[c]⟩ ∧ y = .str z ∧ Q (.bl (if neg then !decide (c ∈ z.cps.toList) else decide (c ∈ z.cps.toList))) H
def rInT (neg : Bool) : R2 := fun x y H Q => ∃ i j, x = .str i ∧ y = .str j ∧ Q (.bl (if neg then !(!(Builtin.Str.occurrences j i 0 j.length 1).isEmpty) else !(Builtin.Str.occurrences j i 0 j.length 1).isEmpty)) H
def rInA (K : PySem.W.Frag) (neg : Bool) : R2 := fun x y H Q => rInS neg x y H Q ∨ rInT neg x y H Q ∨ rIn K neg x y H Q
theorem op_inA {X : Cx} : OpR X (compareOp .In) (rInA X.K false) := OpR.or (r := rInS false) op_in_sign (OpR.or (r := rInT false) op_in_str op_in_seq)
theorem op_notInA {X : Cx} : OpR X (compareOp .NotIn) (rInA X.K true) := OpR.or (r := rInS true) op_notIn_sign (OpR.or (r := rInT true) op_notIn_str op_notIn_seq)
theorem itemsA_ok {G : GT} {w : Wd} {v : V} {μ : Store} {H : Hp} {b : Dv} {xs : List Dv} (l : Lay G w μ H) (r : Rv G w v b) (e : itemsA b μ = some xs) : ∃ a vs, v = .ref a ∧ (SqL G.K H a vs ∨ SqT G.K H a vs) ∧ Rvs G w vs xs := by
  unfold itemsA at e
  split at e
  · rename_i ys h
    cases e
    unfold itemsT at h
    split at h
    · cases h
      obtain ⟨a, vs, rfl, h1, h2⟩ := rv_tup r
      exact ⟨a, vs, rfl, .inr (seqT l.same h1), Rvs_of_RpA h2⟩
    · cases h
  · obtain ⟨a, vs, rfl, h1, h2⟩ := items_ok l r e
    exact ⟨a, vs, rfl, .inl h1, h2⟩
theorem ok_in {G : GT} {neg : Bool} : Ok2 G (rInA G.K neg) (dIn neg) := by
  intro W σ w μ H x y b c Q l rx ry p
  unfold dIn at p
  split at p
  · rename_i a b
    by_cases hc : ∃ n, a.cps.toList = [n]
    · obtain ⟨n, e⟩ := hc
      have hs : sub1 a b = decide (n ∈ b.cps.toList) := by unfold sub1; rw [e]
      rw [hs] at p
      refine .inl ⟨n, b, ?_, rv_str ry, p w _ H w.le_refl l (.bl _)⟩
      rw [rv_str rx]
      have : a = ⟨#[n]⟩ := by
        obtain ⟨arr⟩ := a
        have e : arr.toList = [n] := e
        congr 1
        exact Array.toList_inj.mp (by simpa using e)
      rw [this]
    · have hs : sub1 a b = !(Builtin.Str.occurrences b a 0 b.length 1).isEmpty := by
        unfold sub1
        split
        · rename_i n e
          exact absurd ⟨n, e⟩ hc
        · rfl
      rw [hs] at p
      exact .inr (.inl ⟨a, b, rv_str rx, rv_str ry, p w _ H w.le_refl l (.bl _)⟩)
  · split at p
    · rename_i bs h1
      split at p
      · rename_i ds h2
        split at p
        · rename_i h3
          obtain ⟨a, vs, rfl, g1, g2⟩ := itemsA_ok l ry h1
          have rx : Rp G.K w.I x _ := rx
          obtain ⟨f1, f2⟩ := flat_all rx h3 g2 h2
          exact .inr (.inr ⟨a, vs, rfl, g1, flat_V rx h3, f1, by rw [f2]; exact p w _ H w.le_refl l (.bl _)⟩)
        · exact p.elim
      · exact p.elim
    · exact p.elim
  · exact p.elim

/-! ### items -/
def dIx : Op2 := fun x y μ => match y with
  | .d (.int i) => match x with
    | .d (.str z) => if z.length ≤ sizeLine then match atI z.cps.toList i with
      | some c => .ok (.d (.str ⟨#[c]⟩)) μ
      | none => .bad else .bad
    | x => match itemsA x μ with
      | some bs => match atI bs i with
        | some b => .ok b μ
        | none => .bad
      | none => .bad
  | _ => .bad
theorem Rvs.at {G : GT} {w : Wd} {vs : List V} {bs : List Dv} (r : Rvs G w vs bs) : ∀ {j : Nat} {b : Dv}, bs[j]? = some b → ∃ v, vs[j]? = some v ∧ Rv G w v b := by
  induction r with
  | nil => intro j b h; simp at h
  | cons r t ih =>
    intro j b h
    cases j with
    | zero => simp at h; subst h; exact ⟨_, rfl, r⟩
    | succ j => simpa using ih (by simpa using h)
theorem Rvs.atI {G : GT} {w : Wd} {vs : List V} {bs : List Dv} (r : Rvs G w vs bs) {i : Int} {b : Dv} (e : L2.atI bs i = some b) : ∃ v, L2.atI vs i = some v ∧ Rv G w v b := by
  unfold L2.atI at e ⊢
  rw [Paired.length r]
  cases q : ixN bs.length i with
  | none => rw [q] at e; cases e
  | some j =>
    rw [q] at e
    exact r.at e
theorem ok_ix {G : GT} : Ok2 G (rIx G.K) dIx := by
  intro W σ w μ H x y b c Q l rx ry p
  unfold dIx at p
  split at p
  · rename_i i
    split at p
    · split at p
      · rename_i h
        split at p
        · rename_i c e
          exact .inr (.inr ⟨_, i, c, rv_str rx, rv_int ry, h, e, p w _ H w.le_refl l (.str _)⟩)
        · exact p.elim
      · exact p.elim
    · split at p
      · rename_i bs h
        split at p
        · rename_i b' e
          obtain ⟨a, vs, rfl, g1, g2⟩ := itemsA_ok l rx h
          obtain ⟨v, g3, g4⟩ := Rvs.atI g2 e
          rcases g1 with g1 | g1
          · exact .inl ⟨a, vs, i, v, rfl, rv_int ry, g1, g3, p w _ H w.le_refl l g4⟩
          · exact .inr (.inl ⟨a, vs, i, v, rfl, rv_int ry, g1, g3, p w _ H w.le_refl l g4⟩)
        · exact p.elim
      · exact p.elim
  · exact p.elim
section
variable {X : Cx} {G : GT} {W : WX} {a b e : Expr} {ma mb : ME} {pos p2 : Pos}
theorem de_ix {r : R2} {f : Op2} (hr : IxR X r) (h : Ok2 G r f) (ha : DE X G W a ma) (hb : DE X G W b mb) (hs : PlainIx b := by exact fun _ _ => rfl) : DE X G W (.Subscript a b pos) (e2 f ma mb) := PE.imp (pe_ix hr ha hb hs) (op_imp h)

/-! ### slices -/
abbrev MO := DEnv → Store → Out (Option Int)
def oNone : MO := fun _ μ => .ok none μ
def asInt : Dv → Store → Out (Option Int)
  | .d (.int i), μ => .ok (some i) μ
  | _, _ => .bad
def oSome (a : ME) : MO := fun ρ μ => (a ρ μ).bind asInt
abbrev tO (G : GT) (W : WX) (m : MO) : TO := tD G W (fun _ b c => b = c) m
abbrev DO (X : Cx) (G : GT) (W : WX) (e : Option Expr) (m : MO) : Prop := PO X e (tO G W m)
theorem PO.imp {X : Cx} {e : Option Expr} {t t' : TO} (h : PO X e t) (i : ∀ σ H Q, t' σ H Q → t σ H Q) : PO X e t' := ⟨fun p s σ H Q I hw => h.run p s σ H Q I (i _ _ _ hw)⟩
theorem do_none : DO X G W none oNone := by
  refine PO.imp po_none ?_
  rintro σ H Q ⟨w, μ, ρ, hl, he, p⟩
  exact p w none H w.le_refl hl rfl
theorem do_some (h : DE X G W e ma) : DO X G W (some e) (oSome ma) := by
  refine PO.imp (po_some h) ?_
  rintro σ H Q ⟨w, μ, ρ, hl, he, p⟩
  refine tD.seq (k := fun ρ x μ => asInt x μ) hl he p fun w1 μ1 H1 v b l1 lay1 en1 r1 p1 => ?_
  cases b with
  | d x =>
    cases x with
    | int i => exact ⟨i, rv_int r1, p1 w1 _ H1 w1.le_refl lay1 rfl⟩
    | _ => exact p1.elim
  | _ => exact p1.elim
def cutL {α : Type} (xs : List α) (lo hi : Option Int) : List α := (xs.drop (HT.sIx xs.length 0 lo)).take (HT.sIx xs.length xs.length hi - HT.sIx xs.length 0 lo)
theorem cutL_V (xs : List V) (lo hi : Option Int) : cutL xs lo hi = cutV xs lo hi := rfl
def dSl (x : Dv) (lo hi : Option Int) (μ : Store) : Out Dv := match x with
  | .d (.str z) => if z.length ≤ sizeLine then .ok (.d (.str (cutS z lo hi))) μ else .bad
  | .d (.tuple ds) => .ok (.d (.tuple (cutL ds lo hi))) μ
  | x => match items x μ with
    | some bs => match allD (cutL bs lo hi) with
      | some ds => .ok (.d (.list ds)) μ
      | none => .bad
    | none => .bad
def eSl (a : ME) (l h : MO) : ME := fun ρ μ => (a ρ μ).bind fun x μ => (l ρ μ).bind fun i μ => (h ρ μ).bind fun j μ => dSl x i j μ
def rSl (K : PySem.W.Frag) : V → Option Int → Option Int → Hp → VK → Prop := fun x lo hi H Q => rSlS x lo hi H Q ∨ rSlA K x lo hi H Q ∨ rSlL K x lo hi H Q
theorem sl_any {X : Cx} : SlR X (rSl X.K) := sl_str.or (sl_tupA.or sl_list)
theorem RpA.cut {K : PySem.W.Frag} {I : Hp} {vs : List V} {ds : List D} (r : RpA K I vs ds) (lo hi : Option Int) : RpA K I (cutV vs lo hi) (cutL ds lo hi) := by
  unfold cutV cutL
  rw [r.length]
  exact (r.drop _).take _
theorem Rvs.drop {G : GT} {w : Wd} : ∀ {vs : List V} {bs : List Dv} (n : Nat), Rvs G w vs bs → Rvs G w (vs.drop n) (bs.drop n)
  | _, _, 0, r => r
  | _, _, n + 1, .nil => .nil
  | _, _, n + 1, .cons _ t => Rvs.drop n t
theorem Rvs.take {G : GT} {w : Wd} : ∀ {vs : List V} {bs : List Dv} (n : Nat), Rvs G w vs bs → Rvs G w (vs.take n) (bs.take n)
  | _, _, 0, r => by simp; exact .nil
  | _, _, n + 1, .nil => .nil
  | _, _, n + 1, .cons r t => .cons r (Rvs.take n t)
theorem de_slice {lo hi : Option Expr} {ml mh : MO} (hK : X.K = G.K) (ha : DE X G W a ma) (hl : DO X G W lo ml) (hh : DO X G W hi mh) : DE X G W (.Subscript a (.Slice lo hi none p2) pos) (eSl ma ml mh) := by
  refine PE.imp (pe_slice sl_any ha hl hh) ?_
  rintro σ H Q ⟨w, μ, ρ, hl, he, p⟩
  refine tD.seq (k := fun ρ x μ => (ml ρ μ).bind fun i μ => (mh ρ μ).bind fun j μ => dSl x i j μ) hl he p fun w1 μ1 H1 v b l1 lay1 en1 r1 p1 => ?_
  refine tD.seq (k := fun ρ i μ => (mh ρ μ).bind fun j μ => dSl b i j μ) lay1 en1 p1 fun w2 μ2 H2 i i' l2 lay2 en2 r2 p2 => ?_
  refine tD.seq (k := fun ρ j μ => dSl b i' j μ) lay2 en2 p2 fun w3 μ3 H3 j j' l3 lay3 en3 r3 p3 => ?_
  have r2 : i = i' := r2
  have r3 : j = j' := r3
  subst r2 r3
  have r1 := (r1.mono l2).mono l3
  unfold dSl at p3
  split at p3
  · split at p3
    · rename_i h
      exact .inl ⟨_, rv_str r1, h, p3 w3 _ H3 w3.le_refl lay3 (.str _)⟩
    · exact p3.elim
  · obtain ⟨a, vs, rfl, g1, g2⟩ := rv_tup r1
    refine .inr (.inl ⟨a, vs, rfl, by rw [hK]; exact seqT lay3.same g1, fun e => ?_, fun _ p' np => ?_⟩)
    · have : ∀ ds : List D, RpA G.K w3.I vs ds → cutL ds i j = ds := fun ds g2 => by
        unfold cutL
        rw [g2.length] at e
        rw [e.1, e.2]
        simp
      rw [this _ g2] at p3
      exact p3 w3 _ H3 w3.le_refl lay3 (.tup g1 g2)
    · obtain ⟨le, l2'⟩ := lay3.new np (.tup (cutV vs i j))
      exact p3 _ _ _ le l2' (.tup (SqT.of upd_same) (RpA.mono le.1 _ _ (g2.cut i j)))
  · split at p3
    · rename_i bs h
      split at p3
      · rename_i ds hd
        obtain ⟨a, vs, rfl, g1, g2⟩ := items_ok lay3 r1 h
        have g3 : Rvs G w3 (cutV vs i j) (cutL bs i j) := by
          unfold cutV cutL
          rw [Paired.length g2]
          exact Rvs.take _ (Rvs.drop _ g2)
        rw [allD_eq hd] at g3
        refine .inr (.inr ⟨a, vs, rfl, by rw [hK]; exact g1, fun p' np => ?_⟩)
        obtain ⟨le, l2'⟩ := lay3.new np (.lst (cutV vs i j))
        exact p3 _ _ _ le l2' (.lst (SqL.of upd_same) (RpA.mono le.1 _ _ (RpA_of_Rvs g3)))
      · exact p3.elim
    · exact p3.elim
end

/-! ### methods -/
def OkM (G : GT) (r : V → List V → Hp → VK → Prop) (f : Dv → OpN) : Prop := ∀ (W : WX) (σ : L2.St) (w : Wd) (μ : Store) (H : Hp) (x : V) (xs : List V) (b : Dv) (bs : List Dv) (Q : VK), Lay G w μ H → Rv G w x b → Rvs G w xs bs → Pst G W σ (Rv G) w (f b bs μ) Q → r x xs H Q
def OkT (G : GT) (T : String) (c : Dv → Store → Bool) : Prop := ∀ (w : Wd) (μ : Store) (H : Hp) (x : V) (b : Dv), Lay G w μ H → Rv G w x b → c b μ = true → tyV G.K T x H
def isStr : Dv → Store → Bool
  | .d (.str _), _ => true
  | _, _ => false
theorem ty_str {G : GT} : OkT G "str" isStr := by
  intro w μ H x b l r h
  unfold isStr at h
  split at h
  · rw [rv_str r]; exact rfl
  · cases h
def isList (b : Dv) (μ : Store) : Bool := (items b μ).isSome
theorem ty_list {G : GT} : OkT G "list" isList := by
  intro w μ H x b l r h
  unfold isList at h
  cases q : items b μ with
  | none => rw [q] at h; cases h
  | some xs =>
    obtain ⟨a, vs, rfl, g1, g2⟩ := items_ok l r q
    exact .inl ⟨rfl, vs, g1⟩
def eM (c : Dv → Store → Bool) (f : Dv → OpN) (o : ME) (a : MA) : ME := fun ρ μ => (o ρ μ).bind fun x μ => if c x μ = true then (a ρ μ).bind fun xs μ => f x xs μ else .bad
section
variable {X : Cx} {G : GT} {W : WX} {o e : Expr} {es : List Expr} {mo : ME} {mas : MA} {pos apos cpos : Pos} {T id : String} {name : Str} {r : V → List V → Hp → VK → Prop} {f : Dv → OpN} {c : Dv → Store → Bool}
theorem de_bm0 (pa : PlainAttrs T) (slot : Slot T name id) (hty : typeOf (.builtin id) = pure (.type "method_descriptor")) (hm : MtR X id r) (h : OkM G r f) (hT : OkT G T c) (hK : X.K = G.K) (ho : DE X G W o mo)
    (hbase : attributeBase o name X.env (eval o X.env) = eval o X.env := by rfl) (hline : (apos.endLine == cpos.line) = true := by rfl) : DE X G W (.Call (.Attribute o name apos) [] [] cpos) (eM c f mo aNil) := by
  refine PE.imp (pe_bm0 pa slot hty hm ho hbase hline) ?_
  rintro σ H Q ⟨w, μ, ρ, hl, he, p⟩
  refine tD.seq (k := fun ρ x μ => if c x μ = true then (aNil ρ μ).bind fun xs μ => f x xs μ else .bad) hl he p fun w1 μ1 H1 v b l1 lay1 en1 r1 p1 => ?_
  split at p1
  · rename_i hc
    exact ⟨by rw [hK]; exact hT w1 μ1 H1 v b lay1 r1 hc, h W σ w1 μ1 H1 v [] b [] Q lay1 r1 .nil p1⟩
  · exact p1.elim
theorem de_bm (pa : PlainAttrs T) (slot : Slot T name id) (hty : typeOf (.builtin id) = pure (.type "method_descriptor")) (hm : MtR X id r) (h : OkM G r f) (hT : OkT G T c) (hK : X.K = G.K) (ho : DE X G W o mo) (ha : DA X G W (e :: es) mas)
    (hbase : attributeBase o name X.env (eval o X.env) = eval o X.env := by rfl)
    (hfew : ((backTo cpos (starEach (e :: es) X.env)).all (fun x => !x.1) && (backToKw cpos (keywordEach [] X.env)).all (fun x => x.1.isSome)
      && decide ((e :: es).length + ([] : List Keyword).length + (if ([] : List Keyword).isEmpty then 0 else 1) < 30)) = true := by rfl)
    (hline : (apos.endLine == cpos.line) = true := by rfl) (hs : starEach (e :: es) X.env = (false, eval e X.env) :: starEach es X.env := by rfl) (hplain : (backTo cpos (starEach es X.env)).any (·.1) = false := by rfl) :
    DE X G W (.Call (.Attribute o name apos) (e :: es) [] cpos) (eM c f mo mas) := by
  refine PE.imp (pe_bm pa slot hty hm ho ha hbase hfew hline hs hplain) ?_
  rintro σ H Q ⟨w, μ, ρ, hl, he, p⟩
  refine tD.seq (k := fun ρ x μ => if c x μ = true then (mas ρ μ).bind fun xs μ => f x xs μ else .bad) hl he p fun w1 μ1 H1 v b l1 lay1 en1 r1 p1 => ?_
  split at p1
  · rename_i hc
    refine ⟨by rw [hK]; exact hT w1 μ1 H1 v b lay1 r1 hc, ?_⟩
    exact tD.seq (k := fun ρ xs μ => f b xs μ) lay1 en1 p1 fun w2 μ2 H2 vs bs l2 lay2 en2 r2 p2 => h W σ w2 μ2 H2 v vs b bs Q lay2 (r1.mono l2) r2 p2
  · exact p1.elim
end
end DL

/-! A law's end, by the promise of its def over data. -/
namespace DL
open PySem PySem.Spec PyProof.Rows L2

theorem RpA_ints {K : PySem.W.Frag} {I : Hp} : ∀ ns : List Int, RpA K I (ns.map V.int) (ns.map PyData.int)
  | [] => .nil
  | n :: ns => .cons (.int n) (RpA_ints ns)
/-- the law's call: its script is frozen, nothing else stands -/
theorem lawG {P : Program} {w : World} {G : GT} {mg mb : Str → Option Value} {k : Nat} {fa a : Addr} {fd : FuncData} {x : Str} {F : OpN} {s : Shared} {vs : List Value} {ns : List Int} {μ' : Store}
    (inK : G.K.In s.heap) (gl : s.heap.Ns mainGlobals mg) (bl : s.heap.Ns builtinsNs mb) (hbb : ∀ x : Str, x ≠ "__name__" → mb x = bootBuiltins x) (lim : s.heap.NoLimit) (gens : s.gens = #[])
    (ha : s.heap.get? a = some { cls := .type "list", data := .seq vs.toArray }) (hi : IntsAre vs ns) (hl : ns.length ≤ sizeLine) (room : Room k callerA)
    (hF : ∀ base : Heap, G.K.In base → base.Ns mainGlobals mg → FnG P w G.K mg base k fa fd [x] (spD G 1 F)) (bt : ∀ (s : Shared) (u : Value), BindsTo s fd ⟨[u], []⟩ [(x, u)])
    (hv : F [.d (.list (ns.map PyData.int))] [] = .ok (.d (.bool true)) μ') :
    codeAny (model P w) callerA (.call (.ref fa) ⟨[.ref a], []⟩) (fun r t => r = .ok (.ret (.bool true)) ∧ OldK s.heap t.heap ∧ t.os = s.os ∧ AllBare t.gens) s := by
  have rv := vals_ints hi
  have lenV := hi.length
  suffices main : ∀ H : Hp, (∀ b, H b ≠ none → b = a ∧ ∃ xs, H b = some (.frz { cls := .type "list", data := .seq vs.toArray } (.lst xs))) → SqL G.K H a (ns.map V.int) → HOk P w H s.heap → (H a ≠ none → G.K.lookup a = none) →
      codeAny (model P w) callerA (.call (.ref fa) ⟨[.ref a], []⟩) (fun r t => r = .ok (.ret (.bool true)) ∧ OldK s.heap t.heap ∧ t.os = s.os ∧ AllBare t.gens) s by
    cases hk : G.K.lookup a with
    | some o =>
      have e := inK a o hk
      rw [ha] at e
      cases e
      apply main (fun _ => none)
      · exact fun b z => absurd rfl z
      · exact Or.inr ⟨_, vs.toArray, _, hk, rfl, rfl, rfl, by rw [List.size_toArray, lenV]; exact hl, by simpa using rv⟩
      · intro b u z
        cases z
      · exact fun z => absurd rfl z
    | none =>
      have at_ : ∀ b u, (if b = a then some (HO.frz { cls := .type "list", data := .seq vs.toArray } (.lst (ns.map V.int))) else none) = some u → b = a ∧ u = .frz { cls := .type "list", data := .seq vs.toArray } (.lst (ns.map V.int)) := by
        intro b u z
        by_cases hb : b = a
        · rw [if_pos hb] at z
          exact ⟨hb, (Option.some.inj z).symm⟩
        · rw [if_neg hb] at z
          cases z
      apply main (fun b => if b = a then some (.frz { cls := .type "list", data := .seq vs.toArray } (.lst (ns.map V.int))) else none)
      · intro b z
        by_cases hb : b = a
        · exact ⟨hb, ns.map V.int, if_pos hb⟩
        · exact absurd (if_neg hb) z
      · exact Or.inl (Or.inr ⟨{ cls := .type "list", data := .seq vs.toArray }, if_pos rfl⟩)
      · intro b u z
        obtain ⟨rfl, rfl⟩ := at_ b u z
        exact ⟨ha, by rw [List.length_map]; exact hl, vs, _, rv, ha⟩
      · exact fun _ => hk
  intro H only sq ok own
  have keep : ∀ {b : Addr} {o : Obj}, s.heap.get? b = some o → H b = none → (hidT s.heap H).get? b = some o := hidT_get
  have isA : ∀ {b : Addr} {o : Obj} {es : Array DictEntry} {ep : Nat}, s.heap.get? b = some o → o.data = .dict es ep → H b = none := by
    intro b o es ep e d
    cases q : H b with
    | none => rfl
    | some u =>
      obtain ⟨rfl, _⟩ := only b (by rw [q]; simp)
      rw [ha] at e
      cases e
      cases d
  have kb : G.K.In (hidT s.heap H) := by
    intro b o e
    apply keep (inK b o e)
    cases q : H b with
    | none => rfl
    | some u =>
      obtain ⟨rfl, _⟩ := only b (by rw [q]; simp)
      rw [own (by rw [q]; simp)] at e
      cases e
  have nsB : ∀ {b : Addr} {m : Str → Option Value}, s.heap.Ns b m → (hidT s.heap H).Ns b m := by
    rintro b m ⟨o, es, ep, e, d, r⟩
    exact ⟨o, es, ep, keep e (isA e d), d, r⟩
  have md : Mod G.K mg (hidT s.heap H) := ⟨kb, nsB gl, ⟨mb, nsB bl, hbb⟩, by obtain ⟨mc, h1, h2⟩ := lim; exact ⟨mc, nsB h1, h2⟩⟩
  have e0 : Env0 P w G.K mg (hidT s.heap H) callerA [] s H := ⟨rfl, md, fun b o e => of_hidT e, Nat.le_of_eq (hidT_size _ _), trivial, fun b hb => absurd (show b ∈ ([] : List Addr) from hb) (by simp), ok, .of_eq gens⟩
  have sp : spD G 1 F [.ref a] H (fun v _ => v = .bl true) (fun _ _ _ => False) := by
    refine ⟨rfl, ⟨H, [], fun _ => none⟩, [], [.d (.list (ns.map PyData.int))], ?_, .cons (.lst sq (RpA_ints ns)) .nil, ?_⟩
    · exact ⟨Same.refl _, rfl, List.nodup_nil, fun a h => absurd h (by simp), fun b o e => (nomatch e), fun _ _ => rfl, fun a o e => (nomatch e), fun n c a e => absurd e (by simp)⟩
    · rw [hv]
      intro w' v H' _ _ r
      have r : Rp G.K w'.I v (.bool true) := r
      cases r
      rfl
  apply codeAny_mono ((hF _ kb (nsB gl)).run callerA [] s H ⟨[.ref a], []⟩ [.ref a] [.ref a] _ _ rfl room e0 (bt s (.ref a)) (.cons rfl .nil) sp)
  rintro (e | fl) t q
  · obtain ⟨_, _, _, _, _, _, _, _, _, _, _, _, z⟩ := q
    exact z.elim
  cases fl with
  | next => exact q.elim
  | brk => exact q.elim
  | cont => exact q.elim
  | ret u =>
    obtain ⟨v, H', os, bare, un, ok', r, rfl⟩ := q
    obtain rfl : u = Value.bool true := r
    refine ⟨rfl, ?_, os, bare⟩
    apply OldK.of_keep
    intro b o e
    cases q : H b with
    | none => exact un.keep b o e q (fun z => absurd (show b ∈ ([] : List Addr) from z) (by simp)) (by simp)
    | some u =>
      obtain ⟨_, xs, z⟩ := only b (by rw [q]; simp)
      have z2 := un.frzs b _ _ z
      obtain ⟨e1, _⟩ := ok b _ z
      obtain ⟨e2, _⟩ := ok' b _ z2
      rw [e] at e1
      cases e1
      exact e2
/-- the goal behind the head -/
theorem walkG {l : PySem.W.OpenLaw} {n k : Nat} {q : Program} {loose : List Str} {XP : (Str → Option Value) → Heap → Prop} {YP : World → Heap → Prop} {d : DefRec} {K : Params → PySem.W.Frag} {x : Str}
    (hn : l.most = some n) (hn2 : n ≤ sizeLine) (hdf : d.params.defaults = []) (hr : Room k callerA) (hY : ∀ (w : World) (h : Heap), YP w h → (K w.params).In h)
    (F : ∀ (w : World) (mg : Str → Option Value) (fa : Addr) (h : Heap), (K w.params).In h → h.Ns mainGlobals mg → mg d.name = some (.ref fa) →
      ∃ (fd : FuncData) (G : GT) (F : OpN), G.K = K w.params ∧ (∀ (s : Shared) (u : Value), BindsTo s fd ⟨[u], []⟩ [(x, u)]) ∧ (∀ base : Heap, (K w.params).In base → base.Ns mainGlobals mg → FnG l.prog w (K w.params) mg base k fa fd [x] (spD G 1 F)) ∧
        ∀ ns : List Int, ns.length ≤ n → (∀ i ∈ ns, Builtin.Int.intBits i ≤ 1048576) → ∃ μ', F [.d (.list (ns.map PyData.int))] [] = .ok (.d (.bool true)) μ') :
    PySem.W.WalkO q loose XP YP l.row.toRowW d [] (fun f vs => PySem.call f vs) := by
  apply Att.attach_callB hn hdf
  intro w s₀ s₁ mg mb fa o pm cd doc a vs ns T Y ho hd hcd hmg hobj hints hlen bits hg
  have inK := hY w _ Y
  obtain ⟨fd, G, F, eK, hb, hF, hv⟩ := F w mg fa _ inK T.T.g hmg
  obtain ⟨μ', hv⟩ := hv ns hlen bits
  rw [← eK] at inK hF
  exact lawG inK T.T.g T.T.b T.T.builtins T.T.nolimit hg hobj hints (Nat.le_trans hlen hn2) hr hF hb hv
end DL

/-! Statements of the data layer, further: a starred target, a cell's item stored, calls with keywords, comprehensions given to a name. -/
namespace DL
open PySem PySem.Spec PyProof.Rows L2

/-! ### a, *b = t -/
theorem ns_one {h : Heap} {L : Addr} {m m' : Str → Option Value} (x : h.Ns L m) (y : h.Ns L m') : m = m' := by
  obtain ⟨o, es, ep, e1, e2, _, e3⟩ := x
  obtain ⟨o', es', ep', f1, f2, _, f3⟩ := y
  rw [e1] at f1
  cases f1
  rw [e2] at f2
  cases f2
  funext z
  rw [← e3, ← f3]
section
variable {X : Cx} {pins : List (Addr × Obj)} {σ : L2.St} {H : Hp} {s : Shared}
theorem objok_there {P : Program} {w : World} {H : Hp} {h : Heap} {a : Addr} {o : HO} (x : ObjOk P w H h a o) : ∃ ob, h.get? a = some ob := by
  cases o with
  | lst xs => obtain ⟨_, _, _, _, e⟩ := x; exact ⟨_, e⟩
  | tup xs => obtain ⟨_, _, _, o, e, _⟩ := x; exact ⟨_, e⟩
  | dK kvs => obtain ⟨_, _, _, _, o, _, _, e, _⟩ := x; exact ⟨_, e⟩
  | dT kvs => obtain ⟨_, _, _, _, o, _, _, e, _⟩ := x; exact ⟨_, e⟩
  | set S n => obtain ⟨o, _, _, _, e, _⟩ := x; exact ⟨_, e⟩
  | ins C dx fs => obtain ⟨_, _, _, e, _⟩ := x; exact ⟨_, e⟩
  | own y => obtain ⟨_, e⟩ := x; exact ⟨_, e⟩
  | xd fs => obtain ⟨_, ⟨_, _, _, e, _⟩, _⟩ := x; exact ⟨_, e⟩
  | rng lo hi => obtain ⟨_, _, _, e⟩ := x; exact ⟨_, e⟩
  | frz ob u => obtain ⟨e, _⟩ := x; exact ⟨_, e⟩
  | tbl ps => exact ⟨_, x⟩
  | met f y => exact ⟨_, x⟩
  | ext φ => obtain ⟨_, ⟨_, e⟩, _⟩ := x; exact ⟨_, e⟩
theorem Inv.led {m : Str → Option Value} {h' : Heap} {tk : Nat} {D : Addr} {ys : List V} {its : List Value} (I : Inv X pins σ H s) (F : Fr X.base X.env.locals s.heap m) (F' : Fr X.base X.env.locals h' m) (N' : News X.base X.env.locals h' ((D, PySem.W.listOf its.toArray 0) :: allNews X.base s.heap X.env.locals))
    (lt : ∀ p ∈ allNews X.base s.heap X.env.locals, p.1 < D) (r : Vals ys its) (hz : ys.length ≤ sizeLine) : H D = none ∧ Inv X pins σ (upd H D (.lst ys)) { s with heap := h', toks := tk } := by
  obtain ⟨hD, nL, nb⟩ := N' (D, PySem.W.listOf its.toArray 0) List.mem_cons_self
  have fresh : s.heap.get? D = none := by
    cases q : s.heap.get? D with
    | none => rfl
    | some o => exact absurd (lt (D, o) (mem_allNews nL nb q)) (Nat.lt_irrefl _)
  have nH : H D = none := by
    cases q : H D with
    | none => rfl
    | some o =>
      obtain ⟨u, e⟩ := objok_there (I.hok D o q)
      rw [fresh] at e
      cases e
  have keep : ∀ b o, b ≠ X.env.locals → s.heap.get? b = some o → h'.get? b = some o := by
    intro b o hb e
    cases q : X.base.get? b with
    | some u =>
      have := F.keep b u q
      rw [e] at this
      cases this
      exact F'.keep b _ q
    | none => exact (N' (b, o) (List.mem_cons_of_mem _ (mem_allNews hb q e))).1
  have ns : ∀ m', s.heap.Ns X.env.locals m' → h'.Ns X.env.locals m' := fun m' hm => by rw [ns_one hm F.ns]; exact F'.ns
  refine ⟨nH, ?_⟩
  have sD : ∀ b o, s.heap.get? b = some o → b ≠ D := fun b o e z => by rw [z, fresh] at e; cases e
  apply I.step (g' := s.gens) (d' := s.drawn) (ch := [])
  · exact fun _ z => nomatch z
  · exact fun b o hb _ _ e _ => keep b o hb e
  · exact fun b o hb _ _ e _ => ⟨o.slots, keep b o hb e⟩
  · exact fun b o _ e n => by rw [upd_ne (sD b o e)]; exact n
  · intro b o _ e
    by_cases hb : b = X.env.locals
    · subst hb
      obtain ⟨o', _, _, e', _⟩ := F'.ns
      exact ⟨o', e'⟩
    · exact ⟨o, keep b o hb e⟩
  · exact fun b xs e => by rw [upd_ne (ne_of_none e nH)]; exact e
  · exact fun b o u e => by rw [upd_ne (ne_of_none e nH)]; exact e
  · exact fun b ps e => ⟨#[], by rw [upd_ne (ne_of_none e nH), e]; simp⟩
  · exact ns
  · intro b u e
    by_cases hb : b = D
    · subst hb
      rw [upd_same] at e
      cases e
      exact ⟨hz, its, 0, r, hD⟩
    · rw [upd_ne hb] at e
      refine (I.hok b u e).stay (fun c v hc q => keep c v ?_ q) (fun c q => by rw [upd_ne (ne_of_none q nH)]; exact q) fun c xs q => by rw [upd_ne (ne_of_none q nH)]; exact q
      rcases hc with rfl | hc
      · intro z; rw [z, I.free] at e; cases e
      · intro z; rw [z, I.free] at hc; cases hc
  · exact I.bare
end
def gStarV (K : PySem.W.Frag) (n : Nat) (t : TGs) : TG := fun v σ H Q => ∃ a xs, v = .ref a ∧ SqT K H a xs ∧ n ≤ xs.length ∧ xs.length ≤ 16384 ∧ ∀ D, H D = none → t (xs.take n ++ [.ref D]) σ (upd H D (.lst (xs.drop n))) Q
section
variable {X : Cx} {G : GT} {W : WX} {e t : Expr} {es : List Expr} {pos p : Pos} {g : MG} {gs : MGs} {S T : List Nat}
theorem pgs_star {tg : TG} {u : TGs} (h1 : PG X t tg) (h2 : PGs X es u) (hs : (assignEach (.Starred t p :: es) X.env).map (·.2) = assign t X.env :: (assignEach es X.env).map (·.2) := by rfl) : PGs X (.Starred t p :: es) (gCons tg u) := by
  constructor
  intro pins s σ H vs us Q I r h
  obtain ⟨v, vr, rfl, h⟩ := h
  cases r with
  | cons r rr =>
    rw [hs]
    apply assignInOrder_cons
    apply thn (h1.run pins s σ H _ _ _ I r h)
    rintro _ s1 ⟨σ1, H1, I1, q1⟩
    exact h2.run pins s1 σ1 H1 _ _ Q I1 rr q1
theorem pg_star {k n : Nat} {u : TGs} (hc : X.calm = true) (h : PGs X es u) (hn : (assignEach es X.env).length = n + 1 := by rfl) (hst : (assignEach es X.env).findIdx? (·.1) = some n := by rfl) : PG X (.Tuple es k pos) (gStarV X.K n u) := by
  constructor
  intro pins s σ H v uu Q I r hw
  obtain ⟨a, xs, rfl, hq, hl, h16, hw⟩ := hw
  cases r
  obtain ⟨its, rv, ht, hz⟩ := I.tuple hq
  obtain ⟨m, F⟩ := I.fr
  have hlen := rv.length
  refine PySem.W.kun_assignT (i := n) (n := n + 1) (first := its.take n) (mids := its.drop n) (lasts := []) F news_all ht (I.ok.hd hc) hn hst (Nat.lt_succ_self _) ?_ ?_ ?_ ?_ ?_ ?_
  · rw [List.size_toArray]; omega
  · rw [List.size_toArray]; omega
  · rfl
  · show (its.drop n).take (its.toArray.size + 1 - (n + 1)) = its.drop n
    rw [List.take_of_length_le]
    rw [List.length_drop, List.size_toArray]
    omega
  · show (its.drop n).drop (its.toArray.size + 1 - (n + 1)) = []
    rw [List.drop_of_length_le]
    rw [List.length_drop, List.size_toArray]
    omega
  · intro D h' tk F' N' lt
    obtain ⟨nH, I'⟩ := Inv.led (tk := tk) I F F' N' lt (rv.drop n) (by rw [List.length_drop]; omega)
    rw [List.append_nil]
    exact h.run pins _ σ _ _ _ Q I' ((rv.take n).append (Paired.cons (show L2.RelV (V.ref D) (Value.ref D) from rfl) .nil)) (hw D nH)
def gStar (n : Nat) (g : MGs) : MG := fun b ρ μ => match b with
  | .d (.tuple ds) => if n ≤ ds.length ∧ ds.length ≤ 16384 then g ((ds.take n).map .d ++ [.d (.list (ds.drop n))]) ρ μ else .bad
  | _ => .bad
theorem gcons_imp : ∀ vs σ H Q, tGs G (S ++ T) (gsCons g gs) vs σ H Q → gCons (tG G S g) (tGs G T gs) vs σ H Q := by
  rintro vs σ H Q ⟨w, μ, ρ, bs, hl, he, r, p⟩
  cases r with
  | nil => exact p.elim
  | @cons v b vs bs rv rr =>
    refine ⟨v, vs, rfl, w, μ, ρ, b, hl, he, rv, ?_⟩
    have p : PstG G w (S ++ T) σ ((g b ρ μ).bind fun ρ μ => gs bs ρ μ) Q := p
    cases q : g b ρ μ with
    | bad => rw [q] at p; exact p.elim
    | ex _ _ => rw [q] at p; exact p.elim
    | ok ρ1 μ1 =>
      rw [q] at p
      have p : PstG G w (S ++ T) σ (gs bs ρ1 μ1) Q := p
      refine fun w1 σ1 H1 l1 lay1 en1 ag => ⟨w1, μ1, ρ1, bs, lay1, en1, Rvs.mono l1 rr, ?_⟩
      cases q2 : gs bs ρ1 μ1 with
      | bad => rw [q2] at p; exact p.elim
      | ex _ _ => rw [q2] at p; exact p.elim
      | ok ρ2 μ2 =>
        rw [q2] at p
        exact fun w2 σ2 H2 l2 lay2 en2 ag2 => p w2 σ2 H2 (l1.trans l2) lay2 en2 (ag.trans ag2)
theorem dgs_star (h1 : DG X G S t g) (h2 : DGs X G T es gs) (hs : (assignEach (.Starred t p :: es) X.env).map (·.2) = assign t X.env :: (assignEach es X.env).map (·.2) := by rfl) : DGs X G (S ++ T) (.Starred t p :: es) (gsCons g gs) := PGs.imp (pgs_star h1 h2 hs) gcons_imp
theorem dg_star {k n : Nat} (hc : X.calm = true) (hK : X.K = G.K) (h : DGs X G S es gs) (hn : (assignEach es X.env).length = n + 1 := by rfl) (hst : (assignEach es X.env).findIdx? (·.1) = some n := by rfl) : DG X G S (.Tuple es k pos) (gStar n gs) := by
  refine PG.imp (pg_star hc h hn hst) ?_
  rintro v σ H Q ⟨w, μ, ρ, b, hl, he, r, p⟩
  unfold gStar at p
  split at p
  · rename_i ds
    split at p
    · rename_i hh
      obtain ⟨a, xs, rfl, h1, h2⟩ := rv_tup r
      refine ⟨a, xs, rfl, by rw [hK]; exact seqT hl.same h1, by rw [h2.length]; exact hh.1, by rw [h2.length]; exact hh.2, fun D nD => ?_⟩
      obtain ⟨le, l2⟩ := hl.new nD (.lst (xs.drop n))
      refine ⟨_, μ, ρ, _, l2, he.mono le, ?_, PstG.mono le p⟩
      have r1 : Rvs G (w.put D (.lst (xs.drop n))) (xs.take n) ((ds.take n).map .d) := Rvs_of_RpA (RpA.mono le.1 _ _ (h2.take n))
      have r2 : Rv G (w.put D (.lst (xs.drop n))) (.ref D) (.d (.list (ds.drop n))) := .lst (SqL.of upd_same) (RpA.mono le.1 _ _ (h2.drop n))
      exact Paired.rec (motive := fun l m _ => Rvs G (w.put D (.lst (xs.drop n))) (l ++ [.ref D]) (m ++ [.d (.list (ds.drop n))])) (.cons r2 .nil) (fun r _ ih => .cons r ih) r1
    · exact p.elim
  · exact p.elim
end

/-! ### x[i] = v of a cell -/
section
variable {G : GT} {w : Wd} {μ : Store} {H : Hp}
theorem get_nodup {l : List Addr} (h : l.Nodup) {i j : Nat} {a : Addr} (hi : l[i]? = some a) (hj : l[j]? = some a) : i = j := by
  obtain ⟨h1, e1⟩ := List.getElem?_eq_some_iff.mp hi
  obtain ⟨h2, e2⟩ := List.getElem?_eq_some_iff.mp hj
  exact (List.getElem_inj h).mp (e1.trans e2.symm)
/-- a cell is written -/
theorem Lay.write (l : Lay G w μ H) {n : Nat} {a : Addr} {c : Cell} {o : HO} (ha : w.α[n]? = some a) (nI : w.I a = none) (hc : ∀ H', H' a = some o → CellAt G w H' a c) : Lay G w (μ.set n c) (upd H a o) := by
  have nF := l.fd a (List.mem_of_getElem? ha)
  refine ⟨fun b u e => ?_, by rw [List.length_set]; exact l.len, l.nd, fun b hb => ?_, fun b u e => ?_, l.fd, l.di, fun m c' b e q => ?_⟩
  · rw [upd_ne (fun z => by rw [z, nI] at e; cases e)]; exact l.same b u e
  · by_cases z : b = a
    · subst z; exact ⟨o, upd_same⟩
    · rw [upd_ne z]; exact l.lv b hb
  · rw [upd_ne (fun z => by rw [z, nF] at e; cases e)]; exact l.fr b u e
  · by_cases z : n = m
    · subst z
      rw [ha] at q
      cases q
      have hn : n < μ.length := by rw [← l.len]; exact (List.getElem?_eq_some_iff.mp ha).1
      rw [List.getElem?_set_self hn] at e
      cases e
      exact hc _ upd_same
    · rw [List.getElem?_set_ne z] at e
      have ne : b ≠ a := fun y => z (get_nodup l.nd ha (y ▸ q))
      exact (l.at_ m c' b e q).cong (fun z => z) ⟨Same.refl _, List.prefix_refl _⟩ (upd_ne ne)
end
def dSetIx (x i v : Dv) (μ : Store) : Option Store := match x, i with
  | .c n, .d (.int k) => match μ[n]? with
    | some (.lst xs) => match ixN xs.length k with
      | some j => some (μ.set n (.lst (xs.set j v)))
      | none => none
    | _ => none
  | _, _ => none
def optN : Option Store → DEnv → Out Fl
  | some μ, ρ => .ok (.nx ρ) μ
  | none, _ => .bad
def sSetIx (m mo mi : ME) : MS := fun ρ μ => (m ρ μ).bind fun v μ => (mo ρ μ).bind fun x μ => (mi ρ μ).bind fun i μ => optN (dSetIx x i v μ) ρ
section
variable {X : Cx} {G : GT} {W : WX} {a b c e o tg : Expr} {es : List Expr} {m mo mi : ME} {mas : MA} {pos p : Pos} {S : List Nat}
theorem Rvs.set {w : Wd} {vs : List V} {bs : List Dv} (r : Rvs G w vs bs) {v : V} {b : Dv} (q : Rv G w v b) : ∀ j, Rvs G w (vs.set j v) (bs.set j b) := by
  induction r with
  | nil => intro j; exact .nil
  | cons r t ih =>
    intro j
    cases j with
    | zero => exact .cons q t
    | succ j => exact .cons r (ih j)
theorem ds_setIx {i : Expr} {pos' : Pos} (hv : DE X G W e m) (ho : DE X G W o mo) (hi : DE X G W i mi) (hs : swapsWithSole [.Subscript o i pos'] e pos.line X.env = pure false := by rfl) (hw : swappedStores [.Subscript o i pos'] e X.env = pure none := by rfl)
    (h1 : (assignEach [.Subscript o i pos'] X.env).map (·.2) = [assign (.Subscript o i pos') X.env] := by rfl)
    (ha : ∀ v, assign (.Subscript o i pos') X.env v = (do
      let ov ← holding [v] (eval o X.env)
      let iv ← holding [v, ov] (eval i X.env)
      standAt pos'
      holding [v, ov, iv] (setItem ov iv v)
      release [v, ov, iv] []) := by intro _; rfl) : DS X G W (.Assign [.Subscript o i pos'] e pos) (sSetIx m mo mi) := by
  refine PS.imp (ps_asg hv (pg_sub ho hi set_list ha) hs hw h1) ?_
  rintro D σ H ⟨w, μ, ρ, hl, he, p⟩
  refine tD.seqS (k := fun ρ v μ => (mo ρ μ).bind fun x μ => (mi ρ μ).bind fun i μ => optN (dSetIx x i v μ) ρ) hl he p fun w1 μ1 H1 v v' l1 lay1 en1 r1 p1 => ?_
  refine tD.seqS (k := fun ρ x μ => (mi ρ μ).bind fun i μ => optN (dSetIx x i v' μ) ρ) lay1 en1 p1 fun w2 μ2 H2 x x' l2 lay2 en2 r2 p2 => ?_
  refine tD.seqS (k := fun ρ i μ => optN (dSetIx x' i v' μ) ρ) lay2 en2 p2 fun w3 μ3 H3 y y' l3 lay3 en3 r3 p3 => ?_
  have r1 := (r1.mono l2).mono l3
  have r2 := r2.mono l3
  cases x' with
  | d _ => exact p3.elim
  | f _ => exact p3.elim
  | c n =>
    cases y' with
    | c _ => exact p3.elim
    | f _ => exact p3.elim
    | d yy =>
      cases yy with
      | int k =>
        unfold dSetIx at p3
        simp only at p3
        cases e : μ3[n]? with
        | none => simp only [e] at p3; exact p3.elim
        | some cl =>
          cases cl with
          | lst xs =>
            simp only [e] at p3
            cases q : ixN xs.length k with
            | none => simp only [q] at p3; exact p3.elim
            | some j =>
              simp only [q] at p3
              obtain ⟨a, g1, rfl⟩ := r2
              obtain ⟨nI, vs, g2, g3⟩ := lay3.at_ n _ a e g1
              refine ⟨a, vs, k, j, rfl, rv_int r3, g2, by rw [Paired.length g3]; exact q, ?_⟩
              exact p3 w3 σ _ w3.le_refl (lay3.write g1 nI fun H' e => ⟨nI, _, e, g3.set r1 j⟩) en3
          | _ => simp only [e] at p3; exact p3.elim
      | _ => exact p3.elim

/-! ### name = [.. for ..] -/
theorem ds_setLc {i : Nat} {y : Str} {py : Pos} {elt tg iter : Expr} {ifs : List Expr} {scope : Scope} (own : List (Str × Nat)) {lpos spos : Pos} {mi : MI} {g : MG} {tt : MT} {te : ME} {fin : OpN} (hf : OkFin G fin) (hc : X.calm = true) (hN : X.N.Nodup)
    (hi : DI X G W tg iter mi) (ok : BlkOk X.N X.env.scope scope own)
    (hg : ∀ (s : Shared) (H : Hp) (C : Addr) (cl : List (Str × Addr)) (fp : List Addr), DG (X.blk s H scope (compEnvC scope cl C X.env) fp) G S tg g) (ht : ∀ (s : Shared) (H : Hp) (C : Addr) (cl : List (Str × Addr)) (fp : List Addr), PTs (X.blk s H scope (compEnvC scope cl C X.env) fp) ifs (tT G W0 tt))
    (he : ∀ (s : Shared) (H : Hp) (C : Addr) (cl : List (Str × Addr)) (fp : List Addr), DE (X.blk s H scope (compEnvC scope cl C X.env) fp) G W0 elt te)
    (hy : X.N[i]? = some y := by rfl) (hyl : X.env.scope.names.lookup y = some .local := by rfl) (hsw : swapsWith (.ListComp elt [⟨tg, iter, ifs, 0⟩] scope lpos) (some (.Name y py)) spos.line X.env = pure true := by exact sw_true rfl rfl rfl (by decide +kernel))
    (hS : ∀ i ∈ S, i ∈ own.map (·.2) := by decide) (hs : ∀ x, foldedSetIterable iter X.env x = pure x := by intro _; rfl) :
    DS X G W (.Assign [.Name y py] (.ListComp elt [⟨tg, iter, ifs, 0⟩] scope lpos) spos) (sSet i (eLc fin mi g tt te (own.map (·.2)))) := by
  refine PS.imp (ps_setLc hc hN hy hyl hsw hi ok hg ht he hs) ?_
  rintro D σ H ⟨w, μ, ρ, hl, he, p⟩
  apply lc_imp hf hS
  exact tD.seqS (k := fun ρ b μ => .ok (.nx (ρ.set i (some b))) μ) hl he p fun w1 μ1 H1 v b l1 lay1 en1 r1 p1 => p1 w1 _ H1 w1.le_refl lay1 (en1.set i r1)
end

/-! ### calls with keywords -/
def pickL {α : Type} (d : α) (ix : List Nat) (l : List α) : List α := ix.map fun i => l.getD i d
def eCallK (n m : Nat) (ix : List Nat) (F : OpN) (a k : MA) : ME := fun ρ μ => (a ρ μ).bind fun bs μ => (k ρ μ).bind fun cs μ => if cs.length = m then fCall n F (pickL (.d .none) ix (bs ++ cs)) μ else .bad
abbrev DK (X : Cx) (G : GT) (W : WX) (ks : List Keyword) (m : MA) : Prop := PK X ks (tA G W m)
section
variable {X : Cx} {G : GT} {W : WX} {e : Expr} {es : List Expr} {kws : List Keyword} {ma : ME} {mas mks : MA} {pos p kpos : Pos} {x : Str} {nm : Option Str} {k n : Nat} {f : Addr} {fd : FuncData} {ps ks : List Str} {F : OpN} {ix : List Nat}
theorem PK.imp {t t' : TA} (h : PK X kws t) (i : ∀ σ H Q, t' σ H Q → t σ H Q) : PK X kws t' := ⟨fun po p s σ H Q I hw => h.run po p s σ H Q I (i _ _ _ hw)⟩
theorem dk_nil : DK X G W [] aNil := by
  refine PK.imp pk_nil ?_
  rintro σ H Q ⟨w, μ, ρ, hl, he, p⟩
  exact p w [] H w.le_refl hl .nil
theorem dk_cons (ha : DE X G W e ma) (hr : DK X G W kws mks) : DK X G W (⟨nm, e, kpos⟩ :: kws) (aCons ma mks) := PK.imp (pk_cons ha hr) acons_imp
theorem pick_vals {vs : List V} {us : List Value} (r : Vals vs us) : ∀ ix : List Nat, Vals (pickL .non ix vs) (pickL .none ix us)
  | [] => .nil
  | i :: ix => by
    refine .cons ?_ (pick_vals r ix)
    cases e : vs[i]? with
    | none =>
      have e2 := r.none_of e
      simp only [List.getD, e, e2]
      rfl
    | some v =>
      obtain ⟨u, e2, q⟩ := r.get e
      simp only [List.getD, e, e2]
      exact q
theorem pick_rvs {w : Wd} {vs : List V} {bs : List Dv} (r : Rvs G w vs bs) : ∀ ix : List Nat, Rvs G w (pickL .non ix vs) (pickL (.d .none) ix bs)
  | [] => .nil
  | i :: ix => by
    refine .cons ?_ (pick_rvs r ix)
    have hl := Paired.length r
    cases e : bs[i]? with
    | none =>
      have e2 : vs[i]? = none := List.getElem?_eq_none (by have := List.getElem?_eq_none_iff.mp e; omega)
      simp only [List.getD, e, e2]
      exact .non
    | some b =>
      obtain ⟨v, e2, q⟩ := r.at e
      simp only [List.getD, e, e2]
      exact q
/-- f(k = v, ..), keywords alone -/
theorem de_callK0 (hF : FnG X.prog X.w X.K X.mg X.base k f fd ps (spD G n F)) (g : X.A.guards = some []) (hr : Room k X.A) (hg : Gl X x) (hm : X.mg x = some (.ref f)) (hk : PySem.W.keepIn X.K (.ref f) = true)
    (hb : ∀ (s : Shared) (ws : List Value), ws.length = ks.length → BindsTo s fd ⟨[] ++ [], ks.zip ws⟩ (ps.zip (pickL .none ix ws))) (tk : Takes X W)
    (hkw : DK X G W kws mks) (hall : (backToKw pos (keywordEach kws X.env)).all (·.1.isSome) = true := by rfl) (hks : (backToKw pos (keywordEach kws X.env)).filterMap (·.1) = ks := by rfl)
    (hdb : (x == ("__debug__" : Str)) = false := by decide) (hpl : ((backTo pos (starEach [] X.env)).any (·.1) || (backToKw pos (keywordEach kws X.env)).any (·.1.isNone)) = false := by rfl) :
    DE X G W (.Call (.Name x p) [] kws pos) (eCallK n ks.length ix F aNil mks) := by
  constructor
  rintro pins s σ H Q I ⟨w, μ, ρ, hl, he, pp⟩
  apply wpAny_Call_Name_kw
  apply ld_glob I hg hm _ hdb
  apply PySem.W.callWith_KW0 (h₀ := X.base) I.ok.mod.kin hk hall _ hpl
  have pp : Pst G W σ (Rv G) w ((mks ρ μ).bind fun cs μ => if cs.length = ks.length then fCall n F (pickL (.d .none) ix ([] ++ cs)) μ else .bad) Q := pp
  apply thn (hkw.run pos pins s σ H (fun zs H2 => zs.length = ks.length ∧ (spD G n F) (pickL .non ix zs) H2 Q (WE W σ)) I (tD.seq (k := fun ρ cs μ => if cs.length = ks.length then fCall n F (pickL (.d .none) ix ([] ++ cs)) μ else .bad) hl he pp fun w1 μ1 H1 vs bs l1 lay1 en1 r1 p1 => ?_))
  · rintro ws s1 ⟨zs, H1, I1, r, hz, q⟩
    refine ⟨I1.kIn, ?_⟩
    rw [hks]
    apply wpAny_call
    apply codeAny_mono (runG hF g hr (fun _ _ _ _ _ I c => passAt tk σ _ _ _ _ _ I c) I1 (hb s1 ws (by rw [← r.length]; exact hz)) (pick_vals r ix) q)
    rintro (e | fl) s' q
    · exact q
    · cases fl with
      | ret u => exact q
      | next => exact q.elim
      | brk => exact q.elim
      | cont => exact q.elim
  · by_cases hb : bs.length = ks.length
    · simp only [if_pos hb, List.nil_append] at p1
      refine ⟨by rw [Paired.length r1]; exact hb, ?_⟩
      unfold fCall at p1
      by_cases q : (pickL (.d .none) ix bs).length = n
      · rw [if_pos q] at p1
        refine ⟨?_, w1, μ1, _, lay1, pick_rvs r1 ix, ?_⟩
        · rw [← q, pickL, pickL, List.length_map, List.length_map]
        · cases z : F (pickL (.d .none) ix bs) μ1 with
          | ok c μ2 => rw [z] at p1; exact p1
          | ex c μ2 => rw [z] at p1; exact p1
          | bad => rw [z] at p1; exact p1
      · rw [if_neg q] at p1
        exact p1.elim
    · simp only [if_neg hb] at p1
      exact p1.elim
end
end DL

/-! The data layer: built-in functions, methods of texts, what is walked. -/
namespace DL
open PySem PySem.Spec PyProof.Rows L2

theorem CallR.or {X : Cx} {f : Value} {r r' : List V → Hp → VK → Prop} (h : CallR X f r) (h' : CallR X f r') : CallR X f (fun xs H Q => r xs H Q ∨ r' xs H Q) := by
  intro pins s σ H xs us Q I rx q
  rcases q with q | q
  · exact h pins s σ H xs us Q I rx q
  · exact h' pins s σ H xs us Q I rx q
theorem MtR.or {X : Cx} {f : String} {r r' : V → List V → Hp → VK → Prop} (h : MtR X f r) (h' : MtR X f r') : MtR X f (fun x xs H Q => r x xs H Q ∨ r' x xs H Q) := by
  intro pins s σ H x xs v us Q I rv rx q
  rcases q with q | q
  · exact h pins s σ H x xs v us Q I rv rx q
  · exact h' pins s σ H x xs v us Q I rv rx q

/-! ### one, two arguments -/
def n1 (f : Dv → Store → Out Dv) : OpN := fun bs μ => match bs with
  | [b] => f b μ
  | _ => .bad
def n2 (f : Dv → Dv → Store → Out Dv) : OpN := fun bs μ => match bs with
  | [b, c] => f b c μ
  | _ => .bad
section
variable {G : GT}
theorem ok_n1 {r : List V → Hp → VK → Prop} {f : Dv → Store → Out Dv} (h : ∀ (W : WX) (σ : L2.St) (w : Wd) (μ : Store) (H : Hp) (x : V) (b : Dv) (Q : VK), Lay G w μ H → Rv G w x b → Pst G W σ (Rv G) w (f b μ) Q → r [x] H Q) : OkN G r (n1 f) := by
  intro W σ w μ H xs bs Q l r p
  match bs, r, p with
  | [b], .cons r .nil, p => exact h W σ w μ H _ b Q l r p
  | [], _, p => exact p.elim
  | _ :: _ :: _, _, p => exact p.elim
theorem ok_n2 {r : List V → Hp → VK → Prop} {f : Dv → Dv → Store → Out Dv} (h : ∀ (W : WX) (σ : L2.St) (w : Wd) (μ : Store) (H : Hp) (x y : V) (b c : Dv) (Q : VK), Lay G w μ H → Rv G w x b → Rv G w y c → Pst G W σ (Rv G) w (f b c μ) Q → r [x, y] H Q) : OkN G r (n2 f) := by
  intro W σ w μ H xs bs Q l r p
  match bs, r, p with
  | [b, c], .cons r (.cons r' .nil), p => exact h W σ w μ H _ _ b c Q l r r' p
  | [], _, p => exact p.elim
  | [_], _, p => exact p.elim
  | _ :: _ :: _ :: _, _, p => exact p.elim

def dLen : OpN := n1 fun b μ => match b with
  | .d (.str z) => if z.length ≤ sizeLine then .ok (.d (.int z.length)) μ else .bad
  | b => match itemsA b μ with
    | some xs => .ok (.d (.int xs.length)) μ
    | none => .bad
theorem ok_len : OkN G (fun xs H Q => ∃ x n, xs = [x] ∧ LenV G.K x H n ∧ Q (.int n) H) dLen := by
  apply ok_n1
  intro W σ w μ H x b Q l r p
  split at p
  · split at p
    · rename_i h
      rw [rv_str r]
      exact ⟨_, _, rfl, ⟨h, rfl⟩, p w _ H w.le_refl l (.int _)⟩
    · exact p.elim
  · split at p
    · rename_i xs h
      obtain ⟨a, vs, rfl, g1, g2⟩ := itemsA_ok l r h
      refine ⟨_, xs.length, rfl, ?_, p w _ H w.le_refl l (.int _)⟩
      rcases g1 with g1 | g1
      · exact .inl ⟨vs, g1, (Paired.length g2).symm⟩
      · exact .inr ⟨vs, g1, (Paired.length g2).symm⟩
    · exact p.elim
def dInt : OpN := n1 fun b μ => match b with
  | .d (.int i) => .ok (.d (.int i)) μ
  | .d (.bool k) => .ok (.d (.int (if k then 1 else 0))) μ
  | .d (.str z) => match PySem.intText? z with
    | some n => if z.length ≤ 640 then .ok (.d (.int n)) μ else .bad
    | none => .bad
  | _ => .bad
def rInt1 : List V → Hp → VK → Prop := fun xs H Q => (∃ i, xs = [.int i] ∧ Q (.int i) H) ∨ ∃ k, xs = [.bl k] ∧ Q (.int (if k then 1 else 0)) H
def rIntS : List V → Hp → VK → Prop := fun xs H Q => ∃ a n, xs = [.str a] ∧ PySem.intText? a = some n ∧ a.length ≤ 640 ∧ Q (.int n) H
theorem call_intA {X : Cx} : CallR X (.type "int") (fun xs H Q => rInt1 xs H Q ∨ rIntS xs H Q) := CallR.or (r := rInt1) (r' := rIntS) call_int1 call_int_str
theorem ok_int : OkN G (fun xs H Q => rInt1 xs H Q ∨ rIntS xs H Q) dInt := by
  apply ok_n1
  intro W σ w μ H x b Q l r p
  split at p
  · rw [rv_int r]; exact .inl (.inl ⟨_, rfl, p w _ H w.le_refl l (.int _)⟩)
  · rw [rv_bl r]; exact .inl (.inr ⟨_, rfl, p w _ H w.le_refl l (.int _)⟩)
  · split at p
    · rename_i h
      split at p
      · rename_i h2
        rw [rv_str r]; exact .inr ⟨_, _, rfl, h, h2, p w _ H w.le_refl l (.int _)⟩
      · exact p.elim
    · exact p.elim
  · exact p.elim
def dStr : OpN := n1 fun b μ => match b with
  | .d (.int i) => if i.natAbs.log2 < 1920 then .ok (.d (.str (toString i))) μ else .bad
  | .d (.str z) => .ok (.d (.str z)) μ
  | _ => .bad
def rStrI : List V → Hp → VK → Prop := fun xs H Q => ∃ i, xs = [.int i] ∧ i.natAbs.log2 < 1920 ∧ Q (.str (toString i)) H
def rStrS : List V → Hp → VK → Prop := fun xs H Q => ∃ a, xs = [.str a] ∧ Q (.str a) H
theorem call_strA {X : Cx} : CallR X (.type "str") (fun xs H Q => rStrI xs H Q ∨ rStrS xs H Q) := CallR.or (r := rStrI) (r' := rStrS) call_str_int SkE.call_str_str
theorem ok_str : OkN G (fun xs H Q => rStrI xs H Q ∨ rStrS xs H Q) dStr := by
  apply ok_n1
  intro W σ w μ H x b Q l r p
  split at p
  · split at p
    · rename_i h
      rw [rv_int r]; exact .inl ⟨_, rfl, h, p w _ H w.le_refl l (.str _)⟩
    · exact p.elim
  · rw [rv_str r]; exact .inr ⟨_, rfl, p w _ H w.le_refl l (.str _)⟩
  · exact p.elim
def dAbs : OpN := n1 fun b μ => match b with
  | .d (.int i) => .ok (.d (.int (if i < 0 then -i else i))) μ
  | _ => .bad
theorem ok_abs : OkN G (fun xs H Q => ∃ i, xs = [.int i] ∧ Q (.int (if i < 0 then -i else i)) H) dAbs := by
  apply ok_n1
  intro W σ w μ H x b Q l r p
  split at p
  · rw [rv_int r]; exact ⟨_, rfl, p w _ H w.le_refl l (.int _)⟩
  · exact p.elim
def dMax : OpN := n2 fun b c μ => match b, c with
  | .d (.int i), .d (.int j) => .ok (.d (.int (if j > i then j else i))) μ
  | _, _ => .bad
theorem ok_max : OkN G (fun xs H Q => ∃ i j, xs = [.int i, .int j] ∧ Q (.int (if j > i then j else i)) H) dMax := by
  apply ok_n2
  intro W σ w μ H x y b c Q l r r' p
  split at p
  · rw [rv_int r, rv_int r']; exact ⟨_, _, rfl, p w _ H w.le_refl l (.int _)⟩
  · exact p.elim
def dMin : OpN := n2 fun b c μ => match b, c with
  | .d (.int i), .d (.int j) => .ok (.d (.int (if j < i then j else i))) μ
  | _, _ => .bad
theorem ok_min : OkN G (fun xs H Q => ∃ i j, xs = [.int i, .int j] ∧ Q (.int (if j < i then j else i)) H) dMin := by
  apply ok_n2
  intro W σ w μ H x y b c Q l r r' p
  split at p
  · rw [rv_int r, rv_int r']; exact ⟨_, _, rfl, p w _ H w.le_refl l (.int _)⟩
  · exact p.elim
def allB : List Dv → Option (List Bool)
  | [] => some []
  | .d (.bool k) :: r => match allB r with
    | some ks => some (k :: ks)
    | none => none
  | _ => none
theorem allB_map : ∀ ks : List Bool, allB (ks.map fun k => .d (.bool k)) = some ks
  | [] => rfl
  | k :: ks => by rw [List.map_cons, allB, allB_map ks]
theorem allB_eq : ∀ {bs : List Dv} {ks : List Bool}, allB bs = some ks → bs = (ks.map PyData.bool).map Dv.d
  | [], _, h => by cases h; rfl
  | .d (.bool k) :: r, _, h => by
    unfold allB at h
    cases q : allB r with
    | none => rw [q] at h; cases h
    | some xs => rw [q] at h; cases h; rw [allB_eq q]; rfl
def dAll (f : List Bool → Bool) : OpN := n1 fun b μ => match items b μ with
  | some bs => match allB bs with
    | some ks => .ok (.d (.bool (f ks))) μ
    | none => .bad
  | none => .bad
theorem bools_ok {w : Wd} {μ : Store} {H : Hp} {x : V} {b : Dv} {bs : List Dv} {ks : List Bool} (l : Lay G w μ H) (r : Rv G w x b) (h : items b μ = some bs) (h2 : allB bs = some ks) : ∃ a, x = .ref a ∧ SqL G.K H a (ks.map V.bl) := by
  obtain ⟨a, vs, rfl, g1, g2⟩ := items_ok l r h
  rw [allB_eq h2] at g2
  rw [rv_bls (RpA_of_Rvs g2)] at g1
  exact ⟨a, rfl, g1⟩
theorem ok_all : OkN G (rAll G.K) (dAll fun ks => ks.all id) := by
  apply ok_n1
  intro W σ w μ H x b Q l r p
  split at p
  · rename_i bs h
    split at p
    · rename_i ks h2
      obtain ⟨a, rfl, g⟩ := bools_ok l r h h2
      exact ⟨a, ks, rfl, g, p w _ H w.le_refl l (.bl _)⟩
    · exact p.elim
  · exact p.elim
theorem ok_any : OkN G (rAny G.K) (dAll fun ks => ks.any id) := by
  apply ok_n1
  intro W σ w μ H x b Q l r p
  split at p
  · rename_i bs h
    split at p
    · rename_i ks h2
      obtain ⟨a, rfl, g⟩ := bools_ok l r h h2
      exact ⟨a, ks, rfl, g, p w _ H w.le_refl l (.bl _)⟩
    · exact p.elim
  · exact p.elim
def allI : List Dv → Option (List Int)
  | [] => some []
  | .d (.int k) :: r => match allI r with
    | some ks => some (k :: ks)
    | none => none
  | _ => none
theorem allI_map : ∀ ks : List Int, allI (ks.map fun k => .d (.int k)) = some ks
  | [] => rfl
  | k :: ks => by rw [List.map_cons, allI, allI_map ks]
theorem allI_eq : ∀ {bs : List Dv} {ks : List Int}, allI bs = some ks → bs = (ks.map PyData.int).map Dv.d
  | [], _, h => by cases h; rfl
  | .d (.int k) :: r, _, h => by
    unfold allI at h
    cases q : allI r with
    | none => rw [q] at h; cases h
    | some xs => rw [q] at h; cases h; rw [allI_eq q]; rfl
def dSum : OpN := n1 fun b μ => match items b μ with
  | some bs => match allI bs with
    | some ks => .ok (.d (.int ks.sum)) μ
    | none => .bad
  | none => .bad
theorem ok_sum : OkN G (rSum G.K) dSum := by
  apply ok_n1
  intro W σ w μ H x b Q l r p
  split at p
  · rename_i bs h
    split at p
    · rename_i ks h2
      obtain ⟨a, vs, rfl, g1, g2⟩ := items_ok l r h
      rw [allI_eq h2] at g2
      rw [rv_ints (RpA_of_Rvs g2)] at g1
      exact ⟨a, ks, rfl, g1, p w _ H w.le_refl l (.int _)⟩
    · exact p.elim
  · exact p.elim

/-! ### repr -/
def rRepr (K : PySem.W.Frag) : List V → Hp → VK → Prop := fun xs H Q => ∃ x d, xs = [x] ∧ Dp K H x d ∧ d.showable = true ∧ d.hasDict = false ∧ d.depth ≤ 40 ∧ d.shown.length ≤ sizeLine ∧ Q (.str d.shown) H
theorem call_reprA {X : Cx} (g : X.A.guards = some []) (hu : X.A.units + 64 < cLine) : CallR X (.builtin "repr") (rRepr X.K) := by
  intro pins s σ H xs us Q I r h
  obtain ⟨x, d, rfl, dp, sh, nd, dep, sz, q⟩ := h
  obtain ⟨u, rfl, r1⟩ := vals1 r
  obtain ⟨as, rd⟩ := Dp.reads I d x u dp r1
  have fin : ∀ h' u tk, (∀ b o, s.heap.get? b = some o → h'.get? b = some o) → EP X pins σ Q (.str d.shown u) { s with heap := h', toks := tk } := fun h' u tk hk => ⟨.str d.shown, H, I.kept hk, ⟨u, rfl⟩, q⟩
  have go : isDisplay d = true → wpAny (model X.prog X.w) X.A (call (.builtin "repr") [u]) (EP X pins σ Q) X.xe s := fun hd => by
    obtain ⟨a, rfl⟩ := isRef_of_reads rd hd
    exact repr_of_reads' rd sh (PyData.noDict_hsm nd) g (by omega) (fun _ _ e => e) fin sz
  cases d with
  | none => cases rd; exact PySem.P.repr_of_none (fin s.heap _ _ fun _ _ e => e)
  | bool b => cases rd; exact PySem.P.repr_of_bool (fin s.heap _ _ fun _ _ e => e)
  | int i => cases rd; exact PySem.P.repr_of_int (by simpa [PyData.showable] using sh) (fin s.heap _ _ fun _ _ e => e)
  | str z => cases rd; exact PySem.P.repr_of_str (fin s.heap _ _ fun _ _ e => e) (hsz := by simpa [PyData.shown] using sz)
  | list ds => exact go rfl
  | tuple ds => exact go rfl
  | dict ds => cases dp
def dRepr : OpN := n1 fun b μ => match view b μ with
  | some d => if (d.showable && nodict d && !d.hasDict && decide (d.depth ≤ 40) && decide (d.shown.length ≤ sizeLine)) = true then .ok (.d (.str d.shown)) μ else .bad
  | none => .bad
theorem ok_repr : OkN G (rRepr G.K) dRepr := by
  apply ok_n1
  intro W σ w μ H x b Q l r p
  split at p
  · rename_i d h
    split at p
    · rename_i h2
      simp only [Bool.and_eq_true, decide_eq_true_eq, Bool.not_eq_true'] at h2
      exact ⟨x, d, rfl, Rp.dp _ _ h2.1.1.1.2 (view_ok l r h), h2.1.1.1.1, h2.1.1.2, h2.1.2, h2.2, p w _ H w.le_refl l (.str _)⟩
    · exact p.elim
  · exact p.elim
end
end DL

/-! The data layer: what is walked, methods of texts, cells frozen. -/
namespace DL
open PySem PySem.Spec PyProof.Rows L2

/-! ### what is walked -/
def signs (z : Str) : List Dv := z.cps.toList.map fun c => .d (.str ⟨#[c]⟩)
/-- a frozen list, a tuple, a text -/
def walkD : Dv → Store → Out (List Dv)
  | .d (.str z), μ => .ok (signs z) μ
  | .d (.list ds), μ => .ok (ds.map .d) μ
  | .d (.tuple ds), μ => .ok (ds.map .d) μ
  | _, _ => .bad
def iSeq (a : ME) : MI := fun ρ μ => (a ρ μ).bind walkD
section
variable {G : GT} {w : Wd}
theorem it_tup {a : Addr} {vs : List V} {bs : List Dv} (hs : SqT G.K w.I a vs) (r : Rvs G w vs bs) : ItR G w (Itt G.K a) bs where
  go := fun i w' μ H hi l lay => ⟨vs, vs[i]'(by rw [Paired.length r]; exact hi), seqT (Same.trans l.1 lay.same) hs, by simp⟩
  yld := fun i b w' μ H x H' e l lay y => by
    obtain ⟨rfl, y⟩ := y
    obtain ⟨v, e1, q⟩ := r.at e
    have := y vs (seqT (Same.trans l.1 lay.same) hs)
    rw [e1] at this
    cases this
    exact ⟨w', w'.le_refl, lay, q.mono l⟩
  stop := fun i w' μ H hi l lay => ⟨vs, seqT (Same.trans l.1 lay.same) hs, by rw [Paired.length r]; exact hi⟩
theorem it_str (z : Str) : ItR G w (Its z) (signs z) where
  go := fun i w' μ H hi l lay => by
    have hi : i < z.cps.toList.length := by simpa [signs] using hi
    show i < z.cps.size
    simpa using hi
  yld := fun i b w' μ H x H' e l lay y => by
    obtain ⟨rfl, c, e1, rfl⟩ := y
    unfold signs at e
    rw [List.getElem?_map, Array.getElem?_toList, e1] at e
    cases e
    exact ⟨w', w'.le_refl, lay, .str _⟩
  stop := fun i w' μ H hi l lay => by
    have hi : z.cps.toList.length ≤ i := by simpa [signs] using hi
    show z.cps.size ≤ i
    simpa using hi
theorem it_range (lo : Int) (n : Nat) : ItR G w (Itr lo n) ((List.range n).map fun (i : Nat) => Dv.d (.int (lo + (i : Int)))) where
  go := fun i w' μ H hi l lay => by
    rw [List.length_map, List.length_range] at hi
    exact hi
  yld := fun i b w' μ H x H' e l lay y => by
    obtain ⟨rfl, rfl⟩ := y
    rw [List.getElem?_map] at e
    cases q : (List.range n)[i]? with
    | none => rw [q] at e; cases e
    | some j =>
      rw [q] at e
      cases e
      obtain ⟨h1, h2⟩ := List.getElem?_eq_some_iff.mp q
      rw [List.getElem_range] at h2
      subst h2
      exact ⟨w', w'.le_refl, lay, .int _⟩
  stop := fun i w' μ H hi l lay => by
    rw [List.length_map, List.length_range] at hi
    exact hi
end
def iAny (K : PySem.W.Frag) (te : TE) : TI := fun σ H R => te σ H fun x H1 => (∃ a, x = .ref a ∧ (∃ xs, SqL K H1 a xs) ∧ R (Itl K a) H1) ∨ (∃ a, x = .ref a ∧ (∃ xs, SqT K H1 a xs) ∧ R (Itt K a) H1) ∨ ∃ z, x = .str z ∧ R (Its z) H1
section
variable {X : Cx} {G : GT} {W : WX} {tg e : Expr} {es : List Expr} {m : ME} {mas : MA} {pos p : Pos}
theorem pi_any {te : TE} (he : PE X e te) : PI X tg e (iAny X.K te) := by
  constructor
  intro pins s σ H R I h
  apply thn (he.run pins s σ H _ I h)
  rintro v s1 ⟨x, H1, I1, r1, ⟨a, rfl, ⟨xs, hq⟩, q⟩ | ⟨a, rfl, ⟨xs, hq⟩, q⟩ | ⟨z, rfl, q⟩⟩
  · cases r1
    obtain ⟨its, rv, pl, _⟩ := I1.list hq
    apply wpAny_pyIter_list pl.isList
    exact pi_one (tk := s1.toks) I1 _ (turn_list a _) ⟨_, Heap.get?_push_size _ rfl, rfl, rfl⟩ q
  · cases r1
    obtain ⟨its, rv, pt, _⟩ := I1.tuple hq
    apply wpAny_pyIter_tuple (show s1.heap.IsTuple a its.toArray from pt)
    exact pi_one (tk := s1.toks) I1 _ (turn_tuple a _) ⟨_, Heap.get?_push_size _ rfl, rfl, rfl⟩ q
  · obtain ⟨t, rfl⟩ := r1
    by_cases ha : z.cps.all (· < 128) = true
    · exact wpAny_pyIter_ascii ha (pi_one (tk := s1.toks) I1 _ (turn_str _ z t "str_ascii_iterator" (Or.inl rfl)) ⟨_, Heap.get?_push_size _ rfl, rfl, rfl⟩ q)
    · exact wpAny_pyIter_wide (by simpa using ha) (pi_one (tk := s1.toks) I1 _ (turn_str _ z t "str_iterator" (Or.inr rfl)) ⟨_, Heap.get?_push_size _ rfl, rfl, rfl⟩ q)
theorem it_listX {w : Wd} {a : Addr} {vs : List V} {bs : List Dv} (hs : SqL G.K w.I a vs) (r : Rvs G w vs bs) : ItR G w (Itl G.K a) bs where
  go := fun i w' μ H hi l lay => ⟨vs, vs[i]'(by rw [Paired.length r]; exact hi), seqL (Same.trans l.1 lay.same) hs, by simp⟩
  yld := fun i b w' μ H x H' e l lay y => by
    obtain ⟨rfl, y⟩ := y
    obtain ⟨v, e1, q⟩ := r.at e
    have := y vs (seqL (Same.trans l.1 lay.same) hs)
    rw [e1] at this
    cases this
    exact ⟨w', w'.le_refl, lay, q.mono l⟩
  stop := fun i w' μ H hi l lay => ⟨vs, seqL (Same.trans l.1 lay.same) hs, by rw [Paired.length r]; exact hi⟩
theorem di_seq (hK : X.K = G.K) (he : DE X G W e m) : DI X G W tg e (iSeq m) := by
  refine PI.imp (pi_any he) ?_
  rintro σ H Q ⟨w, μ, ρ, hl, he, p⟩
  refine tD.seq (k := fun ρ x μ => walkD x μ) hl he p fun w1 μ1 H1 v b l1 lay1 en1 r1 p1 => ?_
  unfold walkD at p1
  split at p1
  · rename_i z
    rw [rv_str r1]
    exact .inr (.inr ⟨z, rfl, p1 w1 _ H1 w1.le_refl lay1 (it_str z)⟩)
  · obtain ⟨a, vs, rfl, g1, g2⟩ := rv_lst r1
    exact .inl ⟨a, rfl, ⟨vs, by rw [hK]; exact seqL lay1.same g1⟩, p1 w1 _ H1 w1.le_refl lay1 (by rw [hK]; exact it_listX g1 (Rvs_of_RpA g2))⟩
  · obtain ⟨a, vs, rfl, g1, g2⟩ := rv_tup r1
    exact .inr (.inl ⟨a, rfl, ⟨vs, by rw [hK]; exact seqT lay1.same g1⟩, p1 w1 _ H1 w1.le_refl lay1 (by rw [hK]; exact it_tup g1 (Rvs_of_RpA g2))⟩)
  · exact p1.elim
def okR (i : Int) : Bool := decide (-(2 ^ 62) ≤ i) && decide (i < 2 ^ 62)
def rng1 : List Dv → Store → Out (List Dv)
  | [.d (.int j)], μ => if okR j = true then .ok ((List.range j.toNat).map fun (i : Nat) => Dv.d (.int i)) μ else .bad
  | _, _ => .bad
def rng2 : List Dv → Store → Out (List Dv)
  | [.d (.int i), .d (.int j)], μ => if (okR i && okR j) = true then .ok ((List.range (j - i).toNat).map fun (k : Nat) => Dv.d (.int (i + k))) μ else .bad
  | _, _ => .bad
def iRng (f : List Dv → Store → Out (List Dv)) (a : MA) : MI := fun ρ μ => (a ρ μ).bind f
theorem di_range1 {a : Expr} (hg : Gl X "range") (hm : X.mg "range" = none) (ha : DA X G W [a] mas) (hs : starEach [a] X.env = [(false, eval a X.env)] := by rfl) : DI X G W tg (.Call (.Name "range" p) [a] [] pos) (iRng rng1 mas) := by
  refine PI.imp (pi_range1 hg hm ha hs) ?_
  rintro σ H Q ⟨w, μ, ρ, hl, he, pp⟩
  refine tD.seq (k := fun ρ xs μ => rng1 xs μ) hl he pp fun w1 μ1 H1 v b l1 lay1 en1 r1 p1 => ?_
  unfold rng1 at p1
  split at p1
  · rename_i j
    split at p1
    · rename_i h
      unfold okR at h
      simp only [Bool.and_eq_true, decide_eq_true_eq] at h
      cases r1 with
      | cons r t =>
        cases t
        rw [rv_int r]
        have z := it_range (G := G) (w := w1) 0 j.toNat
        have : (List.range j.toNat).map (fun (i : Nat) => Dv.d (.int (0 + (i : Int)))) = (List.range j.toNat).map fun (i : Nat) => Dv.d (.int (i : Int)) := by simp only [Int.zero_add]
        rw [this] at z
        exact ⟨j, rfl, h.1, h.2, p1 w1 _ H1 w1.le_refl lay1 z⟩
    · exact p1.elim
  · exact p1.elim
theorem di_range2 {a b : Expr} (hg : Gl X "range") (hm : X.mg "range" = none) (ha : DA X G W [a, b] mas) (hs : starEach [a, b] X.env = [(false, eval a X.env), (false, eval b X.env)] := by rfl) (hs2 : starEach [b] X.env = [(false, eval b X.env)] := by rfl) :
    DI X G W tg (.Call (.Name "range" p) [a, b] [] pos) (iRng rng2 mas) := by
  refine PI.imp (pi_range2 hg hm ha hs hs2) ?_
  rintro σ H Q ⟨w, μ, ρ, hl, he, pp⟩
  refine tD.seq (k := fun ρ xs μ => rng2 xs μ) hl he pp fun w1 μ1 H1 v b l1 lay1 en1 r1 p1 => ?_
  unfold rng2 at p1
  split at p1
  · rename_i i j
    split at p1
    · rename_i h
      unfold okR at h
      simp only [Bool.and_eq_true, decide_eq_true_eq] at h
      cases r1 with
      | cons r t =>
        cases t with
        | cons r' t =>
          cases t
          rw [rv_int r, rv_int r']
          exact ⟨i, j, rfl, ⟨h.1.1, h.1.2, h.2.1, h.2.2⟩, p1 w1 _ H1 w1.le_refl lay1 (it_range i _)⟩
    · exact p1.elim
  · exact p1.elim
end

/-! ### a cell that is changed no more -/
def dFrz : Op1 := fun x μ => match x with
  | .d y => .ok (.d y) μ
  | .c n => match μ[n]? with
    | some (.lst xs) => match allD xs with
      | some ds => .ok (.d (.list ds)) (μ.set n .dead)
      | none => .bad
    | _ => .bad
  | .f _ => .bad
theorem Lay.freeze {G : GT} {w : Wd} {μ : Store} {H : Hp} (l : Lay G w μ H) {n : Nat} {a : Addr} {vs : List V} (ha : w.α[n]? = some a) (nI : w.I a = none) (e : H a = some (.lst vs)) : w.le (w.put a (.lst vs)) ∧ Lay G (w.put a (.lst vs)) (μ.set n .dead) H := by
  have nF := l.fd a (List.mem_of_getElem? ha)
  refine ⟨⟨same_upd nI, List.prefix_refl _, Same.refl _⟩, fun b u q => ?_, by rw [List.length_set]; exact l.len, l.nd, l.lv, l.fr, l.fd, fun b u q => ?_, fun m c b q1 q2 => ?_⟩
  · by_cases z : b = a
    · subst z; have q : upd w.I b (.lst vs) b = some u := q; rw [upd_same] at q; rw [← q]; exact e
    · have q : upd w.I a (.lst vs) b = some u := q; rw [upd_ne z] at q; exact l.same b u q
  · have : b ≠ a := fun z => by rw [z, nF] at q; cases q
    show upd w.I a _ b = none
    rw [upd_ne this]; exact l.di b u q
  · by_cases z : n = m
    · subst z
      have hn : n < μ.length := by rw [← l.len]; exact (List.getElem?_eq_some_iff.mp ha).1
      rw [List.getElem?_set_self hn] at q1
      cases q1
      trivial
    · rw [List.getElem?_set_ne z] at q1
      have ne : b ≠ a := fun y => z (get_nodup l.nd ha (y ▸ q2))
      exact CellAt.cong (w' := w.put a (.lst vs)) (fun z => by show upd w.I a _ b = none; rw [upd_ne ne]; exact z) ⟨same_upd nI, List.prefix_refl _⟩ rfl (l.at_ m c b q1 q2)
section
variable {X : Cx} {G : GT} {W : WX} {e : Expr} {m : ME}
theorem de_frz (he : DE X G W e m) : DE X G W e (e1 dFrz m) := by
  refine PE.imp he ?_
  rintro σ H Q ⟨w, μ, ρ, hl, he, p⟩
  refine ⟨w, μ, ρ, hl, he, ?_⟩
  have p : Pst G W σ (Rv G) w ((m ρ μ).bind fun x μ => dFrz x μ) Q := p
  cases q : m ρ μ with
  | bad => rw [q] at p; exact p.elim
  | ex _ _ => rw [q] at p; exact p
  | ok b μ1 =>
    rw [q] at p
    intro w1 v H1 l1 lay1 r1
    have p1 : Pst G W σ (Rv G) w (dFrz b μ1) Q := p
    have p1 := Pst.mono l1 p1
    cases b with
    | d x => exact p1 w1 v H1 w1.le_refl lay1 r1
    | f n => exact p1.elim
    | c n =>
      unfold dFrz at p1
      simp only at p1
      cases e : μ1[n]? with
      | none => simp only [e] at p1; exact p1.elim
      | some cl =>
        cases cl with
        | lst xs =>
          simp only [e] at p1
          cases q2 : allD xs with
          | none => simp only [q2] at p1; exact p1.elim
          | some ds =>
            simp only [q2] at p1
            obtain ⟨a, g1, rfl⟩ := r1
            obtain ⟨nI, vs, g2, g3⟩ := lay1.at_ n _ a e g1
            obtain ⟨le, l2⟩ := lay1.freeze g1 nI g2
            rw [allD_eq q2] at g3
            exact p1 _ _ H1 le l2 (.lst (SqL.of upd_same) (RpA.mono le.1 _ _ (RpA_of_Rvs g3)))
        | _ => simp only [e] at p1; exact p1.elim
end

/-! ### methods of texts -/
def m0 (f : Str → Store → Out Dv) : Dv → OpN := fun x bs μ => match x, bs with
  | .d (.str a), [] => f a μ
  | _, _ => .bad
def m1 (f : Str → Dv → Store → Out Dv) : Dv → OpN := fun x bs μ => match x, bs with
  | .d (.str a), [b] => f a b μ
  | _, _ => .bad
def m2 (f : Str → Dv → Dv → Store → Out Dv) : Dv → OpN := fun x bs μ => match x, bs with
  | .d (.str a), [b, c] => f a b c μ
  | _, _ => .bad
section
variable {G : GT}
theorem ok_m0 {r : V → List V → Hp → VK → Prop} {f : Str → Store → Out Dv} (h : ∀ (W : WX) (σ : L2.St) (w : Wd) (μ : Store) (H : Hp) (a : Str) (Q : VK), Lay G w μ H → Pst G W σ (Rv G) w (f a μ) Q → r (.str a) [] H Q) : OkM G r (m0 f) := by
  intro W σ w μ H x xs b bs Q l r rr p
  unfold m0 at p
  split at p
  · cases rr; rw [rv_str r]; exact h W σ w μ H _ Q l p
  · exact p.elim
theorem ok_m1 {r : V → List V → Hp → VK → Prop} {f : Str → Dv → Store → Out Dv} (h : ∀ (W : WX) (σ : L2.St) (w : Wd) (μ : Store) (H : Hp) (a : Str) (y : V) (b : Dv) (Q : VK), Lay G w μ H → Rv G w y b → Pst G W σ (Rv G) w (f a b μ) Q → r (.str a) [y] H Q) : OkM G r (m1 f) := by
  intro W σ w μ H x xs b bs Q l r rr p
  unfold m1 at p
  split at p
  · cases rr with
    | cons r1 t => cases t; rw [rv_str r]; exact h W σ w μ H _ _ _ Q l r1 p
  · exact p.elim
theorem ok_m2 {r : V → List V → Hp → VK → Prop} {f : Str → Dv → Dv → Store → Out Dv} (h : ∀ (W : WX) (σ : L2.St) (w : Wd) (μ : Store) (H : Hp) (a : Str) (y z : V) (b c : Dv) (Q : VK), Lay G w μ H → Rv G w y b → Rv G w z c → Pst G W σ (Rv G) w (f a b c μ) Q → r (.str a) [y, z] H Q) : OkM G r (m2 f) := by
  intro W σ w μ H x xs b bs Q l r rr p
  unfold m2 at p
  split at p
  · cases rr with
    | cons r1 t =>
      cases t with
      | cons r2 t => cases t; rw [rv_str r]; exact h W σ w μ H _ _ _ _ _ Q l r1 r2 p
  · exact p.elim
def dPartition : Dv → OpN := m1 fun a b μ => match b with
  | .d (.str b) => if (b.length == 0) = false ∧ a.length ≤ sizeLine then .ok (.d (.tuple [.str (Txt.partition a b).1, .str (Txt.partition a b).2.1, .str (Txt.partition a b).2.2])) μ else .bad
  | _ => .bad
theorem ok_partition : OkM G (fun x xs H Q => ∃ a b, x = .str a ∧ xs = [.str b] ∧ (b.length == 0) = false ∧ a.length ≤ sizeLine ∧ ∀ p, H p = none → Q (.ref p) (upd H p (.tup [.str (Txt.partition a b).1, .str (Txt.partition a b).2.1, .str (Txt.partition a b).2.2]))) dPartition := by
  apply ok_m1
  intro W σ w μ H a y b Q l r p
  split at p
  · split at p
    · rename_i h
      rw [rv_str r]
      refine ⟨a, _, rfl, rfl, h.1, h.2, fun q nq => ?_⟩
      obtain ⟨le, l2⟩ := l.new nq (.tup [.str (Txt.partition a _).1, .str (Txt.partition a _).2.1, .str (Txt.partition a _).2.2])
      exact p _ _ _ le l2 (.tup (SqT.of upd_same) (.cons (.str _) (.cons (.str _) (.cons (.str _) .nil))))
    · exact p.elim
  · exact p.elim
def dSplit : Dv → OpN := m1 fun a b μ => match b with
  | .d (.str b) => if (b.length == 0) = false ∧ a.length + 2 ≤ sizeLine then .ok (.d (.list ((Txt.split a b).map .str))) μ else .bad
  | _ => .bad
theorem ok_split : OkM G (fun x xs H Q => ∃ a b, x = .str a ∧ xs = [.str b] ∧ (b.length == 0) = false ∧ a.length + 2 ≤ sizeLine ∧ rNewStrs (Txt.split a b) H Q) dSplit := by
  apply ok_m1
  intro W σ w μ H a y b Q l r p
  split at p
  · split at p
    · rename_i h
      rw [rv_str r]
      refine ⟨a, _, rfl, rfl, h.1, h.2, fun q nq => ?_⟩
      obtain ⟨le, l2⟩ := l.new nq (.lst ((Txt.split a _).map V.str))
      exact p _ _ _ le l2 (.lst (SqL.of upd_same) (RpA_strs _))
    · exact p.elim
  · exact p.elim
def allS : List Dv → Option (List Str)
  | [] => some []
  | .d (.str k) :: r => match allS r with
    | some ks => some (k :: ks)
    | none => none
  | _ => none
theorem allS_map : ∀ ks : List Str, allS (ks.map fun k => .d (.str k)) = some ks
  | [] => rfl
  | k :: ks => by rw [List.map_cons, allS, allS_map ks]
theorem allS_eq : ∀ {bs : List Dv} {ks : List Str}, allS bs = some ks → bs = (ks.map PyData.str).map Dv.d
  | [], _, h => by cases h; rfl
  | .d (.str k) :: r, _, h => by
    unfold allS at h
    cases q : allS r with
    | none => rw [q] at h; cases h
    | some xs => rw [q] at h; cases h; rw [allS_eq q]; rfl
def dJoin : Dv → OpN := m1 fun a b μ => match itemsA b μ with
  | some bs => match allS bs with
    | some ys => if (ys.map (·.length)).sum + ys.length * a.length ≤ 16777216 then .ok (.d (.str (Txt.join a ys))) μ else .bad
    | none => .bad
  | none => .bad
theorem ok_join : OkM G (fun x xs H Q => ∃ a p, ∃ ys : List Str, x = .str a ∧ xs = [.ref p] ∧ (SqL G.K H p (ys.map V.str) ∨ SqT G.K H p (ys.map V.str)) ∧ (ys.map (·.length)).sum + ys.length * a.length ≤ 16777216 ∧ Q (.str (Txt.join a ys)) H) dJoin := by
  apply ok_m1
  intro W σ w μ H a y b Q l r p
  split at p
  · rename_i bs h
    split at p
    · rename_i ys h2
      split at p
      · rename_i h3
        obtain ⟨q, vs, rfl, g1, g2⟩ := itemsA_ok l r h
        rw [allS_eq h2] at g2
        rw [rv_strs (RpA_of_Rvs g2)] at g1
        exact ⟨a, q, ys, rfl, rfl, g1, h3, p w _ H w.le_refl l (.str _)⟩
      · exact p.elim
    · exact p.elim
  · exact p.elim
def dIndexS : Dv → OpN := m1 fun a b μ => match b with
  | .d (.str b) => match Builtin.Str.occurrences a b 0 a.length 1 with
    | i :: _ => .ok (.d (.int (i : Nat))) μ
    | [] => .bad
  | _ => .bad
theorem ok_indexS : OkM G (fun x xs H Q => ∃ a b i rest, x = .str a ∧ xs = [.str b] ∧ Builtin.Str.occurrences a b 0 a.length 1 = i :: rest ∧ Q (.int (i : Nat)) H) dIndexS := by
  apply ok_m1
  intro W σ w μ H a y b Q l r p
  split at p
  · split at p
    · rename_i i rest h
      rw [rv_str r]
      exact ⟨a, _, i, rest, rfl, rfl, h, p w _ H w.le_refl l (.int _)⟩
    · exact p.elim
  · exact p.elim
end
def rPadF (f : Str → Int → Nat → Str) : V → List V → Hp → VK → Prop := fun x xs H Q => ∃ (a : Str) (i : Int) (z : Str), x = .str a ∧ xs = [.int i, .str z] ∧ PadOk i = true ∧ z.length = 1 ∧ Q (.str (f a i (z.cps.getD 0 0))) H
theorem mt_ljustF {X : Cx} : MtR X "str.ljust" (rPadF Txt.ljustF) := by
  intro pins s σ H x xs v us Q I rx rs h
  obtain ⟨a, i, z, rfl, rfl, h1, h2, q⟩ := h
  obtain ⟨t, rfl⟩ := rx
  obtain ⟨u1, u2, rfl, ⟨t1, rfl⟩, ⟨t2, rfl⟩⟩ := vals2 rs
  exact ljust_fill h1 h2 fun t' k => ⟨.str _, H, I.tok k, ⟨t', rfl⟩, q⟩
theorem mt_rjustF {X : Cx} : MtR X "str.rjust" (rPadF Txt.rjustF) := by
  intro pins s σ H x xs v us Q I rx rs h
  obtain ⟨a, i, z, rfl, rfl, h1, h2, q⟩ := h
  obtain ⟨t, rfl⟩ := rx
  obtain ⟨u1, u2, rfl, ⟨t1, rfl⟩, ⟨t2, rfl⟩⟩ := vals2 rs
  exact rjust_fill h1 h2 fun t' k => ⟨.str _, H, I.tok k, ⟨t', rfl⟩, q⟩
def dPadF (f : Str → Int → Nat → Str) : Dv → OpN := m2 fun a b c μ => match b, c with
  | .d (.int i), .d (.str z) => if PadOk i = true ∧ z.length = 1 then .ok (.d (.str (f a i (z.cps.getD 0 0)))) μ else .bad
  | _, _ => .bad
theorem ok_padF {G : GT} {f : Str → Int → Nat → Str} : OkM G (rPadF f) (dPadF f) := by
  apply ok_m2
  intro W σ w μ H a y z b c Q l r r' p
  split at p
  · split at p
    · rename_i h
      rw [rv_int r, rv_str r']
      exact ⟨a, _, _, rfl, rfl, h.1, h.2, p w _ H w.le_refl l (.str _)⟩
    · exact p.elim
  · exact p.elim

/-! ### a text times a number -/
def dMulA : Op2 := fun x y μ => match x, y with
  | .d (.str z), .d (.int i) => if (decide (-(2 ^ 31) ≤ i) && decide (i < 2 ^ 31) && decide (z.length * i.toNat ≤ sizeLine) && decide (i < 1 ∨ (z.length : Int) ≤ (2 ^ 63 - 1) / i)) = true then .ok (.d (.str (Txt.mul z i))) μ else .bad
  | x, y => dMul x y μ
theorem ok_mulA {G : GT} : Ok2 G (fun x y H Q => rI CMulX (fun i j => .int (i * j)) x y H Q ∨ rMulS x y H Q) dMulA := by
  intro W σ w μ H x y b c Q l rx ry p
  unfold dMulA at p
  split at p
  · split at p
    · rename_i z i h
      simp only [Bool.and_eq_true, decide_eq_true_eq] at h
      refine .inr ⟨z, i, rv_str rx, rv_int ry, ⟨?_, fun h1 _ => ?_, fun h1 _ => ?_⟩, p w _ H w.le_refl l (.str _)⟩
      · simp only [Bool.or_eq_false_iff, decide_eq_false_iff_not]
        omega
      · have := h.2
        omega
      · have h2 := h.1.2
        unfold Builtin.Str.tooLong
        exact decide_eq_false (by omega)
    · exact p.elim
  · exact .inl (ok_mul W σ w μ H x y _ _ Q l rx ry p)
theorem op_mulA {X : Cx} : OpR X (binaryOp .Mult) (fun x y H Q => rI CMulX (fun i j => .int (i * j)) x y H Q ∨ rMulS x y H Q) := op_mulX.or op_mulS
end DL

/-! Defs of a text as callees. -/
namespace DL
open PySem PySem.Spec PyProof.Rows L2
/-- a text of these signs -/
def T (l : List Nat) : Str := ⟨l.toArray⟩
/-- the def called x: its promise over data, how it is found, how its arguments bind -/
structure Cal (P : Program) (w : World) (G : GT) (mg : Str → Option Value) (base : Heap) (x : Str) (k : Nat) (ps : List Str) (kb : List (List Str × List Nat)) (F : OpN) : Prop where
  ex : ∃ (f : Addr) (fd : FuncData), FnG P w G.K mg base k f fd ps (spD G ps.length F) ∧ mg x = some (.ref f) ∧ PySem.W.keepIn G.K (.ref f) = true ∧ Binds G.K fd ps [] ∧
    ∀ q ∈ kb, ∀ (s : Shared) (ws : List Value), ws.length = q.1.length → BindsTo s fd ⟨[] ++ [], q.1.zip ws⟩ (ps.zip (pickL .none q.2 ws))
section
variable {X : Cx} {G : GT} {W : WX} {e : Expr} {es : List Expr} {kws : List Keyword} {mas mks : MA} {pos p : Pos} {x : Str} {k : Nat} {ps ks : List Str} {kb : List (List Str × List Nat)} {F : OpN} {ix : List Nat} {n m : Nat}
theorem de_calC (hK : X.K = G.K) (C : Cal X.prog X.w G X.mg X.base x k ps kb F) (g : X.A.guards = some []) (hr : Room k X.A) (tk : Takes X W) (hg : Gl X x) (ha : DA X G W (e :: es) mas) (hdb : (x == ("__debug__" : Str)) = false := by decide)
    (he : starEach (e :: es) X.env = (false, eval e X.env) :: starEach es X.env := by rfl) (hpl : (backTo pos (starEach es X.env)).any (·.1) = false := by rfl) (hn : ps.length = n := by rfl) : DE X G W (.Call (.Name x p) (e :: es) [] pos) (eN (fCall n F) mas) := by
  subst hn
  obtain ⟨f, fd, h1, h2, h3, h4, _⟩ := C.ex
  rw [← hK] at h1 h3 h4
  exact de_callG h1 g hr hg h2 h3 h4 tk ha hdb he hpl
theorem de_calK (ks : List Str) (ix : List Nat) (hK : X.K = G.K) (C : Cal X.prog X.w G X.mg X.base x k ps kb F) (g : X.A.guards = some []) (hr : Room k X.A) (tk : Takes X W) (hg : Gl X x) (hkw : DK X G W kws mks) (hm : (ks, ix) ∈ kb)
    (hall : (backToKw pos (keywordEach kws X.env)).all (·.1.isSome) = true := by rfl) (hks : (backToKw pos (keywordEach kws X.env)).filterMap (·.1) = ks := by rfl)
    (hdb : (x == ("__debug__" : Str)) = false := by decide) (hpl : ((backTo pos (starEach [] X.env)).any (·.1) || (backToKw pos (keywordEach kws X.env)).any (·.1.isNone)) = false := by rfl) (hn : ps.length = n := by rfl) (hl : ks.length = m := by rfl) : DE X G W (.Call (.Name x p) [] kws pos) (eCallK n m ix F aNil mks) := by
  subst hn hl
  obtain ⟨f, fd, h1, h2, h3, h4, h5⟩ := C.ex
  rw [← hK] at h1 h3
  exact de_callK0 h1 g hr hg h2 h3 (fun s ws hl => h5 (ks, ix) hm s ws hl) tk hkw hall hks hdb hpl
end
end DL

/-! Running the data forms: equations for simp, texts as lists of signs, a law's hand of drawn numbers. -/
namespace DL
open PySem PySem.Spec PyProof.Rows L2

/-! ### texts as lists -/
theorem T_tl (x : Str) : T x.cps.toList = x := rfl
theorem tl_T (l : List Nat) : (T l).cps.toList = l := rfl
theorem T_len (l : List Nat) : (T l).length = l.length := by simp [T, Str.length]
theorem T_inj {l m : List Nat} : T l = T m ↔ l = m := ⟨fun h => by have := congrArg (fun x : Str => x.cps.toList) h; exact this, fun h => by rw [h]⟩
theorem T_app (l m : List Nat) : T l ++ T m = T (l ++ m) := TL.ext_tl (by rw [TL.tl_append]; rfl)
theorem T_one (c : Nat) : (⟨#[c]⟩ : Str) = T [c] := rfl
theorem ofS (s : String) : Str.ofString s = T (s.toList.map Char.toNat) := TL.ext_tl (TL.tl_ofString s)
theorem eqv_T (l m : List Nat) : PyData.eqv (.str (T l)) (.str (T m)) = decide (l = m) := by
  show (T l == T m) = _
  rw [Bool.eq_iff_iff]
  simp [T_inj]
theorem cutS_T (l : List Nat) (lo hi : Option Int) : cutS (T l) lo hi = T (cutL l lo hi) := by
  unfold cutS cutL
  rw [tl_T, T_len]
  rfl
theorem sub1_T (c : Nat) (l : List Nat) : sub1 (T [c]) (T l) = decide (c ∈ l) := rfl
theorem signs_T (l : List Nat) : signs (T l) = l.map fun c => .d (.str (T [c])) := rfl
theorem line_big : 16000000 ≤ sizeLine := by rw [sizeLine_eq]; decide
theorem join_T (l : List Nat) (ps : List (List Nat)) : Txt.join (T l) (ps.map T) = T (TL.joinL l ps) := by
  apply TL.ext_tl
  rw [TL.join_eq, TL.tl_join, List.map_map]
  show TL.joinL l (ps.map fun p => (T p).cps.toList) = _
  simp [tl_T]
theorem joinL_nil (ps : List (List Nat)) : TL.joinL [] ps = ps.flatten := by
  induction ps with
  | nil => rfl
  | cons p ps ih =>
    cases ps with
    | nil => simp [TL.joinL]
    | cons q qs =>
      rw [TL.joinL, ih]
      simp
theorem part_T (l : List Nat) (s : Nat) : Txt.partition (T l) (T [s]) = match TL.par [s] [] l with
    | some (a, b) => (T a, T [s], T b)
    | none => (T l, T [], T []) := by
  rw [TL.partition_par _ _ (by simp [TL.tl, tl_T])]
  show (match TL.par [s] [] l with | some (a, b) => _ | none => _) = _
  cases TL.par [s] [] l <;> rfl
theorem split_T (l : List Nat) (s : Nat) (h : s < 256) : Txt.split (T l) (T [s]) = (TL.spl [s] 0 [] l).map T := by
  apply TL.map_tl_inj
  rw [TL.split_spl _ _ (by simp [TL.tl, tl_T]) (TL.kind_ok (by simp [T, h])), List.map_map]
  show TL.spl [s] 0 [] l = _
  simp [TL.tl, tl_T, Function.comp_def]
/-- a text cut at its first s -/
theorem par_one (s : Nat) (acc l : List Nat) : TL.par [s] acc l = if s ∈ l then some (acc ++ l.takeWhile (· != s), (l.dropWhile (· != s)).drop 1) else none := by
  induction l generalizing acc with
  | nil => rfl
  | cons c r ih =>
    by_cases h : c = s
    · subst h
      rw [TL.par_hit (by simp [TL.pre])]
      simp
    · rw [TL.par_miss (TL.pre_of_head _ _ h), ih]
      have h' : (c != s) = true := by simp [h]
      have hs : (s ∈ c :: r) = (s ∈ r) := by simp [Ne.symm h]
      simp only [hs, List.takeWhile_cons, List.dropWhile_cons, h', if_true]
      split <;> simp
def splitL (s : Nat) : List Nat → List Nat → List (List Nat)
  | acc, [] => [acc]
  | acc, c :: r => if c = s then acc :: splitL s [] r else splitL s (acc ++ [c]) r
theorem spl_one (s : Nat) (acc l : List Nat) : TL.spl [s] 0 acc l = splitL s acc l := by
  induction l generalizing acc with
  | nil => rfl
  | cons c r ih =>
    by_cases h : c = s
    · subst h
      rw [TL.spl_hit (by simp [TL.pre]), splitL, if_pos rfl, ← ih]
      rfl
    · rw [TL.spl_miss (TL.pre_of_head _ _ h), splitL, if_neg h, ih]

/-! ### simp's words: what each form comes to when it is run -/
def finB : Out Fl → Out Dv
  | .ok (.nx _) μ' => .ok (.d .none) μ'
  | .ok (.rt b) μ' => .ok b μ'
  | .ok _ _ => .bad
  | .ex e μ' => .ex e μ'
  | .bad => .bad
theorem runB_eq (n : Nat) (B : MS) (bs : List Dv) (μ : Store) : runB n B bs μ = finB (B (bs.map some ++ List.replicate (n - bs.length) none) μ) := by
  unfold runB
  cases h : B (bs.map some ++ List.replicate (n - bs.length) none) μ with
  | ok f μ' => cases f <;> rfl
  | ex e μ' => rfl
  | bad => rfl
section
variable {ρ : DEnv} {μ : Store} {b : Dv} {a c : ME} {t u : MS} {i : Nat}
@[simp] theorem finB_nx : finB (.ok (.nx ρ) μ) = .ok (.d .none) μ := id rfl
@[simp] theorem finB_rt : finB (.ok (.rt b) μ) = .ok b μ := id rfl
@[simp] theorem finB_ex {e : Ex} : finB (.ex e μ) = .ex e μ := id rfl
@[simp] theorem finB_bad : finB .bad = .bad := id rfl
@[simp] theorem seqF_nx : seqF u (.nx ρ) μ = u ρ μ := id rfl
@[simp] theorem seqF_rt : seqF u (.rt b) μ = .ok (.rt b) μ := id rfl
@[simp] theorem seqF_bk : seqF u (.bk ρ) μ = .ok (.bk ρ) μ := id rfl
@[simp] theorem seqF_ct : seqF u (.ct ρ) μ = .ok (.ct ρ) μ := id rfl
@[simp] theorem sSeq_r : sSeq t u ρ μ = (t ρ μ).bind (seqF u) := id rfl
@[simp] theorem sNext_r : sNext ρ μ = .ok (.nx ρ) μ := id rfl
@[simp] theorem sBreak_r : sBreak ρ μ = .ok (.bk ρ) μ := id rfl
@[simp] theorem sCont_r : sCont ρ μ = .ok (.ct ρ) μ := id rfl
@[simp] theorem sRetN_r : sRetN ρ μ = .ok (.rt (.d .none)) μ := id rfl
@[simp] theorem sRet_r : sRet a ρ μ = (a ρ μ).bind fun b μ => .ok (.rt b) μ := id rfl
@[simp] theorem sDrop_r : sDrop a ρ μ = (a ρ μ).bind fun _ μ => .ok (.nx ρ) μ := id rfl
@[simp] theorem sSet_r : sSet i a ρ μ = (a ρ μ).bind fun b μ => .ok (.nx (ρ.set i (some b))) μ := id rfl
@[simp] theorem sIf_r {k : MT} : sIf k t u ρ μ = (k ρ μ).bind fun x μ => if x = true then t ρ μ else u ρ μ := id rfl
@[simp] theorem sPar_r {j : Nat} {m : MA} : sPar i j m ρ μ = (m ρ μ).bind (parF i j ρ) := id rfl
@[simp] theorem parF_r {j : Nat} {d : Dv} : parF i j ρ [b, d] μ = .ok (.nx ((ρ.set i (some b)).set j (some d))) μ := id rfl
@[simp] theorem sAsg_r {g : MG} : sAsg a g ρ μ = (a ρ μ).bind fun b μ => (g b ρ μ).gb fun ρ μ => .ok (.nx ρ) μ := id rfl
@[simp] theorem sSetIx_r {o j : ME} : sSetIx a o j ρ μ = (a ρ μ).bind fun v μ => (o ρ μ).bind fun x μ => (j ρ μ).bind fun i μ => optN (dSetIx x i v μ) ρ := id rfl
@[simp] theorem optN_r : optN (some μ) ρ = .ok (.nx ρ) μ := id rfl
@[simp] theorem sFor_r {mi : MI} {g : MG} {mb : MS} : sFor mi g mb ρ μ = (mi ρ μ).bind fun bs μ => forL g mb bs ρ μ := id rfl
@[simp] theorem gN_r : gN i b ρ μ = .ok (ρ.set i (some b)) μ := id rfl
@[simp] theorem gT_r {n : Nat} {g : MGs} {ds : List D} : gT n g (.d (.tuple ds)) ρ μ = if ds.length = n then g (ds.map .d) ρ μ else .bad := id rfl
@[simp] theorem gsNil_r : gsNil [] ρ μ = .ok ρ μ := id rfl
@[simp] theorem gsCons_r {g : MG} {r : MGs} {bs : List Dv} : gsCons g r (b :: bs) ρ μ = (g b ρ μ).bind fun ρ μ => r bs ρ μ := id rfl
@[simp] theorem gStar_r {n : Nat} {g : MGs} {ds : List D} : gStar n g (.d (.tuple ds)) ρ μ = if n ≤ ds.length ∧ ds.length ≤ 16384 then g ((ds.take n).map .d ++ [.d (.list (ds.drop n))]) ρ μ else .bad := id rfl
@[simp] theorem eVar_r : eVar i ρ μ = match ρ[i]? with
  | some (some b) => .ok b μ
  | _ => .bad := id rfl
@[simp] theorem eC_r : eC b ρ μ = .ok b μ := id rfl
@[simp] theorem e1_r {f : Op1} : e1 f a ρ μ = (a ρ μ).bind fun x μ => f x μ := id rfl
@[simp] theorem e2_r {f : Op2} : e2 f a c ρ μ = (a ρ μ).bind fun x μ => (c ρ μ).bind fun y μ => f x y μ := id rfl
@[simp] theorem tV_r : tV a ρ μ = (a ρ μ).bind asBool := id rfl
@[simp] theorem asBool_r {k : Bool} : asBool (.d (.bool k)) μ = .ok k μ := id rfl
@[simp] theorem bind_asBool {k : Bool} : (Out.ok (Dv.d (.bool k)) μ).bind asBool = .ok k μ := id rfl
@[simp] theorem tAndM_r {x y : MT} : tAndM x y ρ μ = (x ρ μ).bind fun k μ => if k = true then y ρ μ else .ok false μ := id rfl
@[simp] theorem tOrM_r {x y : MT} : tOrM x y ρ μ = (x ρ μ).bind fun k μ => if k = true then .ok true μ else y ρ μ := id rfl
@[simp] theorem tNotM_r {x : MT} : tNotM x ρ μ = (x ρ μ).bind fun k μ => .ok (!k) μ := id rfl
@[simp] theorem eAnd_r : eAnd a c ρ μ = (a ρ μ).bind fun x μ => (asBool x μ).bind fun k μ => if k = true then c ρ μ else .ok (.d (.bool false)) μ := id rfl
@[simp] theorem eOr_r : eOr a c ρ μ = (a ρ μ).bind fun x μ => (asBool x μ).bind fun k μ => if k = true then .ok (.d (.bool true)) μ else c ρ μ := id rfl
@[simp] theorem eNot_r : eNot a ρ μ = (a ρ μ).bind fun x μ => (asBool x μ).bind fun k μ => .ok (.d (.bool (!k))) μ := id rfl
@[simp] theorem eIf_r {k : MT} : eIf k a c ρ μ = (k ρ μ).bind fun x μ => if x = true then a ρ μ else c ρ μ := id rfl
@[simp] theorem eChain_r {f g : Op2} {d : ME} : eChain f g a c d ρ μ = (a ρ μ).bind fun x μ => (c ρ μ).bind fun y μ => (f x y μ).bind fun z μ => (asBool z μ).bind fun k μ => if k = true then (d ρ μ).bind fun u μ => g y u μ else .ok (.d (.bool false)) μ := id rfl
@[simp] theorem aNil_r : aNil ρ μ = .ok [] μ := id rfl
@[simp] theorem aCons_r {r : MA} : aCons a r ρ μ = (a ρ μ).bind fun x μ => (r ρ μ).bind fun xs μ => .ok (x :: xs) μ := id rfl
@[simp] theorem eN_r {f : OpN} {m : MA} : eN f m ρ μ = (m ρ μ).bind fun xs μ => f xs μ := id rfl
@[simp] theorem fCall_r {n : Nat} {F : OpN} {bs : List Dv} : fCall n F bs μ = if bs.length = n then F bs μ else .bad := id rfl
@[simp] theorem eCallK_r {n m : Nat} {ix : List Nat} {F : OpN} {x y : MA} : eCallK n m ix F x y ρ μ = (x ρ μ).bind fun bs μ => (y ρ μ).bind fun cs μ => if cs.length = m then fCall n F (pickL (.d .none) ix (bs ++ cs)) μ else .bad := id rfl
@[simp] theorem eM_r {k : Dv → Store → Bool} {f : Dv → OpN} {m : MA} : eM k f a m ρ μ = (a ρ μ).bind fun x μ => if k x μ = true then (m ρ μ).bind fun xs μ => f x xs μ else .bad := id rfl
@[simp] theorem isStr_r {z : Str} : isStr (.d (.str z)) μ = true := id rfl
@[simp] theorem eSl_r {l h : MO} : eSl a l h ρ μ = (a ρ μ).bind fun x μ => (l ρ μ).bind fun i μ => (h ρ μ).bind fun j μ => dSl x i j μ := id rfl
@[simp] theorem oNone_r : oNone ρ μ = .ok none μ := id rfl
@[simp] theorem oSome_r : oSome a ρ μ = (a ρ μ).bind asInt := id rfl
@[simp] theorem asInt_r {k : Int} : asInt (.d (.int k)) μ = .ok (some k) μ := id rfl
@[simp] theorem bind_asInt {k : Int} : (Out.ok (Dv.d (.int k)) μ).bind asInt = .ok (some k) μ := id rfl
@[simp] theorem eIsN_r {n : Bool} : eIsN n a ρ μ = (a ρ μ).bind fun x μ => dIsN n x (.d .none) μ := id rfl
@[simp] theorem dIsN_r {n : Bool} {x : D} {y : Dv} : dIsN n (.d x) y μ = .ok (.d (.bool (if n then !isNone x else isNone x))) μ := id rfl
@[simp] theorem eLc_r {f : OpN} {mi : MI} {g : MG} {tt : MT} {vs : List Nat} : eLc f mi g tt a vs ρ μ = (mi ρ μ).bind fun bs μ => lcF f g tt a vs ρ bs μ := id rfl
@[simp] theorem iSeq_r : iSeq a ρ μ = (a ρ μ).bind walkD := id rfl
@[simp] theorem bind_walkD {x : Dv} : (Out.ok x μ).bind walkD = walkD x μ := id rfl
@[simp] theorem iRng_r {f : List Dv → Store → Out (List Dv)} {m : MA} : iRng f m ρ μ = (m ρ μ).bind f := id rfl
-- operations
@[simp] theorem dAdd_ii {x y : Int} : dAdd (.d (.int x)) (.d (.int y)) μ = .ok (.d (.int (x + y))) μ := id rfl
@[simp] theorem dSub_ii {x y : Int} : dInt2 (fun i j => .int (i - j)) (.d (.int x)) (.d (.int y)) μ = .ok (.d (.int (x - y))) μ := id rfl
@[simp] theorem dNum_ii {C : Int → Int → Bool} {g : Int → Int → Int} {x y : Int} (h : C x y = true) : dNum C g (.d (.int x)) (.d (.int y)) μ = .ok (.d (.int (g x y))) μ := by
  show (if C x y = true then _ else _) = _
  rw [if_pos h]
@[simp] theorem dMulA_ii {x y : Int} (h : cMul x y = true) : dMulA (.d (.int x)) (.d (.int y)) μ = .ok (.d (.int (x * y))) μ := by
  show (if cMul x y = true then _ else _) = _
  rw [if_pos h]
@[simp] theorem dNeg_i {x : Int} : dNeg (.d (.int x)) μ = .ok (.d (.int (-x))) μ := id rfl
@[simp] theorem dCmp_ii {g : Int → Int → Bool} {h : List Nat → List Nat → Bool} {x y : Int} : dCmp g h (.d (.int x)) (.d (.int y)) μ = .ok (.d (.bool (g x y))) μ := id rfl
@[simp] theorem dAdd_ss {l m : List Nat} (h : l.length + m.length ≤ 16000000) : dAdd (.d (.str (T l))) (.d (.str (T m))) μ = .ok (.d (.str (T (l ++ m)))) μ := by
  show (if (T l).length + (T m).length ≤ sizeLine then _ else _) = _
  rw [T_len, T_len, T_app, if_pos (Nat.le_trans h line_big)]
theorem dEq_dd {n : Bool} {x y : D} (h : (scalD x y || (SeqAt.shaped x && SeqAt.shaped y)) = true) : dEq n (.d x) (.d y) μ = .ok (.d (.bool (if n then !PyData.eqv x y else PyData.eqv x y))) μ := by
  unfold dEq
  show (match eqD x y with | some k => _ | none => _) = _
  have : eqD x y = some (PyData.eqv x y) := by
    unfold eqD
    by_cases h1 : scalD x y = true
    · rw [if_pos h1]
    · rw [if_neg h1]
      simp only [h1, Bool.false_or] at h
      rw [if_pos h]
  rw [this]
@[simp] theorem dEq_ii {n : Bool} {x y : Int} : dEq n (.d (.int x)) (.d (.int y)) μ = .ok (.d (.bool (if n then !decide (x = y) else decide (x = y)))) μ := by
  rw [dEq_dd rfl]
  have : PyData.eqv (.int x) (.int y) = decide (x = y) := by
    show (x == y) = _
    rw [Bool.eq_iff_iff]; simp
  rw [this]
@[simp] theorem dEq_ss {n : Bool} {x y : List Nat} : dEq n (.d (.str (T x))) (.d (.str (T y))) μ = .ok (.d (.bool (if n then !decide (x = y) else decide (x = y)))) μ := by
  rw [dEq_dd rfl, eqv_T]
@[simp] theorem dIn_ss {n : Bool} {x : Nat} {y : List Nat} : dIn n (.d (.str (T [x]))) (.d (.str (T y))) μ = .ok (.d (.bool (if n then !decide (x ∈ y) else decide (x ∈ y)))) μ := id rfl
@[simp] theorem items_l {ds : List D} : items (.d (.list ds)) μ = some (ds.map .d) := id rfl
@[simp] theorem itemsA_l {ds : List D} : itemsA (.d (.list ds)) μ = some (ds.map .d) := id rfl
@[simp] theorem itemsA_t {ds : List D} : itemsA (.d (.tuple ds)) μ = some (ds.map .d) := id rfl
theorem dIx_l {ds : List D} {k : Int} {x : D} (h : L2.atI ds k = some x) : dIx (.d (.list ds)) (.d (.int k)) μ = .ok (.d x) μ := by
  have : L2.atI (ds.map Dv.d) k = some (.d x) := by
    unfold L2.atI at h ⊢
    rw [List.length_map]
    cases q : ixN ds.length k with
    | none => rw [q] at h; cases h
    | some j =>
      rw [q] at h
      show (ds.map Dv.d)[j]? = _
      have h : ds[j]? = some x := h
      rw [List.getElem?_map, h]
      rfl
  show (match L2.atI (ds.map Dv.d) k with | some b => Out.ok b μ | none => Out.bad) = _
  rw [this]
theorem dIx_t {ds : List D} {k : Int} {x : D} (h : L2.atI ds k = some x) : dIx (.d (.tuple ds)) (.d (.int k)) μ = .ok (.d x) μ := dIx_l h
theorem dIx_s {l : List Nat} {k : Int} {c : Nat} (hl : l.length ≤ 16000000) (h : L2.atI l k = some c) : dIx (.d (.str (T l))) (.d (.int k)) μ = .ok (.d (.str (T [c]))) μ := by
  show (if (T l).length ≤ sizeLine then (match L2.atI (T l).cps.toList k with | some c => _ | none => _) else _) = _
  rw [T_len, if_pos (Nat.le_trans hl line_big), tl_T, h]
  rfl
theorem dIx_c {n : Nat} {xs : List Dv} {k : Int} {x : Dv} (e : μ[n]? = some (.lst xs)) (h : L2.atI xs k = some x) : dIx (.c n) (.d (.int k)) μ = .ok x μ := by
  have : itemsA (.c n) μ = some xs := by
    unfold itemsA itemsT items
    simp only [e]
  show (match itemsA (.c n) μ with | some bs => (match L2.atI bs k with | some b => Out.ok b μ | none => Out.bad) | none => Out.bad) = _
  rw [this]
  show (match L2.atI xs k with | some b => Out.ok b μ | none => Out.bad) = _
  rw [h]
theorem atI_nn {α : Type} {xs : List α} {k : Nat} {x : α} (h : xs[k]? = some x) : L2.atI xs (k : Int) = some x := by
  have hl := (List.getElem?_eq_some_iff.mp h).1
  unfold L2.atI L2.ixN
  rw [if_pos (by omega), if_pos (by omega)]
  simpa using h
theorem dSetIx_c {n : Nat} {xs : List Dv} {k : Int} {j : Nat} {x : Dv} (e : μ[n]? = some (.lst xs)) (h : L2.ixN xs.length k = some j) : dSetIx (.c n) (.d (.int k)) x μ = some (μ.set n (.lst (xs.set j x))) := by
  unfold dSetIx
  simp only [e, h]
@[simp] theorem dLen_s {l : List Nat} (h : l.length ≤ 16000000) : dLen [.d (.str (T l))] μ = .ok (.d (.int l.length)) μ := by
  show (if (T l).length ≤ sizeLine then _ else _) = _
  rw [T_len, if_pos (Nat.le_trans h line_big)]
@[simp] theorem dLen_l {ds : List D} : dLen [.d (.list ds)] μ = .ok (.d (.int ds.length)) μ := by
  show Out.ok (Dv.d (.int ((ds.map Dv.d).length : Nat))) μ = _
  rw [List.length_map]
@[simp] theorem dLen_t {ds : List D} : dLen [.d (.tuple ds)] μ = .ok (.d (.int ds.length)) μ := by
  show Out.ok (Dv.d (.int ((ds.map Dv.d).length : Nat))) μ = _
  rw [List.length_map]
@[simp] theorem allD_cons {x : D} {r : List Dv} : allD (.d x :: r) = (allD r).map (x :: ·) := by
  show (match allD r with | some xs => _ | none => _) = _
  cases allD r <;> rfl
@[simp] theorem allD_nil : allD [] = some [] := id rfl
theorem dList_d {ds : List D} (h : ds.length ≤ sizeLine) : dList (ds.map .d) μ = .ok (.d (.list ds)) μ := by
  unfold dList
  rw [allD_map]
  show (if ds.length ≤ sizeLine then _ else _) = _
  rw [if_pos h]
@[simp] theorem dTup_l {ds : List D} (h : ds.length ≤ 16000000) : dTup (ds.map .d) μ = .ok (.d (.tuple ds)) μ := by
  unfold dTup
  rw [allD_map]
  show (if ds.length ≤ sizeLine then _ else _) = _
  rw [if_pos (Nat.le_trans h line_big)]
@[simp] theorem dList_1 {a : D} : dList [.d a] μ = .ok (.d (.list [a])) μ := dList_d (ds := [a]) (Nat.le_trans (by show 1 ≤ 16000000; decide) line_big)
@[simp] theorem dList_2 {a b : D} : dList [.d a, .d b] μ = .ok (.d (.list [a, b])) μ := dList_d (ds := [a, b]) (Nat.le_trans (by show 2 ≤ 16000000; decide) line_big)
@[simp] theorem dTup_1 {a : D} : dTup [.d a] μ = .ok (.d (.tuple [a])) μ := dTup_l (ds := [a]) (by show 1 ≤ 16000000; decide)
@[simp] theorem dTup_2 {a b : D} : dTup [.d a, .d b] μ = .ok (.d (.tuple [a, b])) μ := dTup_l (ds := [a, b]) (by show 2 ≤ 16000000; decide)
@[simp] theorem dTup_3 {a b c : D} : dTup [.d a, .d b, .d c] μ = .ok (.d (.tuple [a, b, c])) μ := dTup_l (ds := [a, b, c]) (by show 3 ≤ 16000000; decide)
@[simp] theorem dTup_4 {a b c d : D} : dTup [.d a, .d b, .d c, .d d] μ = .ok (.d (.tuple [a, b, c, d])) μ := dTup_l (ds := [a, b, c, d]) (by show 4 ≤ 16000000; decide)
theorem dTup_d {ds : List D} (h : ds.length ≤ sizeLine) : dTup (ds.map .d) μ = .ok (.d (.tuple ds)) μ := by
  unfold dTup
  rw [allD_map]
  show (if ds.length ≤ sizeLine then _ else _) = _
  rw [if_pos h]
@[simp] theorem dSl_s {l : List Nat} {i j : Option Int} (h : l.length ≤ 16000000) : dSl (.d (.str (T l))) i j μ = .ok (.d (.str (T (cutL l i j)))) μ := by
  show (if (T l).length ≤ sizeLine then Out.ok (Dv.d (.str (cutS (T l) i j))) μ else _) = _
  rw [T_len, cutS_T, if_pos (Nat.le_trans h line_big)]
@[simp] theorem dSl_t {ds : List D} {i j : Option Int} : dSl (.d (.tuple ds)) i j μ = .ok (.d (.tuple (cutL ds i j))) μ := id rfl
theorem allS_T (ls : List (List Nat)) : allS ((ls.map fun l => PyData.str (T l)).map Dv.d) = some (ls.map T) := by
  have := allS_map (ls.map T)
  rw [List.map_map] at this
  rw [List.map_map]
  exact this
/-- texts joined -/
theorem dJoin_s {l : List Nat} {ls : List (List Nat)} (h : (ls.map (·.length)).sum + ls.length * l.length ≤ 16777216) : dJoin (.d (.str (T l))) [.d (.list (ls.map fun l => PyData.str (T l)))] μ = .ok (.d (.str (T (TL.joinL l ls)))) μ := by
  show (match allS ((ls.map fun l => PyData.str (T l)).map Dv.d) with | some (ys : List Str) => (if (ys.map Str.length).sum + ys.length * (T l).length ≤ 16777216 then Out.ok (Dv.d (.str (Txt.join (T l) ys))) μ else Out.bad) | none => Out.bad) = _
  rw [allS_T]
  show (if ((ls.map T).map Str.length).sum + (ls.map T).length * (T l).length ≤ 16777216 then _ else _) = _
  have e : (ls.map T).map Str.length = ls.map (·.length) := by
    rw [List.map_map]
    apply List.map_congr_left
    intro x _
    exact T_len x
  rw [e, List.length_map, T_len, if_pos h, join_T]
end
theorem ite_bind {β γ : Type} (c : Prop) [Decidable c] (a b : Out β) (k : β → Store → Out γ) : (if c then a else b).bind k = if c then a.bind k else b.bind k := by split <;> rfl

/-! ### the hand -/
/-- a cell of three numbers, in bounds; m: how many draws at most so far -/
def Hnd (h m : Nat) (μ : Store) : Prop := ∃ a b c : Int, μ[h]? = some (.lst [.d (.int a), .d (.int b), .d (.int c)]) ∧ 0 ≤ a ∧ a.natAbs < 2 ^ 700 ∧ 0 ≤ b ∧ b < 2 ^ 62 ∧ 0 ≤ c ∧ c ≤ m
theorem Hnd.mono {h m n : Nat} {μ : Store} (x : Hnd h m μ) (l : m ≤ n) : Hnd h n μ := by
  obtain ⟨a, b, c, e, h1, h2, h3, h4, h5, h6⟩ := x
  exact ⟨a, b, c, e, h1, h2, h3, h4, h5, by omega⟩
/-- nothing but the cell h is otherwise -/
def Oth (h : Nat) (μ μ' : Store) : Prop := μ'.length = μ.length ∧ ∀ i, i ≠ h → μ'[i]? = μ[i]?
theorem Oth.refl (h : Nat) (μ : Store) : Oth h μ μ := ⟨rfl, fun _ _ => rfl⟩
theorem Oth.trans {h : Nat} {a b c : Store} (x : Oth h a b) (y : Oth h b c) : Oth h a c := ⟨y.1.trans x.1, fun i hi => (y.2 i hi).trans (x.2 i hi)⟩
theorem Oth.set (h : Nat) (μ : Store) (c : Cell) : Oth h μ (μ.set h c) := ⟨List.length_set, fun i hi => List.getElem?_set_ne (Ne.symm hi)⟩
theorem lt_of_get {h : Nat} {μ : Store} {c : Cell} (e : μ[h]? = some c) : h < μ.length := (List.getElem?_eq_some_iff.mp e).1
theorem log2_lt {i : Int} {n : Nat} (h : i.natAbs < 2 ^ n) (hn : 0 < n) : i.natAbs.log2 < n := PySem.Flt.log2_lt_of hn h
theorem cMul_ok {i j : Int} {a b : Nat} (ha : i.natAbs < 2 ^ a) (hb : j.natAbs < 2 ^ b) (h0 : 0 < a) (h1 : 0 < b) (h : a + b ≤ 1000000) : cMul i j = true := by
  unfold cMul
  exact decide_eq_true (mulx_ok ha hb (by omega))
theorem cMod_of {x k : Int} (h : 0 < k) : cMod x k = true := decide_eq_true h
end DL

/-! Loops and comprehensions run: lemmas over the data forms. -/
namespace DL
open PySem PySem.Spec PyProof.Rows L2
/-- a comprehension whose turn changes nothing and gives f of its item -/
theorem lcM_map {g : MG} {te : ME} {ρ : DEnv} {μ : Store} {f : Dv → Dv} : ∀ {bs : List Dv}, (∀ b ∈ bs, ∃ ρ', g b ρ μ = .ok ρ' μ ∧ te ρ' μ = .ok (f b) μ) → lcM g tYesM te ρ bs μ = .ok (bs.map f) μ
  | [], _ => rfl
  | b :: bs, h => by
    obtain ⟨ρ', h1, h2⟩ := h b List.mem_cons_self
    have ih := lcM_map (g := g) (te := te) (ρ := ρ) (μ := μ) (f := f) (bs := bs) fun x hx => h x (List.mem_cons_of_mem _ hx)
    unfold lcM
    rw [h1]
    simp only [gb_ok, tYesM, if_true]
    rw [h2]
    simp only [gb_ok]
    rw [ih]
    rfl
/-- .. with a test -/
theorem lcM_filter {g : MG} {tt : MT} {te : ME} {ρ : DEnv} {μ : Store} {p : Dv → Bool} {f : Dv → Dv} : ∀ {bs : List Dv}, (∀ b ∈ bs, ∃ ρ', g b ρ μ = .ok ρ' μ ∧ tt ρ' μ = .ok (p b) μ ∧ (p b = true → te ρ' μ = .ok (f b) μ)) → lcM g tt te ρ bs μ = .ok ((bs.filter p).map f) μ
  | [], _ => rfl
  | b :: bs, h => by
    obtain ⟨ρ', h1, h2, h3⟩ := h b List.mem_cons_self
    have ih := lcM_filter (g := g) (tt := tt) (te := te) (ρ := ρ) (μ := μ) (p := p) (f := f) (bs := bs) fun x hx => h x (List.mem_cons_of_mem _ hx)
    unfold lcM
    rw [h1]
    simp only [gb_ok]
    rw [h2]
    simp only [gb_ok]
    by_cases hp : p b = true
    · rw [if_pos hp, h3 hp, List.filter_cons_of_pos hp]
      simp only [gb_ok]
      rw [ih]
      rfl
    · rw [if_neg hp, ih, List.filter_cons_of_neg hp]
theorem lcF_list {g : MG} {tt : MT} {te : ME} {vs : List Nat} {ρ : DEnv} {bs : List Dv} {μ μ' : Store} {ds : List D} (h : lcM g tt te (wipeD ρ vs) bs μ = .ok (ds.map .d) μ') (hb : bs.length ≤ sizeLine) (hd : ds.length ≤ sizeLine) : lcF dList g tt te vs ρ bs μ = .ok (.d (.list ds)) μ' := by
  unfold lcF
  rw [if_pos hb, h]
  exact dList_d hd
/-- a for that goes on -/
theorem forL_cons {g : MG} {mb : MS} {b : Dv} {bs : List Dv} {ρ ρ1 ρ2 : DEnv} {μ μ1 μ2 : Store} (h1 : g b ρ μ = .ok ρ1 μ1) (h2 : mb ρ1 μ1 = .ok (.nx ρ2) μ2) : forL g mb (b :: bs) ρ μ = forL g mb bs ρ2 μ2 := by
  conv => lhs; unfold forL
  rw [h1]
  simp only [gb_ok]
  rw [h2]
  rfl
theorem forL_ret {g : MG} {mb : MS} {b v : Dv} {bs : List Dv} {ρ ρ1 : DEnv} {μ μ1 μ2 : Store} (h1 : g b ρ μ = .ok ρ1 μ1) (h2 : mb ρ1 μ1 = .ok (.rt v) μ2) : forL g mb (b :: bs) ρ μ = .ok (.rt v) μ2 := by
  conv => lhs; unfold forL
  rw [h1]
  simp only [gb_ok]
  rw [h2]
  rfl
/-- a for by an invariant -/
theorem forL_inv {g : MG} {mb : MS} (Pv : Nat → DEnv → Store → Prop) : ∀ {bs : List Dv} {i : Nat} {ρ : DEnv} {μ : Store}, Pv i ρ μ → (∀ k b ρ μ, i ≤ k → bs[k - i]? = some b → Pv k ρ μ → ∃ ρ1 μ1 ρ2 μ2, g b ρ μ = .ok ρ1 μ1 ∧ mb ρ1 μ1 = .ok (.nx ρ2) μ2 ∧ Pv (k + 1) ρ2 μ2) →
    ∃ ρ' μ', forL g mb bs ρ μ = .ok (.nx ρ') μ' ∧ Pv (i + bs.length) ρ' μ'
  | [], i, ρ, μ, h0, _ => ⟨ρ, μ, rfl, h0⟩
  | b :: bs, i, ρ, μ, h0, h => by
    obtain ⟨ρ1, μ1, ρ2, μ2, h1, h2, h3⟩ := h i b ρ μ (Nat.le_refl _) (by simp) h0
    obtain ⟨ρ', μ', e, q⟩ := forL_inv Pv (bs := bs) (i := i + 1) h3 fun k c ρ μ hk hc => h k c ρ μ (by omega) (by
      have : k - i = (k - (i + 1)) + 1 := by omega
      rw [this, List.getElem?_cons_succ]
      exact hc)
    refine ⟨ρ', μ', ?_, ?_⟩
    · rw [forL_cons h1 h2, e]
    · rw [List.length_cons]
      have : i + 1 + bs.length = i + (bs.length + 1) := by omega
      rw [← this]
      exact q
theorem whileL_go {c : MT} {mb : MS} {n : Nat} {ρ ρ1 : DEnv} {μ μ1 μ2 : Store} (h1 : c ρ μ = .ok true μ1) (h2 : mb ρ μ1 = .ok (.nx ρ1) μ2) : whileL c mb (n + 1) ρ μ = whileL c mb n ρ1 μ2 := by
  conv => lhs; unfold whileL
  rw [h1]
  simp only [bind_ok, if_true]
  rw [h2]
  rfl
theorem whileL_end {c : MT} {mb : MS} {n : Nat} {ρ : DEnv} {μ μ1 : Store} (h1 : c ρ μ = .ok false μ1) : whileL c mb (n + 1) ρ μ = .ok (.nx ρ) μ1 := by
  conv => lhs; unfold whileL
  rw [h1]
  rfl

/-- signs joined -/
theorem dJoin_one {l : List Nat} {μ : Store} (h : l.length ≤ 16000000) : dJoin (.d (.str (T []))) [.d (.list (l.map fun c => PyData.str (T [c])))] μ = .ok (.d (.str (T l))) μ := by
  have e1 : ∀ l : List Nat, ((l.map fun c => [c]).map (·.length)).sum = l.length := fun l => by
    induction l with
    | nil => rfl
    | cons c l ih =>
      simp only [List.map_cons, List.sum_cons, List.length_cons, List.length_nil]
      rw [ih]
      omega
  have e2 : ∀ l : List Nat, (l.map fun c => [c]).flatten = l := fun l => by
    induction l with
    | nil => rfl
    | cons c l ih => rw [List.map_cons, List.flatten_cons, ih]; rfl
  have := dJoin_s (μ := μ) (l := []) (ls := l.map fun c => [c]) (by rw [e1]; show l.length + (l.map fun c => [c]).length * 0 ≤ _; omega)
  rw [List.map_map, joinL_nil, e2] at this
  exact this
/-! ### slices -/
theorem cut_to {α : Type} (l : List α) {k : Int} (h : 0 ≤ k) : cutL l none (some k) = l.take k.toNat := by
  have e : HT.sIx l.length l.length (some k) = min k.toNat l.length := by
    show (if k < 0 then _ else _) = _
    rw [if_neg (by omega)]
  unfold cutL
  rw [e]
  show (l.drop 0).take (min k.toNat l.length - 0) = _
  rw [List.drop_zero, Nat.sub_zero, List.take_eq_take_iff]
  omega
theorem cut_from {α : Type} (l : List α) {k : Int} (h : 0 ≤ k) : cutL l (some k) none = l.drop k.toNat := by
  have e : HT.sIx l.length 0 (some k) = min k.toNat l.length := by
    show (if k < 0 then _ else _) = _
    rw [if_neg (by omega)]
  unfold cutL
  rw [e]
  show (l.drop (min k.toNat l.length)).take (l.length - min k.toNat l.length) = _
  rw [List.take_of_length_le (by rw [List.length_drop]; omega)]
  by_cases hk : k.toNat ≤ l.length
  · rw [Nat.min_eq_left hk]
  · rw [Nat.min_eq_right (by omega), List.drop_of_length_le (Nat.le_refl _), List.drop_of_length_le (by omega)]
theorem cut_toN {α : Type} (l : List α) {k : Int} (h : k < 0) : cutL l none (some k) = l.take (l.length - (-k).toNat) := by
  have e : HT.sIx l.length l.length (some k) = (k + (l.length : Int)).toNat := by
    show (if k < 0 then _ else _) = _
    rw [if_pos h]
  unfold cutL
  rw [e]
  show (l.drop 0).take ((k + (l.length : Int)).toNat - 0) = _
  rw [List.drop_zero, Nat.sub_zero]
  congr 1
  omega
theorem cut_fromN {α : Type} (l : List α) {k : Int} (h : k < 0) : cutL l (some k) none = l.drop (l.length - (-k).toNat) := by
  have e : HT.sIx l.length 0 (some k) = (k + (l.length : Int)).toNat := by
    show (if k < 0 then _ else _) = _
    rw [if_pos h]
  unfold cutL
  rw [e]
  show (l.drop (k + (l.length : Int)).toNat).take (l.length - (k + (l.length : Int)).toNat) = _
  rw [List.take_of_length_le (by rw [List.length_drop]; omega)]
  congr 1
  omega
end DL

/-! More words for simp: walks, tests of signs, numbers in texts. -/
namespace DL
open PySem PySem.Spec PyProof.Rows L2
section
variable {μ : Store} {ρ : DEnv}
@[simp] theorem walkD_s {z : List Nat} : walkD (.d (.str (T z))) μ = .ok (z.map fun c => .d (.str (T [c]))) μ := id rfl
@[simp] theorem walkD_l {ds : List D} : walkD (.d (.list ds)) μ = .ok (ds.map .d) μ := id rfl
@[simp] theorem walkD_t {ds : List D} : walkD (.d (.tuple ds)) μ = .ok (ds.map .d) μ := id rfl
@[simp] theorem rng1_r {j : Int} (h : okR j = true) : rng1 [.d (.int j)] μ = .ok ((List.range j.toNat).map fun (i : Nat) => Dv.d (.int i)) μ := by
  show (if okR j = true then _ else _) = _
  rw [if_pos h]
@[simp] theorem dAll_b {f : List Bool → Bool} {ks : List Bool} : dAll f [.d (.list (ks.map PyData.bool))] μ = .ok (.d (.bool (f ks))) μ := by
  show (match allB ((ks.map PyData.bool).map Dv.d) with | some ks => Out.ok (Dv.d (.bool (f ks))) μ | none => Out.bad) = _
  have := allB_map ks
  rw [List.map_map]
  have e : (Dv.d ∘ PyData.bool) = fun k => Dv.d (.bool k) := rfl
  rw [e, this]
@[simp] theorem dAbs_i {i : Int} : dAbs [.d (.int i)] μ = .ok (.d (.int (if i < 0 then -i else i))) μ := id rfl
@[simp] theorem dMax_i {i j : Int} : dMax [.d (.int i), .d (.int j)] μ = .ok (.d (.int (if j > i then j else i))) μ := id rfl
@[simp] theorem dMin_i {i j : Int} : dMin [.d (.int i), .d (.int j)] μ = .ok (.d (.int (if j < i then j else i))) μ := id rfl
@[simp] theorem dInt_b {k : Bool} : dInt [.d (.bool k)] μ = .ok (.d (.int (if k then 1 else 0))) μ := id rfl
@[simp] theorem dInt_i {k : Int} : dInt [.d (.int k)] μ = .ok (.d (.int k)) μ := id rfl
def isDig (c : Nat) : Bool := decide (48 ≤ c ∧ c ≤ 57)
theorem isDig_iff {c : Nat} : isDig c = true ↔ 48 ≤ c ∧ c ≤ 57 := by simp [isDig]
theorem dig_mem (c : Nat) : (c ∈ [48, 49, 50, 51, 52, 53, 54, 55, 56, 57]) = (isDig c = true) := by
  unfold isDig
  simp only [List.mem_cons, List.not_mem_nil, or_false, decide_eq_true_eq, eq_iff_iff]
  omega
def dval (l : List Nat) : Nat := NumText.digitsVal l
theorem dval_app (l m : List Nat) (k : Nat) : dval (l ++ m) = m.foldl (fun acc c => acc * 10 + (c - 48)) (dval l) := by
  unfold dval NumText.digitsVal
  rw [List.foldl_append]
theorem all_dig {l : List Nat} (h : l.all isDig = true) : NumText.AllDigits l := fun c hc => by
  have := List.all_eq_true.mp h c hc
  exact isDig_iff.mp this
theorem dInt_s {l : List Nat} (h : l.all isDig = true) (h0 : l ≠ []) (h1 : l.length ≤ 640) : dInt [.d (.str (T l))] μ = .ok (.d (.int (dval l))) μ := by
  have e := intText_digits (x := T l) (by rw [tl_T]; exact all_dig h) (by rw [tl_T]; exact h0) (by rw [T_len]; omega)
  rw [tl_T] at e
  show (match PySem.intText? (T l) with | some n => if (T l).length ≤ 640 then Out.ok (Dv.d (.int n)) μ else .bad | none => .bad) = _
  rw [e, T_len]
  show (if l.length ≤ 640 then _ else _) = _
  rw [if_pos h1]
  rfl
def showI (i : Int) : List Nat := if i < 0 then 45 :: TL.numL i.natAbs else TL.numL i.natAbs
theorem dStr_n {n : Nat} (h : n.log2 < 1920) : dStr [.d (.int (n : Int))] μ = .ok (.d (.str (T (TL.numL n)))) μ := by
  show (if (n : Int).natAbs.log2 < 1920 then Out.ok (Dv.d (.str (toString (n : Int)))) μ else Out.bad) = _
  rw [if_pos (by simpa using h)]
  have : (toString (n : Int) : String) = toString (n : Int) := rfl
  have e := TL.tl_num n
  have : Str.ofString (toString (n : Int)) = T (TL.numL n) := TL.ext_tl (by rw [e]; rfl)
  exact congrArg (fun x => Out.ok (Dv.d (.str x)) μ) this
theorem toString_neg (n : Nat) (h : 0 < n) : toString (-(n : Int)) = "-" ++ toString (n : Int) := by
  obtain ⟨m, rfl⟩ : ∃ m, n = m + 1 := ⟨n - 1, by omega⟩
  rfl
theorem dStr_m {n : Nat} (h0 : 0 < n) (h : n.log2 < 1920) : dStr [.d (.int (-(n : Int)))] μ = .ok (.d (.str (T (45 :: TL.numL n)))) μ := by
  show (if (-(n : Int)).natAbs.log2 < 1920 then Out.ok (Dv.d (.str (toString (-(n : Int))))) μ else Out.bad) = _
  rw [if_pos (by simpa using h), toString_neg n h0]
  have e := TL.tl_num n
  have : Str.ofString ("-" ++ toString (n : Int)) = T (45 :: TL.numL n) := TL.ext_tl (by
    rw [TL.tl_ofString, String.toList_append, List.map_append]
    have e2 := TL.tl_ofString (toString (n : Int))
    rw [e] at e2
    rw [← e2]
    rfl)
  exact congrArg (fun x => Out.ok (Dv.d (.str x)) μ) this
@[simp] theorem dIn_t2 {n : Bool} {x a b : List Nat} : dIn n (.d (.str (T x))) (.d (.tuple [.str (T a), .str (T b)])) μ = .ok (.d (.bool (if n then !(decide (a = x) || decide (b = x)) else (decide (a = x) || decide (b = x))))) μ := by
  show (match allFlat ([PyData.str (T a), PyData.str (T b)].map Dv.d) with
      | some (ds : List D) => (if flatD (.str (T x)) = true then Out.ok (Dv.d (PyData.bool (if n then !(ds.any fun y => PyData.eqv y (.str (T x))) else ds.any fun y => PyData.eqv y (.str (T x))))) μ else Out.bad)
      | none => .bad) = _
  rw [allFlat_map (by intro d hd; simp at hd; rcases hd with rfl | rfl <;> rfl)]
  show Out.ok (Dv.d (PyData.bool (if n then !([PyData.str (T a), PyData.str (T b)].any fun y => PyData.eqv y (.str (T x))) else [PyData.str (T a), PyData.str (T b)].any fun y => PyData.eqv y (.str (T x))))) μ = _
  simp [eqv_T]
theorem ljustF_T (l : List Nat) (n c : Nat) : Txt.ljustF (T l) (n : Int) c = T (l ++ List.replicate (n - l.length) c) := by
  unfold Txt.ljustF
  rw [T_len]
  split
  · rename_i h
    have : n - l.length = 0 := by omega
    rw [this]
    show T l = T (l ++ [])
    rw [List.append_nil]
  · apply TL.ext_tl
    show (Array.replicate 0 c ++ (T l).cps ++ Array.replicate ((n : Int).toNat - l.length) c).toList = (T _).cps.toList
    rw [tl_T, Array.toList_append, Array.toList_append, tl_T, Array.toList_replicate, Array.toList_replicate]
    rfl
theorem rjustF_T (l : List Nat) (n c : Nat) : Txt.rjustF (T l) (n : Int) c = T (List.replicate (n - l.length) c ++ l) := by
  unfold Txt.rjustF
  rw [T_len]
  split
  · rename_i h
    have : n - l.length = 0 := by omega
    rw [this]
    rfl
  · apply TL.ext_tl
    show (Array.replicate ((n : Int).toNat - l.length) c ++ (T l).cps ++ Array.replicate 0 c).toList = (T _).cps.toList
    rw [tl_T, Array.toList_append, Array.toList_append, tl_T, Array.toList_replicate, Array.toList_replicate]
    simp
theorem padOk {k : Nat} (h : k ≤ 16000000) : PadOk (k : Int) = true := by
  have hb := line_big
  unfold PadOk fitsSsize Builtin.Str.tooLong
  simp
  omega
theorem dLjust {l : List Nat} {k c : Nat} (h : k ≤ 16000000) : dPadF Txt.ljustF (.d (.str (T l))) [.d (.int k), .d (.str (T [c]))] μ = .ok (.d (.str (T (l ++ List.replicate (k - l.length) c)))) μ := by
  show (if PadOk (k : Int) = true ∧ (T [c]).length = 1 then Out.ok (Dv.d (.str (Txt.ljustF (T l) k c))) μ else Out.bad) = _
  rw [if_pos ⟨padOk h, rfl⟩, ljustF_T]
theorem dRjust {l : List Nat} {k c : Nat} (h : k ≤ 16000000) : dPadF Txt.rjustF (.d (.str (T l))) [.d (.int k), .d (.str (T [c]))] μ = .ok (.d (.str (T (List.replicate (k - l.length) c ++ l)))) μ := by
  show (if PadOk (k : Int) = true ∧ (T [c]).length = 1 then Out.ok (Dv.d (.str (Txt.rjustF (T l) k c))) μ else Out.bad) = _
  rw [if_pos ⟨padOk h, rfl⟩, rjustF_T]
theorem tw_self {s : Nat} : ∀ {l : List Nat}, s ∉ l → l.takeWhile (· != s) = l
  | [], _ => rfl
  | c :: l, h => by
    have h1 : (c != s) = true := by simp; exact fun q => h (q ▸ List.mem_cons_self)
    rw [List.takeWhile_cons, h1, if_pos rfl, tw_self fun q => h (List.mem_cons_of_mem _ q)]
theorem dw_nil {s : Nat} : ∀ {l : List Nat}, s ∉ l → l.dropWhile (· != s) = []
  | [], _ => rfl
  | c :: l, h => by
    have h1 : (c != s) = true := by simp; exact fun q => h (q ▸ List.mem_cons_self)
    rw [List.dropWhile_cons, h1, if_pos rfl, dw_nil fun q => h (List.mem_cons_of_mem _ q)]
theorem dPart_one {l : List Nat} {s : Nat} (h : l.length ≤ 16000000) : dPartition (.d (.str (T l))) [.d (.str (T [s]))] μ = .ok (.d (.tuple [.str (T (l.takeWhile (· != s))), .str (T (if s ∈ l then [s] else [])), .str (T ((l.dropWhile (· != s)).drop 1))])) μ := by
  show (if ((T [s]).length == 0) = false ∧ (T l).length ≤ sizeLine then Out.ok (Dv.d (PyData.tuple [.str (Txt.partition (T l) (T [s])).1, .str (Txt.partition (T l) (T [s])).2.1, .str (Txt.partition (T l) (T [s])).2.2])) μ else Out.bad) = _
  have hb := line_big
  rw [if_pos ⟨rfl, by rw [T_len]; omega⟩, part_T, par_one]
  by_cases q : s ∈ l
  · rw [if_pos q, if_pos q]
    rfl
  · rw [if_neg q, if_neg q]
    have e1 := tw_self q
    have e2 := dw_nil q
    rw [e1, e2]
    rfl
def zs (n : Nat) : List Nat := List.replicate n 48
theorem dAdd_ll {xs ys : List D} (h : xs.length + ys.length ≤ 16000000) : dAdd (.d (.list xs)) (.d (.list ys)) μ = .ok (.d (.list (xs ++ ys))) μ := by
  show dList (xs.map Dv.d ++ ys.map Dv.d) μ = _
  rw [← List.map_append]
  exact dList_d (by rw [List.length_append]; exact Nat.le_trans h line_big)
theorem dSplit_one {l : List Nat} {s : Nat} (hs : s < 256) (h : l.length ≤ 15000000) : dSplit (.d (.str (T l))) [.d (.str (T [s]))] μ = .ok (.d (.list ((splitL s [] l).map fun p => .str (T p)))) μ := by
  have hb := line_big
  show (if ((T [s]).length == 0) = false ∧ (T l).length + 2 ≤ sizeLine then Out.ok (Dv.d (.list ((Txt.split (T l) (T [s])).map .str))) μ else Out.bad) = _
  rw [if_pos ⟨rfl, by rw [T_len]; omega⟩, split_T _ _ hs, spl_one, List.map_map]
  rfl
theorem splitL_no {s : Nat} : ∀ {l acc : List Nat}, s ∉ l → splitL s acc l = [acc ++ l]
  | [], acc, _ => by rw [List.append_nil]; rfl
  | c :: l, acc, h => by
    have h1 : ¬ c = s := fun q => h (q ▸ List.mem_cons_self)
    rw [splitL, if_neg h1, splitL_no fun q => h (List.mem_cons_of_mem _ q)]
    simp
theorem splitL_app {s : Nat} : ∀ {a acc r : List Nat}, s ∉ a → splitL s acc (a ++ s :: r) = (acc ++ a) :: splitL s [] r
  | [], acc, r, _ => by
    rw [List.nil_append, splitL, if_pos rfl, List.append_nil]
  | c :: a, acc, r, h => by
    have h1 : ¬ c = s := fun q => h (q ▸ List.mem_cons_self)
    rw [List.cons_append, splitL, if_neg h1, splitL_app fun q => h (List.mem_cons_of_mem _ q)]
    simp
theorem splitL_ne {s : Nat} : ∀ {l acc : List Nat}, splitL s acc l ≠ []
  | [], acc => by unfold splitL; simp
  | c :: l, acc => by
    unfold splitL
    split
    · simp
    · exact splitL_ne
theorem cut_at {s : Nat} : ∀ {l : List Nat}, s ∈ l → ∃ a r, l = a ++ s :: r ∧ s ∉ a
  | c :: l, h => by
    by_cases hc : c = s
    · exact ⟨[], l, by rw [hc]; rfl, by simp⟩
    · obtain ⟨a, r, e, n⟩ := cut_at (l := l) (by
        rcases List.mem_cons.mp h with h | h
        · exact absurd h.symm hc
        · exact h)
      exact ⟨c :: a, r, by rw [e]; rfl, by simp; exact ⟨fun q => hc q.symm, n⟩⟩
theorem tw_app {s : Nat} : ∀ {a r : List Nat}, s ∉ a → (a ++ s :: r).takeWhile (· != s) = a
  | [], r, _ => by simp
  | c :: a, r, h => by
    have h1 : (c != s) = true := by simp; exact fun q => h (q ▸ List.mem_cons_self)
    rw [List.cons_append, List.takeWhile_cons, h1, if_pos rfl, tw_app fun q => h (List.mem_cons_of_mem _ q)]
theorem dw_app {s : Nat} : ∀ {a r : List Nat}, s ∉ a → ((a ++ s :: r).dropWhile (· != s)).drop 1 = r
  | [], r, _ => by simp
  | c :: a, r, h => by
    have h1 : (c != s) = true := by simp; exact fun q => h (q ▸ List.mem_cons_self)
    rw [List.cons_append, List.dropWhile_cons, h1, if_pos rfl, dw_app fun q => h (List.mem_cons_of_mem _ q)]
/-- a comprehension over the signs of a text -/
theorem lcF_signs {i : Nat} {te : ME} {vs : List Nat} {l : List Nat} {f : Nat → D} (hl : l.length ≤ 16000000) (h : ∀ c ∈ l, te ((wipeD ρ vs).set i (some (.d (.str (T [c]))))) μ = .ok (.d (f c)) μ) :
    lcF dList (gN i) tYesM te vs ρ (l.map fun c => .d (.str (T [c]))) μ = .ok (.d (.list (l.map f))) μ := by
  have hb := line_big
  refine lcF_list ?_ (by rw [List.length_map]; omega) (by rw [List.length_map]; omega)
  have := lcM_map (g := gN i) (te := te) (ρ := wipeD ρ vs) (μ := μ) (f := fun b => match b with | .d (.str z) => .d (f (z.cps.toList.headD 0)) | b => b) (bs := l.map fun c => .d (.str (T [c]))) (by
    intro b hb
    obtain ⟨c, hc, rfl⟩ := List.mem_map.mp hb
    exact ⟨_, rfl, h c hc⟩)
  rw [this, List.map_map, List.map_map]
  rfl
end
end DL

/-! repr of small data, a sign times a number. -/
namespace DL
open PySem PySem.Spec PyProof.Rows L2
section
variable {μ : Store} {ρ : DEnv}
theorem str_len_app (x y : Str) : (x ++ y).length = x.length + y.length := by
  rw [← T_tl x, ← T_tl y, T_app, T_len, T_len, T_len, List.length_append]
theorem dMulA_s1 {z : List Nat} (h : z.length ≤ 1000) : dMulA (.d (.str (T z))) (.d (.int 1)) μ = .ok (.d (.str (T z))) μ := by
  have hb := line_big
  show (if (decide (-(2 ^ 31) ≤ (1 : Int)) && decide ((1 : Int) < 2 ^ 31) && decide ((T z).length * (1 : Int).toNat ≤ sizeLine) && decide ((1 : Int) < 1 ∨ ((T z).length : Int) ≤ (2 ^ 63 - 1) / 1)) = true then Out.ok (Dv.d (.str (Txt.mul (T z) 1))) μ else .bad) = _
  rw [if_pos (by
    rw [T_len]
    simp only [Bool.and_eq_true, decide_eq_true_eq]
    refine ⟨⟨⟨by decide, by decide⟩, ?_⟩, .inr ?_⟩
    · show z.length * 1 ≤ _; omega
    · omega)]
  rfl
theorem dMulA_s0 {z : List Nat} : dMulA (.d (.str (T z))) (.d (.int 0)) μ = .ok (.d (.str (T []))) μ := by
  show (if (decide (-(2 ^ 31) ≤ (0 : Int)) && decide ((0 : Int) < 2 ^ 31) && decide ((T z).length * (0 : Int).toNat ≤ sizeLine) && decide ((0 : Int) < 1 ∨ ((T z).length : Int) ≤ (2 ^ 63 - 1) / 0)) = true then Out.ok (Dv.d (.str (Txt.mul (T z) 0))) μ else .bad) = _
  rw [if_pos (by
    simp only [Bool.and_eq_true, decide_eq_true_eq]
    refine ⟨⟨⟨by decide, by decide⟩, ?_⟩, .inl (by decide)⟩
    show (T z).length * 0 ≤ _; omega)]
  rfl
/-- none or a number of at most 40 figures -/
def smallD : D → Bool
  | .none => true
  | .int i => decide (i.natAbs < 10 ^ 40)
  | _ => false
theorem small_len {x : D} (h : smallD x = true) : x.shown.length ≤ 41 := by
  cases x with
  | none => show Str.length "None" ≤ 41; decide +kernel
  | int i =>
    have h : i.natAbs < 10 ^ 40 := of_decide_eq_true h
    show Str.length (Str.ofString (toString i)) ≤ 41
    rcases Int.le_total 0 i with hi | hi
    · obtain ⟨n, rfl⟩ := Int.eq_ofNat_of_zero_le hi
      have e : Str.ofString (toString (n : Int)) = T (TL.numL n) := TL.ext_tl (by rw [TL.tl_num n]; rfl)
      rw [e, T_len]
      exact Nat.le_trans (TL.numL_len (by decide) (k := 40) (by simpa using h)) (by decide)
    · obtain ⟨n, hn⟩ := Int.eq_ofNat_of_zero_le (a := -i) (by omega)
      have : i = -(n : Int) := by omega
      subst this
      by_cases h0 : 0 < n
      · rw [toString_neg n h0]
        have e : Str.ofString ("-" ++ toString (n : Int)) = T (45 :: TL.numL n) := TL.ext_tl (by
          rw [TL.tl_ofString, String.toList_append, List.map_append]
          have e2 := TL.tl_ofString (toString (n : Int))
          rw [TL.tl_num n] at e2
          rw [← e2]
          rfl)
        rw [e, T_len, List.length_cons]
        have := TL.numL_len (n := n) (by decide) (k := 40) (by simpa using h)
        omega
      · have : n = 0 := by omega
        subst this
        decide +kernel
  | bool b => cases h
  | str z => cases h
  | list ds => cases h
  | tuple ds => cases h
  | dict ds => cases h
theorem small_show {x : D} (h : smallD x = true) : x.showable = true ∧ nodict x = true ∧ x.hasDict = false ∧ x.depth = 0 := by
  cases x with
  | none => exact ⟨rfl, rfl, rfl, rfl⟩
  | int i =>
    refine ⟨?_, rfl, rfl, rfl⟩
    have h : i.natAbs < 10 ^ 40 := of_decide_eq_true h
    show decide (i.natAbs.log2 < 1920) = true
    have h2 : i.natAbs < 2 ^ 200 := Nat.lt_trans h (by decide)
    have := log2_lt (i := i) (n := 200) h2 (by decide)
    exact decide_eq_true (by omega)
  | bool b => cases h
  | str z => cases h
  | list ds => cases h
  | tuple ds => cases h
  | dict ds => cases h
theorem dRepr_1 {x : D} (h : smallD x = true) : dRepr [.d x] μ = .ok (.d (.str x.shown)) μ := by
  have hb := line_big
  have h1 := small_len h
  obtain ⟨a, b, c, d⟩ := small_show h
  show (if (x.showable && nodict x && !x.hasDict && decide (x.depth ≤ 40) && decide (x.shown.length ≤ sizeLine)) = true then Out.ok (Dv.d (.str x.shown)) μ else .bad) = _
  rw [if_pos (by rw [a, b, c, d]; simp; omega)]
theorem dRepr_2 {x : D} (h : smallD x = true) : dRepr [.d (.list [x, x])] μ = .ok (.d (.str (PyData.list [x, x]).shown)) μ := by
  have hb := line_big
  have h1 := small_len h
  obtain ⟨a, b, c, d⟩ := small_show h
  have hl : (PyData.list [x, x]).shown.length ≤ 1000 := by
    show Str.length (listText [x.shown, x.shown]) ≤ 1000
    unfold listText
    simp only [textFrom, str_len_app]
    have e1 : Str.length ("[" : Str) = 1 := by decide +kernel
    have e2 : Str.length ("]" : Str) = 1 := by decide +kernel
    have e3 : Str.length (", " : Str) = 2 := by decide +kernel
    have e4 : Str.length ("" : Str) = 0 := by decide +kernel
    simp [e1, e2, e3, e4]
    omega
  show (if ((x.showable && (x.showable && true)) && nodict (.list [x, x]) && !(x.hasDict || (x.hasDict || false)) && decide (max x.depth (max x.depth 0) + 1 ≤ 40) && decide ((PyData.list [x, x]).shown.length ≤ sizeLine)) = true then Out.ok (Dv.d (.str (PyData.list [x, x]).shown)) μ else .bad) = _
  have hn : nodict (.list [x, x]) = true := by simp [nodict, nodicts, b]
  rw [if_pos (by rw [a, c, d, hn]; simp; omega)]
end
end DL

/-! zip of lists, tuples, texts in any mix. -/
namespace DL
open PySem PySem.Spec PyProof.Rows L2

inductive Sc where
  | li (a : Addr) | tu (a : Addr) | tx (z : Str)
def Sc.v : Sc → V
  | .li a => .ref a
  | .tu a => .ref a
  | .tx z => .str z
def Sc.at (K : PySem.W.Frag) (H : Hp) : Sc → List V → Prop
  | .li a, xs => SqL K H a xs
  | .tu a, xs => SqT K H a xs
  | .tx z, xs => xs = z.cps.toList.map fun c => V.str ⟨#[c]⟩
def Sc.st (it : Addr) (i : Nat) (h : Heap) : Sc → Prop
  | .li a => h.IsListIter it a i
  | .tu a => h.IsTupleIter it a i
  | .tx z => ∃ t, h.IsStrIter it (strIterType z) z t i
def Sc.fp (it : Addr) : Sc → List Addr
  | .li a => [it, a]
  | .tu a => [it, a]
  | .tx _ => [it]
def Sc.apart (it : Addr) : Sc → Prop
  | .li a => a ≠ it
  | .tu a => a ≠ it
  | .tx _ => True
section
variable {X : Cx} {pins : List (Addr × Obj)} {σ : L2.St} {H : Hp} {s : Shared}
theorem Sc.draws (I : Inv X pins σ H s) (hh : X.A.handled = none) {it : Addr} {i : Nat} : ∀ {c : Sc} {xs : List V}, c.at X.K H xs → c.apart it → c.st it i s.heap →
    ∃ (P : Nat → Value → Prop) (St : Nat → Heap → Prop), Draws X.prog X.w X.A.in1 it (c.fp it) xs.length P St ∧ (∀ j h', St j h' → c.st it j h') ∧ St i s.heap ∧ ∀ j v, P j v → ∃ x, xs[j]? = some x ∧ RelV x v
  | .li a, xs, h, hn, st => by
    obtain ⟨its, rv, pl, _⟩ := I.list h
    have D := Draws.list (prog := X.prog) (w := X.w) (A := X.A.in1) hh it a hn its.toArray
    have hl : its.toArray.size = xs.length := by rw [List.size_toArray]; exact rv.length.symm
    rw [hl] at D
    refine ⟨_, _, D, fun j h' q => q.1, ⟨st, pl.isList⟩, fun j v q => ?_⟩
    have q : its[j]? = some v := by simpa using q
    have hj : j < xs.length := by rw [← hl, List.size_toArray]; exact (List.getElem?_eq_some_iff.mp q).1
    obtain ⟨u, h1, h2⟩ := rv.get (show xs[j]? = some xs[j] by simp [hj])
    rw [q] at h1
    cases h1
    exact ⟨_, by simp [hj], h2⟩
  | .tu a, xs, h, hn, st => by
    obtain ⟨its, rv, pl, _⟩ := I.tuple h
    have D := Draws.tuple (prog := X.prog) (w := X.w) (A := X.A.in1) hh it a hn its.toArray
    have hl : its.toArray.size = xs.length := by rw [List.size_toArray]; exact rv.length.symm
    rw [hl] at D
    refine ⟨_, _, D, fun j h' q => q.1, ⟨st, pl⟩, fun j v q => ?_⟩
    have q : its[j]? = some v := by simpa using q
    have hj : j < xs.length := by rw [← hl, List.size_toArray]; exact (List.getElem?_eq_some_iff.mp q).1
    obtain ⟨u, h1, h2⟩ := rv.get (show xs[j]? = some xs[j] by simp [hj])
    rw [q] at h1
    cases h1
    exact ⟨_, by simp [hj], h2⟩
  | .tx z, xs, h, hn, st => by
    obtain ⟨t, st⟩ := st
    have D := Draws.text (prog := X.prog) (w := X.w) (A := X.A.in1) hh it z t
    have h : xs = z.cps.toList.map fun c => V.str ⟨#[c]⟩ := h
    subst h
    have hl : z.cps.size = (z.cps.toList.map fun c => V.str ⟨#[c]⟩).length := by simp
    rw [hl] at D
    refine ⟨_, _, D, fun j h' q => ⟨t, q⟩, st, fun j v q => ?_⟩
    obtain ⟨c, u, q, rfl⟩ := q
    refine ⟨.str ⟨#[c]⟩, ?_, ⟨u, rfl⟩⟩
    rw [List.getElem?_map, Array.getElem?_toList, q]
    rfl
end
def ItzX (K : PySem.W.Frag) (c1 c2 : Sc) (xs ys : List V) : It :=
  ⟨fun i H => c1.at K H xs ∧ c2.at K H ys ∧ i < xs.length ∧ i < ys.length,
    fun i H v H' => ∃ T x y, v = .ref T ∧ H T = none ∧ H' = upd H T (.tup [x, y]) ∧ xs[i]? = some x ∧ ys[i]? = some y,
    fun i H => c1.at K H xs ∧ c2.at K H ys ∧ min xs.length ys.length ≤ i⟩
theorem Sc.keep {it : Addr} {i : Nat} {h h' : Heap} : ∀ {c : Sc}, c.st it i h → (∀ o, h.get? it = some o → h'.get? it = some o) → c.st it i h'
  | .li a, st, k => st.at fun o e => k o e
  | .tu a, st, k => st.at fun o e => k o e
  | .tx z, ⟨t, o, e, r⟩, k => ⟨t, o, k o e, r⟩
theorem Sc.objs {it : Addr} {i : Nat} {h : Heap} : ∀ {c : Sc}, c.st it i h → ∃ o, h.get? it = some o ∧ ∀ v, o.data ≠ .cell v
  | .li a, ⟨o, e, _, d⟩ => ⟨o, e, fun v q => by rw [d] at q; cases q⟩
  | .tu a, ⟨o, e, _, d⟩ => ⟨o, e, fun v q => by rw [d] at q; cases q⟩
  | .tx z, ⟨t, o, e, _, d⟩ => ⟨o, e, fun v q => by rw [d] at q; cases q⟩
theorem turn_zipX {P : Program} {w : World} {K : PySem.W.Frag} {elts : List Expr} {kk : Nat} {tpos : Pos} {z TI TO i1 i2 : Addr} {c1 c2 : Sc} {xs ys : List V} (S : ZipSep2 z TI TO i1 i2 (c1.fp i1) (c2.fp i2)) (h12 : i1 ≠ i2) (n1 : c1.apart i1) (n2 : c2.apart i2) :
    Turn P w K (.Tuple elts kk tpos) (ItzX K c1 c2 xs ys) [z, TI, TO, i1, i2] z (fun i h => (IsZip h z TI TO .none ∧ IsTupOf2 h TI (.ref i1) (.ref i2) ∧ (∃ x y, IsTupOf2 h TO x y) ∧ c1.st i1 i h ∧ c2.st i2 i h) ∧ i ≤ min xs.length ys.length) where
  mem := by simp
  obj := fun i h st c hc => by
    obtain ⟨⟨hz, hTI, ⟨x, y, hTO⟩, s1, s2⟩, _⟩ := st
    have e' : c = z ∨ c = TI ∨ c = TO ∨ c = i1 ∨ c = i2 := by simpa using hc
    rcases e' with q | q | q | q | q
    · rw [q]; exact ⟨_, hz, fun v q => nomatch q⟩
    · rw [q]; exact ⟨_, hTI, fun v q => nomatch q⟩
    · rw [q]; exact ⟨_, hTO, fun v q => nomatch q⟩
    · rw [q]; exact Sc.objs s1
    · rw [q]; exact Sc.objs s2
  keep := fun i h h' st k => by
    obtain ⟨⟨hz, hTI, ⟨x, y, hTO⟩, s1, s2⟩, hi⟩ := st
    exact ⟨⟨k z (by simp) _ hz, k TI (by simp) _ hTI, ⟨x, y, k TO (by simp) _ hTO⟩, Sc.keep s1 fun o q => k i1 (by simp) o q, Sc.keep s2 fun o q => k i2 (by simp) o q⟩, hi⟩
  item := by
    intro X hP hw hK hc i pins s σ H E I hf st hg
    subst hP hw hK
    obtain ⟨⟨hz, hTI, ⟨x0, y0, hTO⟩, s1, s2⟩, _⟩ := st
    obtain ⟨a1, a2, l1, l2⟩ := hg
    obtain ⟨P1, St1, D1, k1, t1, r1⟩ := Sc.draws I (I.ok.hd hc) a1 n1 s1
    obtain ⟨P2, St2, D2, k2, t2, r2⟩ := Sc.draws I (I.ok.hd hc) a2 n2 s2
    have hzl : z < s.heap.objs.size := Heap.lt_size hz
    have hTIl : TI < s.heap.objs.size := Heap.lt_size hTI
    have hTOl : TO < s.heap.objs.size := Heap.lt_size hTO
    have hi1l : i1 < s.heap.objs.size := by obtain ⟨_, e, _⟩ := Sc.objs s1; exact Heap.lt_size e
    have hi2l : i2 < s.heap.objs.size := by obtain ⟨_, e, _⟩ := Sc.objs s2; exact Heap.lt_size e
    refine wpAny_pyNext_zipD2_item S D1 D2 hz hTI hTO t1 t2 l1 l2 fun u u2 h' tk p1 p2 z' TO' s1' s2' hT hsz hk => ?_
    obtain ⟨x, hx, ru⟩ := r1 _ _ p1
    obtain ⟨y, hy, ru2⟩ := r2 _ _ p2
    refine ⟨_, rfl, wpAny_letOwnedTupleGo_zip (s := { s with heap := h', toks := tk }) z' fun h'' z'' sb => ?_⟩
    have hT2 : h''.get? s.heap.objs.size = some { cls := .type "tuple", data := .seq #[u, u2] } := (sb.2 _ (Nat.ne_of_gt hzl)).trans hT
    have new : ObjOk X.prog X.w (upd H s.heap.objs.size (.tup [x, y])) h'' s.heap.objs.size (.tup [x, y]) :=
      ⟨by show 2 ≤ sizeLine; decide, [u, u2], .cons ru (.cons ru2 .nil), ⟨_, hT2, rfl, _, rfl⟩⟩
    have I1 : Inv X pins σ (upd H s.heap.objs.size (.tup [x, y])) { s with heap := h'', toks := tk } :=
      I.turnedNew (t' := tk) (ch := [z, TI, TO, i1, i2]) (fun c o hb q => (sb.2 c (fun q' => hb (by simp [q']))).trans (hk c o (fun q' => hb (by simp [q'])) (fun q' => hb (by simp [q'])) (fun q' => hb (by simp [q'])) (fun q' => hb (by simp [q'])) q)) hf (Nat.le_refl _) new
    refine ⟨.ref s.heap.objs.size, _, I1, rfl, ⟨_, x, y, rfl, I.hok.fresh (Nat.le_refl _), rfl, hx, hy⟩, ⟨⟨z'', ?_, ⟨u, u2, ?_⟩, ?_, ?_⟩, by omega⟩, fun c hcm => ?_⟩
    · exact (sb.2 _ S.TIz).trans (hk _ _ S.TIz S.TITO S.TIi1 S.TIi2 hTI)
    · exact (sb.2 _ S.TOz).trans TO'
    · exact Sc.keep (k1 _ _ s1') fun o q => (sb.2 _ S.zi1.symm).trans q
    · exact Sc.keep (k2 _ _ s2') fun o q => (sb.2 _ S.zi2.symm).trans q
    · have hlt : c < s.heap.objs.size := by
        have e' : c = z ∨ c = TI ∨ c = TO ∨ c = i1 ∨ c = i2 := by simpa using hcm
        rcases e' with q | q | q | q | q <;> rw [q] <;> assumption
      rw [upd_ne (Nat.ne_of_lt hlt)]
      exact (hf c hcm).1
  done := by
    intro X hP hw hK hc i pins s σ H E I hf st hg
    subst hP hw hK
    obtain ⟨⟨hz, hTI, ⟨x0, y0, hTO⟩, s1, s2⟩, hi⟩ := st
    obtain ⟨a1, a2, hend⟩ := hg
    obtain ⟨P1, St1, D1, k1, t1, r1⟩ := Sc.draws I (I.ok.hd hc) a1 n1 s1
    obtain ⟨P2, St2, D2, k2, t2, r2⟩ := Sc.draws I (I.ok.hd hc) a2 n2 s2
    exact wpAny_pyNext_zipD2_end S D1 D2 hz hTI hTO t1 t2 (by omega) (by omega) (by omega) fun h' tk hk => ⟨rfl, I.turnedL (t' := tk) (ch := [z, TI, TO, i1, i2]) (fun c o hb q =>
      hk c o (fun q' => hb (by simp [q'])) (fun q' => hb (by simp [q'])) (fun q' => hb (by simp [q'])) (fun q' => hb (by simp [q'])) q) hf⟩
  self := fun A i s Q E st h => wpAny_pyIter_zip st.1.1 h
/-! ### the walk of zip(a, b) -/
theorem Sc.begins {X : Cx} {pins : List (Addr × Obj)} {σ : L2.St} {H : Hp} {s : Shared} (I : Inv X pins σ H s) : ∀ {c : Sc} {xs : List V} {u : Value}, c.at X.K H xs → RelV c.v u → ∃ (o : Obj) (H1 : Heap → Prop), Begins u o H1 ∧ H1 s.heap ∧ (∀ h it, h.get? it = some o → c.st it 0 h) ∧ ∀ b ∈ c.fp s.heap.objs.size, b < s.heap.objs.size ∨ b = s.heap.objs.size
  | .li a, xs, u, h, r => by
    cases r
    obtain ⟨its, rv, pl, _⟩ := I.list h
    refine ⟨_, _, begins_list a its.toArray, pl.isList, fun h it e => ⟨_, e, rfl, rfl⟩, fun b hb => ?_⟩
    have hb : b = s.heap.objs.size ∨ b = a := by simpa [Sc.fp] using hb
    rcases hb with hb | hb
    · exact .inr hb
    · exact .inl (by rw [hb]; exact pl.lt)
  | .tu a, xs, u, h, r => by
    cases r
    obtain ⟨its, rv, pl, _⟩ := I.tuple h
    refine ⟨_, _, begins_tuple a its.toArray, pl, fun h it e => ⟨_, e, rfl, rfl⟩, fun b hb => ?_⟩
    have hb : b = s.heap.objs.size ∨ b = a := by simpa [Sc.fp] using hb
    rcases hb with hb | hb
    · exact .inr hb
    · obtain ⟨o, e, _⟩ := pl
      exact .inl (by rw [hb]; exact Heap.lt_size e)
  | .tx z, xs, u, h, r => by
    obtain ⟨t, rfl⟩ := r
    refine ⟨_, _, begins_text z t, trivial, fun h it e => ⟨t, _, e, rfl, rfl⟩, fun b hb => ?_⟩
    have hb : b = s.heap.objs.size := by simpa [Sc.fp] using hb
    exact .inr hb
def Sc.src : Sc → Option Addr
  | .li a => some a
  | .tu a => some a
  | .tx _ => none
theorem Sc.fp_mem {c : Sc} {it b : Addr} (h : b ∈ c.fp it) : b = it ∨ c.src = some b := by
  cases c with
  | li a =>
    have hb : b = it ∨ b = a := by simpa [Sc.fp] using h
    rcases hb with h | h
    · exact .inl h
    · exact .inr (by rw [h]; rfl)
  | tu a =>
    have hb : b = it ∨ b = a := by simpa [Sc.fp] using h
    rcases hb with h | h
    · exact .inl h
    · exact .inr (by rw [h]; rfl)
  | tx z => exact .inl (by simpa [Sc.fp] using h)
theorem Sc.mem_fp {c : Sc} {it : Addr} : it ∈ c.fp it := by cases c <;> simp [Sc.fp]
theorem Sc.apart_of {c : Sc} {it : Addr} (h : ∀ a, c.src = some a → a ≠ it) : c.apart it := by
  cases c with
  | li a => exact h a rfl
  | tu a => exact h a rfl
  | tx z => trivial
theorem Sc.src_lt {X : Cx} {pins : List (Addr × Obj)} {σ : L2.St} {H : Hp} {s : Shared} (I : Inv X pins σ H s) : ∀ {c : Sc} {xs : List V} {a : Addr}, c.at X.K H xs → c.src = some a → a < s.heap.objs.size
  | .li a, xs, b, h, e => by
    cases e
    obtain ⟨its, rv, pl, _⟩ := I.list h
    exact pl.lt
  | .tu a, xs, b, h, e => by
    cases e
    obtain ⟨its, rv, ⟨o, e, _⟩, _⟩ := I.tuple h
    exact Heap.lt_size e
  | .tx z, xs, b, h, e => by cases e
def iZipX (K : PySem.W.Frag) (ta : TA) : TI := fun σ H R => ta σ H fun vs H1 => ∃ c1 c2 xs ys, vs = [Sc.v c1, Sc.v c2] ∧ c1.at K H1 xs ∧ c2.at K H1 ys ∧ R (ItzX K c1 c2 xs ys) H1
theorem pi_zipX {X : Cx} {e e2 : Expr} {ta : TA} {p pos tpos : Pos} {elts : List Expr} {kk : Nat} (hg : Gl X "zip") (hm : X.mg "zip" = none) (ha : PA X [e, e2] ta)
    (hs : starEach [e, e2] X.env = (false, eval e X.env) :: starEach [e2] X.env := by rfl) (hpl : (backTo pos (starEach [e2] X.env)).any (·.1) = false := by rfl) :
    PI X (.Tuple elts kk tpos) (.Call (.Name "zip" p) [e, e2] [] pos) (iZipX X.K ta) := by
  refine ⟨fun pins s σ H R I h => ?_⟩
  refine Call_ (ld_blt I hg hm PyProof.Rows.boot_zip (PyProof.Rows.callWith_type1 (thn (ha.run pos pins s σ H _ I h) fun us s1 ⟨vs, H1, I1, r1, q1⟩ => ?_) hs hpl))
  obtain ⟨c1, c2, xs, ys, ex, a1, a2, q⟩ := q1
  subst ex
  cases r1 with
  | cons r rr =>
    cases rr with
    | cons r' rr =>
      cases rr
      obtain ⟨o1, H1', B1, b1, k1, _⟩ := Sc.begins I1 a1 r
      obtain ⟨o2, H2', B2, b2, k2, _⟩ := Sc.begins I1 a2 r'
      have fresh5 : ∀ c, c ∈ [s1.heap.objs.size + 4, s1.heap.objs.size + 2, s1.heap.objs.size + 3, s1.heap.objs.size, s1.heap.objs.size + 1] → FpOk X pins H1 c := fun c hcm => by
        have e' : c = s1.heap.objs.size + 4 ∨ c = s1.heap.objs.size + 2 ∨ c = s1.heap.objs.size + 3 ∨ c = s1.heap.objs.size ∨ c = s1.heap.objs.size + 1 := by simpa using hcm
        have hle : s1.heap.objs.size ≤ c := by
          rcases e' with z | z | z | z | z
          · rw [z]; exact Nat.le_add_right _ _
          · rw [z]; exact Nat.le_add_right _ _
          · rw [z]; exact Nat.le_add_right _ _
          · rw [z]; exact Nat.le_refl _
          · rw [z]; exact Nat.le_add_right _ _
        exact I1.fpOk hle (I1.hok.fresh hle)
      have lt1 : ∀ a, c1.src = some a → a < s1.heap.objs.size := fun a e => Sc.src_lt I1 a1 e
      have lt2 : ∀ a, c2.src = some a → a < s1.heap.objs.size := fun a e => Sc.src_lt I1 a2 e
      refine zip_begins2 B1 B2 b1 b2 fun h' hz hTI hTO h1 h2 hsz hk => wpAny_pyIter_zip hz ?_
      have I2 : Inv X pins σ H1 { s1 with heap := h' } := I1.kept (t' := s1.toks) hk
      have g1 : ∀ b, s1.heap.objs.size < b → b ∉ c1.fp s1.heap.objs.size := fun b hb hm => by
        rcases Sc.fp_mem hm with e | e
        · exact absurd e (Nat.ne_of_gt hb)
        · exact absurd (lt1 b e) (Nat.not_lt_of_gt hb)
      have g2 : ∀ b, s1.heap.objs.size ≤ b → b ≠ s1.heap.objs.size + 1 → b ∉ c2.fp (s1.heap.objs.size + 1) := fun b hb hne hm => by
        rcases Sc.fp_mem hm with e | e
        · exact absurd e hne
        · exact absurd (lt2 b e) (Nat.not_lt_of_ge hb)
      have S : ZipSep2 (s1.heap.objs.size + 4) (s1.heap.objs.size + 2) (s1.heap.objs.size + 3) s1.heap.objs.size (s1.heap.objs.size + 1) (c1.fp s1.heap.objs.size) (c2.fp (s1.heap.objs.size + 1)) := by
        generalize s1.heap.objs.size = n at *
        exact ⟨by simp, by simp, by simp, by simp, Sc.mem_fp, g1 _ (by omega), g1 _ (by omega), by simp, Sc.mem_fp, g2 _ (by omega) (by simp), g2 _ (by omega) (by simp), g2 _ (Nat.le_refl _) (by simp), g1 _ (by omega)⟩
      exact ⟨s1.heap.objs.size + 4, [s1.heap.objs.size + 4, s1.heap.objs.size + 2, s1.heap.objs.size + 3, s1.heap.objs.size, s1.heap.objs.size + 1], _, _, H1, rfl, I2,
        turn_zipX S (by simp) (Sc.apart_of fun a e => Nat.ne_of_lt (lt1 a e)) (Sc.apart_of fun a e => Nat.ne_of_lt (Nat.lt_succ_of_lt (lt2 a e))), ⟨⟨hz, hTI, ⟨_, _, hTO⟩, k1 _ _ h1, k2 _ _ h2⟩, Nat.zero_le _⟩, fresh5, q⟩

/-! ### zip as data -/
def srcD : Dv → Option (List D)
  | .d (.list ds) => some ds
  | .d (.tuple ds) => some ds
  | .d (.str z) => some (z.cps.toList.map fun c => .str ⟨#[c]⟩)
  | _ => none
def zipD : List Dv → Store → Out (List Dv)
  | [x, y], μ => match srcD x, srcD y with
    | some ds, some es => .ok ((ds.zip es).map fun p => .d (.tuple [p.1, p.2])) μ
    | _, _ => .bad
  | _, _ => .bad
section
variable {G : GT} {w : Wd}
theorem RpA_signs {K : PySem.W.Frag} {I : Hp} : ∀ l : List Nat, RpA K I (l.map fun c => V.str ⟨#[c]⟩) (l.map fun c => PyData.str ⟨#[c]⟩)
  | [] => .nil
  | c :: l => .cons (.str _) (RpA_signs l)
theorem src_ok {v : V} {b : Dv} {ds : List D} (r : Rv G w v b) (h : srcD b = some ds) : ∃ c xs, v = Sc.v c ∧ c.at G.K w.I xs ∧ RpA G.K w.I xs ds := by
  unfold srcD at h
  split at h
  · cases h
    obtain ⟨a, xs, rfl, h1, h2⟩ := rv_lst r
    exact ⟨.li a, xs, rfl, h1, h2⟩
  · cases h
    obtain ⟨a, xs, rfl, h1, h2⟩ := rv_tup r
    exact ⟨.tu a, xs, rfl, h1, h2⟩
  · rename_i z
    cases h
    rw [rv_str r]
    exact ⟨.tx z, _, rfl, rfl, RpA_signs _⟩
  · cases h
theorem Sc.mono {K : PySem.W.Frag} {H H' : Hp} (e : Same H H') : ∀ {c : Sc} {xs : List V}, c.at K H xs → c.at K H' xs
  | .li a, _, h => seqL e h
  | .tu a, _, h => seqT e h
  | .tx z, _, h => h
theorem it_zip {c1 c2 : Sc} {xs ys : List V} {ds es : List D} (h1 : c1.at G.K w.I xs) (h2 : c2.at G.K w.I ys) (r1 : RpA G.K w.I xs ds) (r2 : RpA G.K w.I ys es) :
    ItR G w (ItzX G.K c1 c2 xs ys) ((ds.zip es).map fun p => .d (.tuple [p.1, p.2])) where
  go := fun i w' μ H hi l lay => by
    rw [List.length_map, List.length_zip] at hi
    have a := r1.length
    have b := r2.length
    exact ⟨Sc.mono (Same.trans l.1 lay.same) h1, Sc.mono (Same.trans l.1 lay.same) h2, by omega, by omega⟩
  yld := fun i b w' μ H x H' e l lay y => by
    obtain ⟨T, u, v, rfl, hT, rfl, hx, hy⟩ := y
    obtain ⟨d, hd, rd⟩ := r1.get hx
    obtain ⟨f, hf, rf⟩ := r2.get hy
    rw [List.getElem?_map] at e
    have ez : (ds.zip es)[i]? = some (d, f) := by rw [List.getElem?_zip_eq_some]; exact ⟨hd, hf⟩
    rw [ez] at e
    cases e
    obtain ⟨le, l2⟩ := lay.new hT (.tup [u, v])
    refine ⟨_, le, l2, ?_⟩
    exact .tup (SqT.of upd_same) (RpA.mono (Same.trans l.1 le.1) _ _ (.cons rd (.cons rf .nil)))
  stop := fun i w' μ H hi l lay => by
    rw [List.length_map, List.length_zip] at hi
    have a := r1.length
    have b := r2.length
    exact ⟨Sc.mono (Same.trans l.1 lay.same) h1, Sc.mono (Same.trans l.1 lay.same) h2, by omega⟩
end
theorem di_zip {X : Cx} {G : GT} {W : WX} {mas : MA} {a b : Expr} {p pos tpos : Pos} {elts : List Expr} {kk : Nat} (hK : X.K = G.K) (hg : Gl X "zip") (hm : X.mg "zip" = none) (ha : DA X G W [a, b] mas)
    (hs : starEach [a, b] X.env = (false, eval a X.env) :: starEach [b] X.env := by rfl) (hpl : (backTo pos (starEach [b] X.env)).any (·.1) = false := by rfl) :
    DI X G W (.Tuple elts kk tpos) (.Call (.Name "zip" p) [a, b] [] pos) (iRng zipD mas) := by
  refine PI.imp (pi_zipX hg hm ha hs hpl) ?_
  rintro σ H Q ⟨w, μ, ρ, hl, he, pp⟩
  refine tD.seq (k := fun ρ xs μ => zipD xs μ) hl he pp fun w1 μ1 H1 v bs l1 lay1 en1 r1 p1 => ?_
  unfold zipD at p1
  split at p1
  · split at p1
    · rename_i e1 e2
      cases r1 with
      | cons r t =>
        cases t with
        | cons r' t =>
          cases t
          obtain ⟨c1, xs, rfl, h1, q1⟩ := src_ok r e1
          obtain ⟨c2, ys, rfl, h2, q2⟩ := src_ok r' e2
          refine ⟨c1, c2, xs, ys, rfl, ?_, ?_, ?_⟩
          · rw [hK]; exact Sc.mono lay1.same h1
          · rw [hK]; exact Sc.mono lay1.same h2
          · rw [hK]; exact p1 w1 _ H1 w1.le_refl lay1 (it_zip h1 h2 q1 q2)
    · exact p1.elim
  · exact p1.elim
end DL

/-! dicts that stay as they were made: displays, d[k]. -/
namespace DL
open PySem PySem.Spec PyProof.Rows L2

def keyOf : D → Option Key
  | .int i => some (.inl i)
  | .str z => some (.inr z)
  | _ => none
theorem keyOf_eq {d : D} {k : Key} (h : keyOf d = some k) : d = kD k := by
  cases d <;> first | (cases h; rfl) | cases h
theorem keyOf_kD (k : Key) : keyOf (kD k) = some k := by cases k <;> rfl
theorem rp_key {K : PySem.W.Frag} {I : Hp} {v : V} {k : Key} (r : Rp K I v (kD k)) : v = kV k := by
  cases k with
  | inl i => cases r; rfl
  | inr z => cases r; rfl
abbrev ML := List (ME × ME)
def prsM : ML → DEnv → Store → Out (List (Dv × Dv))
  | [], _, μ => .ok [] μ
  | (a, b) :: r, ρ, μ => (a ρ μ).bind fun x μ => (b ρ μ).bind fun y μ => (prsM r ρ μ).bind fun ps μ => .ok ((x, y) :: ps) μ
/-- the pairs as keys and data -/
def allP : List (Dv × Dv) → Option (List (Key × D))
  | [] => some []
  | (.d k, .d x) :: r => match keyOf k, allP r with
    | some k, some ps => some ((k, x) :: ps)
    | _, _ => none
  | _ :: _ => none
def dicOf (ps : List (Key × D)) : D := .dict (ps.map fun p => (kD p.1, p.2))
def dDicF (ps : List (Dv × Dv)) (μ : Store) : Out Dv := match allP ps with
  | some kvs => if (kvs.map Prod.fst).Nodup ∧ kvs.length ≤ 15 then .ok (.d (dicOf kvs)) μ else .bad
  | none => .bad
def eDic (l : ML) : ME := fun ρ μ => (prsM l ρ μ).bind dDicF
abbrev Rpp (G : GT) (w : Wd) : List (V × V) → List (Dv × Dv) → Prop := Paired fun p q => Rv G w p.1 q.1 ∧ Rv G w p.2 q.2
theorem Rpp.mono {G : GT} {w w' : Wd} (l : w.le w') {a : List (V × V)} {b : List (Dv × Dv)} (r : Rpp G w a b) : Rpp G w' a b := Paired.imp (fun _ _ z => ⟨z.1.mono l, z.2.mono l⟩) r
theorem Lay.stayO {G : GT} {w : Wd} {μ : Store} {H : Hp} {a : Addr} {o : HO} (l : Lay G w μ H) (h1 : w.I a = none) (h2 : a ∉ w.α) (h3 : w.F a = none) (e : H a = some o) : w.le (w.put a o) ∧ Lay G (w.put a o) μ H := by
  refine ⟨⟨same_upd h1, List.prefix_refl _, Same.refl _⟩, fun b u q => ?_, l.len, l.nd, l.lv, l.fr, l.fd, fun b u q => ?_, fun n c b q1 q2 => ?_⟩
  · by_cases z : b = a
    · subst z; have q : upd w.I b o b = some u := q; rw [upd_same] at q; rw [← q]; exact e
    · have q : upd w.I a o b = some u := q; rw [upd_ne z] at q; exact l.same b u q
  · have : b ≠ a := fun z => by rw [z, h3] at q; cases q
    show upd w.I a _ b = none
    rw [upd_ne this]; exact l.di b u q
  · have ap : b ≠ a := ne_get q2 h2
    exact CellAt.cong (w' := w.put a o) (fun z => by show upd w.I a _ b = none; rw [upd_ne ap]; exact z) ⟨same_upd h1, List.prefix_refl _⟩ rfl (l.at_ n c b q1 q2)
section
variable {G : GT} {W : WX}
theorem prs_imp : ∀ (l : ML) σ H Q, tD G W (Rpp G) (prsM l) σ H Q → tPairs (l.map fun p => (tE G W p.1, tE G W p.2)) σ H Q
  | [], σ, H, Q, ⟨w, μ, ρ, hl, he, p⟩ => p w [] H w.le_refl hl .nil
  | (a, b) :: r, σ, H, Q, ⟨w, μ, ρ, hl, he, p⟩ => by
    refine tD.seq (k := fun ρ x μ => (b ρ μ).bind fun y μ => (prsM r ρ μ).bind fun ps μ => .ok ((x, y) :: ps) μ) hl he p fun w1 μ1 H1 v x l1 lay1 en1 r1 p1 => ?_
    refine tD.seq (k := fun ρ y μ => (prsM r ρ μ).bind fun ps μ => .ok ((x, y) :: ps) μ) lay1 en1 p1 fun w2 μ2 H2 u y l2 lay2 en2 r2 p2 => ?_
    refine prs_imp r σ H2 _ (tD.seq (k := fun ρ ps μ => .ok ((x, y) :: ps) μ) lay2 en2 p2 fun w3 μ3 H3 vs ps l3 lay3 en3 r3 p3 => ?_)
    exact p3 w3 _ H3 w3.le_refl lay3 (.cons ⟨r1.mono (l2.trans l3), r2.mono l3⟩ r3)
theorem allP_ok {w : Wd} : ∀ {bs : List (Dv × Dv)} {kvs : List (Key × D)} {vs : List (V × V)}, allP bs = some kvs → Rpp G w vs bs → ∃ xs : List V, vs = (((kvs.map Prod.fst).zip xs).map fun kv => (kV kv.1, kv.2)) ∧ xs.length = kvs.length ∧ RpA G.K w.I xs (kvs.map Prod.snd)
  | [], _, _, h, r => by cases h; cases r; exact ⟨[], rfl, rfl, .nil⟩
  | (.d k, .d x) :: bs, kvs, _, h, r => by
    unfold allP at h
    cases hk : keyOf k with
    | none => rw [hk] at h; cases h
    | some k' =>
      cases hr : allP bs with
      | none => rw [hk, hr] at h; cases h
      | some ps =>
        rw [hk, hr] at h
        cases h
        cases r with
        | @cons v _ vs _ a t =>
          obtain ⟨xs, e, hl, ra⟩ := allP_ok hr t
          obtain ⟨v1, v2⟩ := v
          have a1 : Rp G.K w.I v1 k := a.1
          rw [keyOf_eq hk] at a1
          have := rp_key a1
          subst this
          refine ⟨v2 :: xs, by rw [e]; rfl, by simp [hl], .cons a.2 ra⟩
  | (.c _, _) :: _, _, _, h, _ => by cases h
  | (.f _, _) :: _, _, _, h, _ => by cases h
  | (.d _, .c _) :: _, _, _, h, _ => by cases h
  | (.d _, .f _) :: _, _, _, h, _ => by cases h
theorem mergeK_new : ∀ (more kvs : List (Key × V)), ((kvs ++ more).map Prod.fst).Nodup → mergeK kvs more = kvs ++ more
  | [], kvs, _ => by rw [List.append_nil]; rfl
  | p :: r, kvs, h => by
    have hn : (kvs.any fun kv => decide (kv.1 = p.1)) = false := by
      rw [List.any_eq_false]
      intro q hq
      simp only [decide_eq_true_eq]
      intro e
      rw [List.map_append, List.nodup_append] at h
      exact h.2.2 _ (List.mem_map_of_mem hq) _ (by rw [List.map_cons]; exact List.mem_cons_self) e
    have : putK kvs p.1 p.2 = kvs ++ [p] := by
      unfold putK
      rw [if_neg (by rw [hn]; simp)]
    show mergeK (putK kvs p.1 p.2) r = _
    rw [this, mergeK_new r (kvs ++ [p]) (by rw [List.append_assoc]; exact h), List.append_assoc]
    rfl
theorem RpK_of {K : PySem.W.Frag} {I : Hp} : ∀ {kvs : List (Key × D)} {xs : List V}, RpA K I xs (kvs.map Prod.snd) → RpK K I ((kvs.map Prod.fst).zip xs) (kvs.map fun p => (kD p.1, p.2))
  | [], _, h => by cases h; exact .nil
  | p :: kvs, _, h => by
    cases h with
    | cons a t => exact .cons a (RpK_of t)
theorem dic_imp {l : ML} : ∀ σ H Q, tE G W (eDic l) σ H Q → tDisp (l.map fun p => (tE G W p.1, tE G W p.2)) σ H Q := by
  rintro σ H Q ⟨w, μ, ρ, hl, he, p⟩
  intro a na
  obtain ⟨n1, n2, n3⟩ := hl.na na
  have lay0 := hl.other n1 n2 n3 (.dK [])
  obtain ⟨lp, layp⟩ := lay0.priv n1 n2 n3 upd_same
  refine prs_imp l σ _ _ ⟨w.priv a (.dK []), μ, ρ, layp, he.mono lp, ?_⟩
  unfold eDic at p
  cases e : prsM l ρ μ with
  | bad => rw [e] at p; exact p.elim
  | ex x μ1 => rw [e] at p; exact fun w' c d H' l' lay' r' => p w' c d H' (lp.trans l') lay' r'
  | ok ps μ1 =>
    rw [e] at p
    intro w1 vs H1 l1 lay1 r1
    have p : Pst G W σ (Rv G) w (dDicF ps μ1) Q := p
    unfold dDicF at p
    cases ea : allP ps with
    | none => rw [ea] at p; exact p.elim
    | some kvs =>
      rw [ea] at p
      have p : Pst G W σ (Rv G) w (if (kvs.map Prod.fst).Nodup ∧ kvs.length ≤ 15 then .ok (.d (dicOf kvs)) μ1 else .bad) Q := p
      by_cases hz : (kvs.map Prod.fst).Nodup ∧ kvs.length ≤ 15
      · rw [if_pos hz] at p
        obtain ⟨xs, ev, hlx, ra⟩ := allP_ok ea r1
        have hm : mergeK [] ((kvs.map Prod.fst).zip xs) = (kvs.map Prod.fst).zip xs := by
          refine mergeK_new _ [] ?_
          rw [List.nil_append, List.map_fst_zip (by rw [List.length_map]; omega)]
          exact hz.1
        obtain ⟨le2, lay2, e2, i2, a2⟩ := lay1.unp l1 n3 (.dK (mergeK [] ((kvs.map Prod.fst).zip xs)))
        obtain ⟨le3, lay3⟩ := lay2.stayO i2 a2 (if_pos rfl) upd_same
        refine ⟨e2, (kvs.map Prod.fst).zip xs, ev, by rw [List.length_zip, List.length_map]; omega, ?_⟩
        refine p _ (.ref a) _ (le2.trans le3) lay3 ?_
        refine .dic (kvs := (kvs.map Prod.fst).zip xs) ?_ (RpK.mono le3.1 _ _ (RpK_of ra))
        rw [hm]
        exact upd_same
      · rw [if_neg hz] at p; exact p.elim
end
/-- the written dict's parts -/
abbrev DPs (X : Cx) (G : GT) (W : WX) (pos : Pos) (ks : List (Option Expr)) (vs : List Expr) (l : ML) : Prop := PPs X pos ks vs (l.map fun p => (tE G W p.1, tE G W p.2))
section
variable {X : Cx} {G : GT} {W : WX} {pos : Pos}
theorem dp_nil : DPs X G W pos [] [] [] := pps_nil
theorem dp_cons {k v : Expr} {ks : List (Option Expr)} {vs : List Expr} {mk mv : ME} {l : ML} (hk : DE X G W k mk) (hv : DE X G W v mv) (hr : DPs X G W pos ks vs l) : DPs X G W pos (some k :: ks) (v :: vs) ((mk, mv) :: l) := pps_cons hk hv hr
theorem de_dic {ks : List (Option Expr)} {vs : List Expr} {l : ML} (h : DPs X G W pos ks vs l) (hall : ks.all (·.isSome) = true := by rfl) (hl : ks.length = vs.length := by rfl) (h0 : ks ≠ [] := by intro z; cases z) (h15 : ks.length ≤ 15 := by decide) : DE X G W (.Dict ks vs pos) (eDic l) := PE.imp (pe_disp h hall hl h0 h15) dic_imp
end
/-! ### d[k] -/
def findD : List (D × D) → Key → Option D
  | [], _ => none
  | (a, v) :: r, k => if keyOf a = some k then some v else findD r k
def dDGet : Op2 := fun x y μ => match x, y with
  | .d (.dict ps), .d k => match keyOf k with
    | some k => match findD ps k with
      | some v => .ok (.d v) μ
      | none => .bad
    | none => .bad
  | _, _ => .bad
theorem findD_ok {K : PySem.W.Frag} {I : Hp} {k : Key} {d : D} : ∀ {ps : List (D × D)} {kvs : List (Key × V)}, RpK K I kvs ps → findD ps k = some d → ∃ v, valV kvs k = some v ∧ Rp K I v d
  | [], _, r, h => by cases h
  | (a, e) :: ps, _, r, h => by
    cases r with
    | @cons k' v kvs _ _ a1 t =>
      unfold findD at h
      rw [keyOf_kD] at h
      by_cases hk : k' = k
      · rw [if_pos (by rw [hk])] at h
        cases h
        exact ⟨v, valV_pos hk, a1⟩
      · rw [if_neg (by intro q; cases q; exact hk rfl)] at h
        obtain ⟨u, h1, h2⟩ := findD_ok t h
        exact ⟨u, by rw [valV_neg hk]; exact h1, h2⟩
theorem de_dget {X : Cx} {G : GT} {W : WX} {o i : Expr} {mo mi : ME} {pos : Pos} (hu : X.A.units + 64 < cLine) (ho : DE X G W o mo) (hi : DE X G W i mi) (hs : NoSl i := by exact NoSl.mk) : DE X G W (.Subscript o i pos) (e2 dDGet mo mi) := by
  refine PE.imp (pe_dget (by omega) ho hi hs) ?_
  rintro σ H Q ⟨w, μ, ρ, hl, he, p⟩
  refine tD.seq (k := fun ρ x μ => (mi ρ μ).bind fun y μ => dDGet x y μ) hl he p fun w1 μ1 H1 v b l1 lay1 en1 r1 p1 => ?_
  refine tD.seq (k := fun ρ y μ => dDGet b y μ) lay1 en1 p1 fun w2 μ2 H2 u c l2 lay2 en2 r2 p2 => ?_
  unfold dDGet at p2
  split at p2
  · rename_i ps k
    split at p2
    · rename_i k' hk
      split at p2
      · rename_i d hd
        have r1 : Rp G.K w1.I v (.dict ps) := r1
        have r2 : Rp G.K w2.I u k := r2
        rw [keyOf_eq hk] at r2
        rw [rp_key r2]
        cases r1 with
        | @dic a kvs _ e1 rk =>
          obtain ⟨x, h1, h2⟩ := findD_ok (RpK.mono l2.1 _ _ rk) hd
          refine ⟨a, x, rfl, ?_, p2 w2 _ H2 w2.le_refl lay2 h2⟩
          rw [← h1]
          exact DGet.k (lay2.same _ _ (l2.1 _ _ e1))
      · exact p2.elim
    · exact p2.elim
  · exact p2.elim
end DL

/-! dict comprehensions -/
namespace DL
open PySem PySem.Spec PyProof.Rows L2
def dcM (g : MG) (tt : MT) (tk tv : ME) (ρ : DEnv) : List (Key × D) → List Dv → Store → Out (List (Key × D))
  | acc, [], μ => .ok acc μ
  | acc, b :: bs, μ => (g b ρ μ).gb fun ρ' μ => (tt ρ' μ).gb fun k μ => if k = true then (tk ρ' μ).gb fun x μ => (tv ρ' μ).gb fun y μ => match x, y with
      | .d xk, .d y => match keyOf xk with
        | some k => if (acc.any fun p => decide (p.1 = k)) = true then .bad else dcM g tt tk tv ρ (acc ++ [(k, y)]) bs μ
        | none => .bad
      | _, _ => .bad
    else dcM g tt tk tv ρ acc bs μ
def eDc (mi : MI) (g : MG) (tt : MT) (tk tv : ME) (vs : List Nat) : ME := fun ρ μ => (mi ρ μ).bind fun bs μ => if bs.length ≤ sizeLine then (dcM g tt tk tv (wipeD ρ vs) [] bs μ).gb fun kvs μ => .ok (.d (dicOf kvs)) μ else .bad
def zK (acc : List (Key × D)) (us : List V) : List (Key × V) := (acc.map Prod.fst).zip us
theorem putK_zK {acc : List (Key × D)} {us : List V} {k : Key} {d : D} {v : V} (hl : us.length = acc.length) (hn : k ∉ acc.map Prod.fst) : putK (zK acc us) k v = zK (acc ++ [(k, d)]) (us ++ [v]) := by
  have hn' : ((zK acc us).any fun kv => decide (kv.1 = k)) = false := by
    rw [List.any_eq_false]
    intro q hq
    simp only [decide_eq_true_eq]
    intro e
    have := (List.of_mem_zip (a := q.1) (b := q.2) hq).1
    rw [e] at this
    exact hn this
  unfold putK
  rw [if_neg (by rw [hn']; simp)]
  unfold zK
  rw [List.map_append, List.zip_append (by rw [List.length_map]; exact hl.symm)]
  rfl
theorem RpA_snoc {K : PySem.W.Frag} {I : Hp} {v : V} {d : D} : ∀ {us : List V} {ds : List D}, RpA K I us ds → Rp K I v d → RpA K I (us ++ [v]) (ds ++ [d])
  | _, _, .nil, r => .cons r .nil
  | _, _, .cons a t, r => .cons a (RpA_snoc t r)
section
variable {X : Cx} {G : GT} {W : WX} {mi : MI} {g : MG} {tt : MT} {tk tv : ME} {S vs : List Nat}
theorem dc_imp (hS : ∀ i ∈ S, i ∈ vs) : ∀ σ H Q, tE G W (eDc mi g tt tk tv vs) σ H Q → tDc (tI G W mi) (tG G S g) (tT G W0 tt) (tE G W0 tk) (tE G W0 tv) vs σ H Q := by
  rintro σ H Q ⟨w, μ, ρ, hl, he, p⟩
  refine tD.seq (k := fun ρ bs μ => if bs.length ≤ sizeLine then (dcM g tt tk tv (wipeD ρ vs) [] bs μ).gb fun kvs μ => Out.ok (Dv.d (dicOf kvs)) μ else .bad) hl he p fun w1 μ1 H1 J bs l1 lay1 en1 it p1 => ?_
  intro a na
  by_cases hz : bs.length ≤ sizeLine
  case neg => rw [if_neg hz] at p1; exact p1.elim
  rw [if_pos hz] at p1
  obtain ⟨n1, n2, n3⟩ := lay1.na na
  refine ⟨fun i m H => m = bs.length - i ∧ i ≤ bs.length ∧ ∃ w2 μ2 us acc, w1.le w2 ∧ Lay G w2 μ2 H ∧ H a = some (.dK (zK acc us)) ∧ w2.I a = none ∧ a ∉ w2.α ∧ w2.F a = none ∧ us.length = acc.length ∧ RpA G.K w2.I us (acc.map Prod.snd) ∧ acc.length ≤ i ∧
    Pst G W σ (Rv G) w2 ((dcM g tt tk tv (wipeD ρ vs) acc (bs.drop i) μ2).gb fun kvs μ => Out.ok (Dv.d (dicOf kvs)) μ) Q, ⟨bs.length, by simp, Nat.zero_le _, w1, μ1, [], [], w1.le_refl, lay1.other n1 n2 n3 _, upd_same, n1, n2, n3, rfl, .nil, Nat.le_refl _, p1⟩, ?_⟩
  rintro i m H2 ⟨rfl, hi, w2, μ2, us, acc, l2, lay2, e2, i2, a2, f2, hu, r2, hacc, p2⟩
  by_cases hlt : i < bs.length
  · refine .inr ⟨it.go i w2 μ2 H2 hlt l2 lay2, fun H => ∃ w2 μ2 us acc, w1.le w2 ∧ Lay G w2 μ2 H ∧ H a = some (.dK (zK acc us)) ∧ w2.I a = none ∧ a ∉ w2.α ∧ w2.F a = none ∧ us.length = acc.length ∧ RpA G.K w2.I us (acc.map Prod.snd) ∧ acc.length ≤ i + 1 ∧
      Pst G W σ (Rv G) w2 ((dcM g tt tk tv (wipeD ρ vs) acc (bs.drop (i + 1)) μ2).gb fun kvs μ => Out.ok (Dv.d (dicOf kvs)) μ) Q, fun H' q => ⟨bs.length - (i + 1), by omega, rfl, hlt, q⟩, fun x H' y => ?_⟩
    have eb : bs[i]? = some bs[i] := by simp [hlt]
    obtain ⟨lp, layp⟩ := lay2.priv i2 a2 f2 e2
    obtain ⟨w3, l3, lay3, r3⟩ := it.yld i _ _ μ2 H2 x H' eb (l2.trans lp) layp y
    have en3 : EnvR G w3 (wipe σ vs) (wipeD ρ vs) := (en1.wipe vs).mono ((l2.trans lp).trans l3)
    refine ⟨w3, μ2, wipeD ρ vs, bs[i], lay3, en3, r3, ?_⟩
    rw [List.drop_eq_getElem_cons hlt] at p2
    unfold dcM at p2
    cases q : g bs[i] (wipeD ρ vs) μ2 with
    | bad => rw [q] at p2; exact p2.elim
    | ex _ _ => rw [q] at p2; exact p2.elim
    | ok ρ4 μ4 =>
      rw [q] at p2
      intro w4 σ4 H4 l4 lay4 en4 ag
      refine ⟨wipe_agr ag hS, w4, μ4, ρ4, lay4, en4, ?_⟩
      cases q5 : tt ρ4 μ4 with
      | bad => simp only [gb_ok, q5] at p2; exact p2.elim
      | ex _ _ => simp only [gb_ok, q5] at p2; exact p2.elim
      | ok k μ5 =>
        simp only [gb_ok, q5] at p2
        intro w5 v5 H5 l5 lay5 r5
        have r5 : v5 = k := r5
        subst r5
        have lw5 : (w2.priv a (.dK (zK acc us))).le w5 := (l3.trans l4).trans l5
        cases v5 with
        | false =>
          simp only [Bool.false_eq_true, if_false] at p2
          obtain ⟨le6, lay6, e6, i6, a6⟩ := lay5.unp lw5 f2 (.dK (zK acc us))
          have hH : upd H5 a (.dK (zK acc us)) = H5 := by
            funext b
            by_cases z : b = a
            · subst z; rw [upd_same, e6]
            · rw [upd_ne z]
          rw [hH] at lay6
          exact ⟨w5.unp a, μ5, us, acc, l2.trans le6, lay6, e6, i6, a6, if_pos rfl, hu, RpA.mono le6.1 _ _ r2, by omega, Pst.mono le6 p2⟩
        | true =>
          simp only [if_true] at p2
          refine ⟨w5, μ5, ρ4, lay5, en4.mono l5, ?_⟩
          cases q6 : tk ρ4 μ5 with
          | bad => rw [q6] at p2; exact p2.elim
          | ex _ _ => rw [q6] at p2; exact p2.elim
          | ok y μ6 =>
            rw [q6] at p2
            intro w6 v6 H6 l6 lay6 r6
            refine ⟨w6, μ6, ρ4, lay6, (en4.mono l5).mono l6, ?_⟩
            cases q7 : tv ρ4 μ6 with
            | bad => simp only [gb_ok, q7] at p2; exact p2.elim
            | ex _ _ => simp only [gb_ok, q7] at p2; exact p2.elim
            | ok y2 μ7 =>
              simp only [gb_ok, q7] at p2
              intro w7 v7 H7 l7 lay7 r7
              split at p2
              · rename_i xk y3
                cases hk : keyOf xk with
                | none => simp only [hk] at p2; exact p2.elim
                | some kk =>
                  simp only [hk] at p2
                  by_cases hn' : (acc.any fun p => decide (p.1 = kk)) = true
                  · rw [if_pos hn'] at p2; exact p2.elim
                  · rw [if_neg hn'] at p2
                    have hn : kk ∉ acc.map Prod.fst := fun hm => hn' (by
                      obtain ⟨q, hq, e⟩ := List.mem_map.mp hm
                      exact List.any_eq_true.mpr ⟨q, hq, decide_eq_true e⟩)
                    have r6 : Rp G.K w6.I v6 xk := r6
                    rw [keyOf_eq hk] at r6
                    obtain ⟨le8, lay8, e8, i8, a8⟩ := lay7.unp ((lw5.trans l6).trans l7) f2 (.dK (zK (acc ++ [(kk, y3)]) (us ++ [v7])))
                    refine ⟨zK acc us, kk, rp_key r6, e8, ?_, w7.unp a, μ7, us ++ [v7], acc ++ [(kk, y3)], l2.trans le8, ?_, ?_, i8, a8, if_pos rfl, by simp [hu], ?_, by simp; omega, Pst.mono le8 p2⟩
                    · unfold zK
                      rw [List.length_zip, List.length_map]
                      omega
                    · rw [putK_zK hu hn (d := y3)]; exact lay8
                    · rw [putK_zK hu hn (d := y3)]; exact upd_same
                    · rw [List.map_append]
                      exact RpA_snoc (RpA.mono le8.1 _ _ r2) r7
              · exact p2.elim
  · refine .inl ⟨it.stop i w2 μ2 H2 (by omega) l2 lay2, ?_⟩
    rw [List.drop_of_length_le (by omega)] at p2
    simp only [dcM, gb_ok] at p2
    obtain ⟨le3, lay3⟩ := lay2.stayO i2 a2 f2 e2
    exact p2 _ (.ref a) _ le3 lay3 (.dic (kvs := zK acc us) upd_same (RpK.mono le3.1 _ _ (RpK_of r2)))
theorem de_dc {kx vx tg iter : Expr} {ifs : List Expr} {scope : Scope} (own : List (Str × Nat)) {pos : Pos} (hc : X.calm = true) (hN : X.N.Nodup) (hi : DI X G W tg iter mi) (ok : BlkOk X.N X.env.scope scope own)
    (hg : ∀ (s : Shared) (H : Hp) (C : Addr) (cl : List (Str × Addr)) (fp : List Addr), DG (X.blk s H scope (compEnvC scope cl C X.env) fp) G S tg g) (ht : ∀ (s : Shared) (H : Hp) (C : Addr) (cl : List (Str × Addr)) (fp : List Addr), PTs (X.blk s H scope (compEnvC scope cl C X.env) fp) ifs (tT G W0 tt))
    (hk : ∀ (s : Shared) (H : Hp) (C : Addr) (cl : List (Str × Addr)) (fp : List Addr), DE (X.blk s H scope (compEnvC scope cl C X.env) fp) G W0 kx tk)
    (he : ∀ (s : Shared) (H : Hp) (C : Addr) (cl : List (Str × Addr)) (fp : List Addr), DE (X.blk s H scope (compEnvC scope cl C X.env) fp) G W0 vx tv) (hS : ∀ i ∈ S, i ∈ own.map (·.2) := by decide) (hs : ∀ x, foldedSetIterable iter X.env x = pure x := by intro _; rfl) :
    DE X G W (.DictComp kx vx [⟨tg, iter, ifs, 0⟩] scope pos) (eDc mi g tt tk tv (own.map (·.2))) := PE.imp (pe_dc hc hN hi ok hg ht hk he hs) (dc_imp hS)
end
end DL

/-! name op= e -/
namespace DL
open PySem PySem.Spec PyProof.Rows L2
/-- numbers, texts -/
def dIpAdd : Op2 := fun x y μ => match x, y with
  | .d (.int i), .d (.int j) => .ok (.d (.int (i + j))) μ
  | .d (.str a), .d (.str b) => if a.length + b.length ≤ sizeLine then .ok (.d (.str (a ++ b))) μ else .bad
  | _, _ => .bad
def rIpAdd : TIp := fun x y H Q => ipI (fun i j => i + j) x y H Q ∨ rAddS x y H Q
theorem ip_addA {X : Cx} : PIp X .Add rIpAdd := fun pins s σ H x y v u Q I r1 r2 h => h.elim (fun h => ip_add pins s σ H x y v u Q I r1 r2 h) fun h => in_addS pins s σ H x y v u Q I r1 r2 h
section
variable {X : Cx} {G : GT}
theorem ok_ipadd : OkIp G rIpAdd dIpAdd := by
  intro W σ w μ H x y b c Q l rx ry p
  unfold dIpAdd at p
  split at p
  · exact .inl ⟨_, _, rv_int rx, rv_int ry, p w _ H w.le_refl l (.int _)⟩
  · split at p
    · rename_i h
      exact .inr ⟨_, _, rv_str rx, rv_str ry, h, p w _ H w.le_refl l (.str _)⟩
    · exact p.elim
  · exact p.elim
theorem ok_ipsub : OkIp G (ipI fun i j => i - j) (dInt2 fun i j => .int (i - j)) := by
  intro W σ w μ H x y b c Q l rx ry p
  unfold dInt2 at p
  split at p
  · exact ⟨_, _, rv_int rx, rv_int ry, p w _ H w.le_refl l (.int _)⟩
  · exact p.elim
end
@[simp] theorem sAug_r {i : Nat} {f : Op2} {m : ME} {ρ : DEnv} {μ : Store} : sAug i m f ρ μ = match ρ[i]? with
  | some (some b) => (m ρ μ).bind fun y μ => (f b y μ).bind fun z μ => .ok (.nx (ρ.set i (some z))) μ
  | _ => .bad := id rfl
@[simp] theorem dIpAdd_ii {x y : Int} {μ : Store} : dIpAdd (.d (.int x)) (.d (.int y)) μ = .ok (.d (.int (x + y))) μ := id rfl

/-! ### y = {k: v for ..} -/
theorem ps_setDc {X : Cx} {i : Nat} {y : Str} {py : Pos} {kx vx tg iter : Expr} {ifs : List Expr} {scope : Scope} {own : List (Str × Nat)} {lpos spos : Pos} {wi : TI} {g : TG} {tt : TT} {tk tv : TE} (hc : X.calm = true) (hN : X.N.Nodup) (hy : X.N[i]? = some y) (hyl : X.env.scope.names.lookup y = some .local)
    (hsw : swapsWith (.DictComp kx vx [⟨tg, iter, ifs, 0⟩] scope lpos) (some (.Name y py)) spos.line X.env = pure true) (hi : PI X tg iter wi) (ok : BlkOk X.N X.env.scope scope own)
    (hg : ∀ (s : Shared) (H : Hp) (C : Addr) (cl : List (Str × Addr)) (fp : List Addr), PG (X.blk s H scope (compEnvC scope cl C X.env) fp) tg g) (ht : ∀ (s : Shared) (H : Hp) (C : Addr) (cl : List (Str × Addr)) (fp : List Addr), PTs (X.blk s H scope (compEnvC scope cl C X.env) fp) ifs tt)
    (hk : ∀ (s : Shared) (H : Hp) (C : Addr) (cl : List (Str × Addr)) (fp : List Addr), PE (X.blk s H scope (compEnvC scope cl C X.env) fp) kx tk)
    (he : ∀ (s : Shared) (H : Hp) (C : Addr) (cl : List (Str × Addr)) (fp : List Addr), PE (X.blk s H scope (compEnvC scope cl C X.env) fp) vx tv) (hs : ∀ x, foldedSetIterable iter X.env x = pure x := by intro _; rfl) :
    PS X (.Assign [.Name y py] (.DictComp kx vx [⟨tg, iter, ifs, 0⟩] scope lpos) spos) (tAsg (tDc wi g tt tk tv (own.map (·.2))) (gName i)) := by
  refine ⟨fun pins s σ H D I h => ?_⟩
  rw [exec_Assign_Name_used _ _ _ _ hsw]
  refine wpAny_bind (wpAny_standAt (wpAny_bind ?_))
  show wpAny _ X.A (do let _ ← comprehension (.DictComp kx vx [⟨tg, iter, ifs, 0⟩] scope lpos) scope X.env (firstIterPos [⟨tg, iter, ifs, 0⟩] lpos) newDict false (eval iter X.env) (some (assign (.Name y py) X.env))) _ _ s
  have h : tDc wi g tt tk tv (own.map (·.2)) σ H (fun x H1 => gName i x σ H1 D.nx) := h
  refine wpAny_bind (thn (dc_core (Qf := fun _ s' => SP X pins D .next s') hc hN I hi ok hg ht hk he hs h fun L C s' m H' I' q hn f => ?_) fun _ s' hq => wpAny_pure (wpAny_pure hq))
  show wpAny _ _ (assign (.Name y py) X.env (.ref L)) _ _ _
  refine wpAny_assign_Name (store_ok2 (v := V.ref L) I' hN hy (.inl hyl) rfl (fun s2 I2 ⟨a, sb, ha⟩ => ?_) (.inr hyl))
  obtain ⟨f0, f1, f2, f3, f4, f5⟩ := f
  have haC : C ≠ a := by
    rcases ha with z | z
    · rw [z]; exact f1
    · exact fun e => f4 y a z e.symm
  refine ⟨m, hn.sameBut sb haC, fun h3 sb3 => ?_⟩
  exact ⟨_, H', I2.turned (t' := s2.toks) (fun b o hb e => (sb3.2 b hb).trans e) f0 f1 f3 f4 f5, q⟩
theorem sw_trueD {kx vx : Expr} {gs : List Comprehension} {scope : Scope} {pos py : Pos} {y : Str} {l : Nat} {env : Env} (hk : env.scope.kind = .function) (hy : env.scope.names.lookup y = some .local) (hl : (py.line == pos.line) = true)
    (ha : (scope.names.any fun (n, k) => n == y && (k == .local || k == .cell)) = false) : swapsWith (.DictComp kx vx gs scope pos) (some (.Name y py)) l env = pure true := by
  have ky : env.kindOf y = some .local := hy
  have hb : env.blockKind = .function := by unfold Env.blockKind; rw [hk]; rfl
  unfold swapsWith
  simp only [hb, ky, ha, Expr.pos, hl]
  rfl
theorem ds_setDc {X : Cx} {G : GT} {W : WX} {S : List Nat} {i : Nat} {y : Str} {py : Pos} {kx vx tg iter : Expr} {ifs : List Expr} {scope : Scope} (own : List (Str × Nat)) {lpos spos : Pos} {mi : MI} {g : MG} {tt : MT} {tk tv : ME} (hc : X.calm = true) (hN : X.N.Nodup)
    (hi : DI X G W tg iter mi) (ok : BlkOk X.N X.env.scope scope own)
    (hg : ∀ (s : Shared) (H : Hp) (C : Addr) (cl : List (Str × Addr)) (fp : List Addr), DG (X.blk s H scope (compEnvC scope cl C X.env) fp) G S tg g) (ht : ∀ (s : Shared) (H : Hp) (C : Addr) (cl : List (Str × Addr)) (fp : List Addr), PTs (X.blk s H scope (compEnvC scope cl C X.env) fp) ifs (tT G W0 tt))
    (hk : ∀ (s : Shared) (H : Hp) (C : Addr) (cl : List (Str × Addr)) (fp : List Addr), DE (X.blk s H scope (compEnvC scope cl C X.env) fp) G W0 kx tk)
    (he : ∀ (s : Shared) (H : Hp) (C : Addr) (cl : List (Str × Addr)) (fp : List Addr), DE (X.blk s H scope (compEnvC scope cl C X.env) fp) G W0 vx tv)
    (hy : X.N[i]? = some y := by rfl) (hyl : X.env.scope.names.lookup y = some .local := by rfl) (hsw : swapsWith (.DictComp kx vx [⟨tg, iter, ifs, 0⟩] scope lpos) (some (.Name y py)) spos.line X.env = pure true := by exact sw_trueD rfl rfl rfl (by decide +kernel))
    (hS : ∀ i ∈ S, i ∈ own.map (·.2) := by decide) (hs : ∀ x, foldedSetIterable iter X.env x = pure x := by intro _; rfl) :
    DS X G W (.Assign [.Name y py] (.DictComp kx vx [⟨tg, iter, ifs, 0⟩] scope lpos) spos) (sSet i (eDc mi g tt tk tv (own.map (·.2)))) := by
  refine PS.imp (ps_setDc hc hN hy hyl hsw hi ok hg ht hk he hs) ?_
  rintro D σ H ⟨w, μ, ρ, hl, he, p⟩
  apply dc_imp hS
  exact tD.seqS (k := fun ρ b μ => .ok (.nx (ρ.set i (some b))) μ) hl he p fun w1 μ1 H1 v b l1 lay1 en1 r1 p1 => p1 w1 _ H1 w1.le_refl lay1 (en1.set i r1)
end DL

/-! Lists that change: append, extend, pop. -/
namespace DL
open PySem PySem.Spec PyProof.Rows L2
def isLst : Dv → Store → Bool
  | .c n, μ => match μ[n]? with
    | some (.lst _) => true
    | _ => false
  | _, _ => false
section
variable {G : GT}
theorem cell_lst {w : Wd} {μ : Store} {H : Hp} {n : Nat} {xs : List Dv} {v : V} (l : Lay G w μ H) (r : Rv G w v (.c n)) (e : μ[n]? = some (.lst xs)) : ∃ a vs, v = .ref a ∧ w.α[n]? = some a ∧ w.I a = none ∧ H a = some (.lst vs) ∧ Rvs G w vs xs := by
  obtain ⟨a, ha, rfl⟩ := r
  obtain ⟨h1, vs, h2, h3⟩ := l.at_ n _ a e ha
  exact ⟨a, vs, rfl, ha, h1, h2, h3⟩
theorem ty_lst : OkT G "list" isLst := by
  intro w μ H x b l r h
  unfold isLst at h
  split at h
  · rename_i n
    split at h
    · rename_i xs e
      obtain ⟨a, vs, rfl, _, _, h2, _⟩ := cell_lst l r e
      exact .inl ⟨rfl, vs, SqL.of h2⟩
    · cases h
  · cases h
theorem Rvs_app {w : Wd} : ∀ {vs us : List V} {bs cs : List Dv}, Rvs G w vs bs → Rvs G w us cs → Rvs G w (vs ++ us) (bs ++ cs)
  | _, _, _, _, .nil, h => h
  | _, _, _, _, .cons r t, h => .cons r (Rvs_app t h)
theorem Rvs_take {w : Wd} : ∀ {vs : List V} {bs : List Dv} (k : Nat), Rvs G w vs bs → Rvs G w (vs.take k) (bs.take k)
  | _, _, 0, _ => by simp; exact .nil
  | _, _, k + 1, .nil => .nil
  | _, _, k + 1, .cons r t => .cons r (Rvs_take k t)
def dAppend : Dv → OpN := fun x bs μ => match x, bs with
  | .c n, [b] => match μ[n]? with
    | some (.lst xs) => if xs.length < sizeLine then .ok (.d .none) (μ.set n (.lst (xs ++ [b]))) else .bad
    | _ => .bad
  | _, _ => .bad
theorem ok_append : OkM G rAppend dAppend := by
  intro W σ w μ H x xs b bs Q l r rr p
  unfold dAppend at p
  split at p
  · rename_i n y
    split at p
    · rename_i ys e
      split at p
      · rename_i hz
        obtain ⟨a, vs, rfl, ha, hI, h2, h3⟩ := cell_lst l r e
        cases rr with
        | @cons u _ us _ ru t =>
          cases t
          refine ⟨a, vs, _, rfl, rfl, h2, by rw [Paired.length h3]; exact hz, ?_⟩
          refine p w _ _ w.le_refl (l.write ha hI fun H' e' => ⟨hI, _, e', Rvs_app h3 (.cons ru .nil)⟩) .non
      · exact p.elim
    · exact p.elim
  · exact p.elim
def dPop : Dv → OpN := fun x bs μ => match x, bs with
  | .c n, [] => match μ[n]? with
    | some (.lst xs) => match xs[xs.length - 1]? with
      | some b => .ok b (μ.set n (.lst xs.dropLast))
      | none => .bad
    | _ => .bad
  | _, _ => .bad
theorem ok_pop : OkM G rPop dPop := by
  intro W σ w μ H x xs b bs Q l r rr p
  unfold dPop at p
  split at p
  · rename_i n
    split at p
    · rename_i ys e
      split at p
      · rename_i y hy
        obtain ⟨a, vs, rfl, ha, hI, h2, h3⟩ := cell_lst l r e
        cases rr
        obtain ⟨u, hu, ru⟩ := h3.at hy
        refine ⟨a, vs, u, rfl, rfl, h2, by rw [Paired.length h3]; exact hu, ?_⟩
        refine p w _ _ w.le_refl (l.write ha hI fun H' e' => ⟨hI, _, e', ?_⟩) ru
        rw [List.dropLast_eq_take, List.dropLast_eq_take, Paired.length h3]
        exact Rvs_take _ h3
      · exact p.elim
    · exact p.elim
  · exact p.elim
def dExtend : Dv → OpN := fun x bs μ => match x, bs with
  | .c n, [.c m] => match μ[n]?, μ[m]? with
    | some (.lst xs), some (.lst ys) => if xs.length + ys.length ≤ sizeLine then .ok (.d .none) (μ.set n (.lst (xs ++ ys))) else .bad
    | _, _ => .bad
  | _, _ => .bad
theorem ok_extend : OkM G rExtend dExtend := by
  intro W σ w μ H x xs b bs Q l r rr p
  unfold dExtend at p
  split at p
  · rename_i n m
    split at p
    · rename_i ys zs e1 e2
      split at p
      · rename_i hz
        obtain ⟨a, vs, rfl, ha, hI, h2, h3⟩ := cell_lst l r e1
        cases rr with
        | cons ru t =>
          cases t
          obtain ⟨a2, vs2, rfl, ha2, hI2, h22, h32⟩ := cell_lst l ru e2
          refine ⟨a, a2, vs, vs2, rfl, rfl, h2, h22, by rw [Paired.length h3, Paired.length h32]; exact hz, ?_⟩
          exact p w _ _ w.le_refl (l.write ha hI fun H' e' => ⟨hI, _, e', Rvs_app h3 h32⟩) .non
      · exact p.elim
    · exact p.elim
  · exact p.elim
end
end DL

/-! Walks over list cells, read as they stand at each turn. -/
namespace DL
open PySem PySem.Spec PyProof.Rows L2
def forC (g : MG) (mb : MS) (n : Nat) : Nat → Nat → DEnv → Store → Out Fl
  | 0, _, _, _ => .bad
  | k + 1, i, ρ, μ => match μ[n]? with
    | some (.lst xs) => match xs[i]? with
      | none => .ok (.nx ρ) μ
      | some b => (g b ρ μ).gb fun ρ μ => (mb ρ μ).bind fun f μ => match f with
        | .nx ρ => forC g mb n k (i + 1) ρ μ
        | .ct ρ => forC g mb n k (i + 1) ρ μ
        | .bk ρ => .ok (.nx ρ) μ
        | .rt v => .ok (.rt v) μ
    | _ => .bad
def forCb (g : MG) (mb : MS) (k : Nat) (b : Dv) (ρ : DEnv) (μ : Store) : Out Fl := match b with
  | .c n => forC g mb n k 0 ρ μ
  | _ => .bad
def sForC (mo : ME) (g : MG) (mb : MS) (k : Nat) : MS := fun ρ μ => (mo ρ μ).bind fun b μ => forCb g mb k b ρ μ
section
variable {X : Cx} {G : GT} {W : WX} {tg e : Expr} {body : List Stmt} {mo : ME} {g : MG} {mb : MS} {S : List Nat} {pos : Pos}
theorem forC_imp (hK : X.K = G.K) {k : Nat} : ∀ D σ H, tS G W (sForC mo g mb k) D σ H → tFor (iAny X.K (tE G W mo)) (tG G S g) (tS G W mb) D σ H := by
  rintro D σ H ⟨w, μ, ρ, hl, he, p⟩
  refine tD.seqS (k := fun ρ b μ => forCb g mb k b ρ μ) hl he p fun w1 μ1 H1 v b l1 lay1 en1 r1 p1 => ?_
  unfold forCb at p1
  split at p1
  · rename_i n
    obtain ⟨a, ha, rfl⟩ := r1
    cases k with
    | zero => exact p1.elim
    | succ k =>
      have hc0 : ∃ xs, μ1[n]? = some (.lst xs) := by
        unfold forC at p1
        split at p1
        · rename_i xs e; exact ⟨xs, e⟩
        · exact p1.elim
      obtain ⟨xs0, e0⟩ := hc0
      obtain ⟨h1, vs0, h2, h3⟩ := lay1.at_ n _ a e0 ha
      refine .inl ⟨a, rfl, ⟨vs0, SqL.of h2⟩, ?_⟩
      rw [hK]
      refine ⟨fun i m σ H => ∃ w2 μ2 ρ2 m', m = m' ∧ w1.le w2 ∧ Lay G w2 μ2 H ∧ EnvR G w2 σ ρ2 ∧ PstS G W w2 (forC g mb n m' i ρ2 μ2) D, ⟨k + 1, w1, μ1, ρ, _, rfl, w1.le_refl, lay1, en1, p1⟩, ?_⟩
      rintro i m σ2 H2 ⟨w2, μ2, ρ2, m', rfl, l2, lay2, en2, p2⟩
      cases m with
      | zero => exact p2.elim
      | succ m =>
        unfold forC at p2
        have ha2 : w2.α[n]? = some a := pre_get l2.2.1 ha
        split at p2
        · rename_i xs e2
          obtain ⟨g1, vs, g2, g3⟩ := lay2.at_ n _ a e2 ha2
          split at p2
          · rename_i hx
            have hlen : xs.length ≤ i := List.getElem?_eq_none_iff.mp hx
            refine .inl ⟨⟨vs, SqL.of g2, by rw [Paired.length g3]; exact hlen⟩, ?_⟩
            exact p2 w2 σ2 H2 w2.le_refl lay2 en2
          · rename_i b hb
            obtain ⟨u, hu, ru⟩ := g3.at hb
            refine .inr ⟨⟨vs, u, SqL.of g2, hu⟩, fun σ H => ∃ w3 μ3 ρ3, w1.le w3 ∧ Lay G w3 μ3 H ∧ EnvR G w3 σ ρ3 ∧ PstS G W w3 (forC g mb n m (i + 1) ρ3 μ3) D, fun σ' H' ⟨w3, μ3, ρ3, q1, q2, q3, q4⟩ => ⟨m, Nat.lt_succ_self _, w3, μ3, ρ3, m, rfl, q1, q2, q3, q4⟩, fun x H' y => ?_⟩
            obtain ⟨rfl, y⟩ := y
            have hx := y vs (SqL.of g2)
            rw [hu] at hx
            cases hx
            refine ⟨w2, μ2, ρ2, b, lay2, en2, ru, ?_⟩
            cases q : g b ρ2 μ2 with
            | bad => rw [q] at p2; exact p2.elim
            | ex _ _ => rw [q] at p2; exact p2.elim
            | ok ρ4 μ4 =>
              rw [q] at p2
              intro w4 σ4 H4 l4 lay4 en4 _
              refine ⟨w4, μ4, ρ4, lay4, en4, ?_⟩
              have p4 : PstS G W w4 ((mb ρ4 μ4).bind fun f μ => match f with
                | .nx ρ => forC g mb n m (i + 1) ρ μ
                | .ct ρ => forC g mb n m (i + 1) ρ μ
                | .bk ρ => .ok (.nx ρ) μ
                | .rt v => .ok (.rt v) μ) D := PstS.mono l4 p2
              have l14 : w1.le w4 := l2.trans l4
              cases q5 : mb ρ4 μ4 with
              | bad => rw [q5] at p4; exact p4.elim
              | ex e μ5 => rw [q5] at p4; exact p4
              | ok f μ5 =>
                rw [q5] at p4
                cases f with
                | nx ρ5 => exact fun w5 σ5 H5 l5 lay5 en5 => ⟨w5, μ5, ρ5, l14.trans l5, lay5, en5, PstS.mono l5 p4⟩
                | ct ρ5 => exact fun w5 σ5 H5 l5 lay5 en5 => ⟨w5, μ5, ρ5, l14.trans l5, lay5, en5, PstS.mono l5 p4⟩
                | bk ρ5 => exact p4
                | rt v => exact p4
        · exact p2.elim
  · exact p1.elim
theorem ds_forC (k : Nat) (hp : PassesOwn (model X.prog X.w) X.A X.env X.xe) (hc : X.calm = true) (hK : X.K = G.K) (he : DE X G W e mo) (hg : DG X G S tg g) (hb : DSs X G W body mb)
    (hs : ∀ x, foldedSetIterable e X.env x = pure x := by intro _; rfl) : DS X G W (.For tg e body [] pos) (sForC mo g mb k) := PS.imp (ps_for hp hc (pi_any he) hg hb hs) (forC_imp hK)
end
end DL

/-! Comprehensions over list cells, read as they stand at each turn. -/
namespace DL
open PySem PySem.Spec PyProof.Rows L2
def lcC (g : MG) (tt : MT) (te : ME) (ρ : DEnv) (n : Nat) : Nat → Nat → Store → Out (List Dv)
  | 0, _, _ => .bad
  | k + 1, i, μ => match μ[n]? with
    | some (.lst xs) => match xs[i]? with
      | none => .ok [] μ
      | some b => (g b ρ μ).gb fun ρ' μ => (tt ρ' μ).gb fun t μ => if t = true then (te ρ' μ).gb fun y μ => (lcC g tt te ρ n k (i + 1) μ).gb fun ys μ => .ok (y :: ys) μ else lcC g tt te ρ n k (i + 1) μ
    | _ => .bad
def lcCb (fin : OpN) (g : MG) (tt : MT) (te : ME) (vs : List Nat) (k : Nat) (ρ : DEnv) (b : Dv) (μ : Store) : Out Dv := match b with
  | .c n => if k ≤ sizeLine then (lcC g tt te (wipeD ρ vs) n k 0 μ).gb fin else .bad
  | _ => .bad
def eLcC (fin : OpN) (mo : ME) (g : MG) (tt : MT) (te : ME) (vs : List Nat) (k : Nat) : ME := fun ρ μ => (mo ρ μ).bind fun b μ => lcCb fin g tt te vs k ρ b μ
section
variable {X : Cx} {G : GT} {W : WX} {mo : ME} {g : MG} {tt : MT} {te : ME} {S vs : List Nat} {fin : OpN}
theorem lcC_imp (hK : X.K = G.K) (hf : OkFin G fin) (hS : ∀ i ∈ S, i ∈ vs) {k : Nat} : ∀ σ H Q, tE G W (eLcC fin mo g tt te vs k) σ H Q → tLc (iAny X.K (tE G W mo)) (tG G S g) (tT G W0 tt) (tE G W0 te) vs σ H Q := by
  rintro σ H Q ⟨w, μ, ρ, hl, he, p⟩
  refine tD.seq (k := fun ρ b μ => lcCb fin g tt te vs k ρ b μ) hl he p fun w1 μ1 H1 v b l1 lay1 en1 r1 p1 => ?_
  unfold lcCb at p1
  split at p1
  case h_2 => exact p1.elim
  rename_i n
  by_cases hz : k ≤ sizeLine
  case neg => rw [if_neg hz] at p1; exact p1.elim
  rw [if_pos hz] at p1
  obtain ⟨c, hc, rfl⟩ := r1
  cases k with
  | zero => exact p1.elim
  | succ k =>
  have hc0 : ∃ xs, μ1[n]? = some (.lst xs) := by
    unfold lcC at p1
    split at p1
    · rename_i xs e; exact ⟨xs, e⟩
    · exact p1.elim
  obtain ⟨xs0, e0⟩ := hc0
  obtain ⟨h1, vs0, h2, h3⟩ := lay1.at_ n _ c e0 hc
  refine .inl ⟨c, rfl, ⟨vs0, SqL.of h2⟩, ?_⟩
  rw [hK]
  intro a na
  obtain ⟨n1, n2, n3⟩ := lay1.na na
  refine ⟨fun i m H => ∃ m' w2 μ2 us acc, m = m' ∧ i + m' = k + 1 ∧ w1.le w2 ∧ Lay G w2 μ2 H ∧ H a = some (.lst us) ∧ w2.I a = none ∧ a ∉ w2.α ∧ w2.F a = none ∧ Rvs G w2 us acc ∧ acc.length ≤ i ∧
    Pst G W σ (Rv G) w2 ((lcC g tt te (wipeD ρ vs) n m' i μ2).gb fun ys μ => fin (acc ++ ys) μ) Q, ⟨k + 1, _, w1, μ1, [], [], rfl, by omega, w1.le_refl, lay1.other n1 n2 n3 _, upd_same, n1, n2, n3, .nil, Nat.le_refl _, p1⟩, ?_⟩
  rintro i m H2 ⟨m', w2, μ2, us, acc, rfl, him, l2, lay2, e2, i2, a2, f2, r2, hacc, p2⟩
  cases m with
  | zero => exact p2.elim
  | succ m =>
  unfold lcC at p2
  have hc2 : w2.α[n]? = some c := pre_get l2.2.1 hc
  split at p2
  case h_2 => exact p2.elim
  rename_i xs ex
  obtain ⟨g1, vs1, g2, g3⟩ := lay2.at_ n _ c ex hc2
  split at p2
  · rename_i hx
    have hlen : xs.length ≤ i := List.getElem?_eq_none_iff.mp hx
    refine .inl ⟨⟨vs1, SqL.of g2, by rw [Paired.length g3]; exact hlen⟩, ?_⟩
    simp only [gb_ok, List.append_nil] at p2
    exact hf W σ w2 μ2 H2 a us acc Q lay2 i2 a2 f2 e2 r2 p2
  · rename_i b hb
    obtain ⟨u, hu, ru⟩ := g3.at hb
    refine .inr ⟨⟨vs1, u, SqL.of g2, hu⟩, fun H => ∃ w2 μ2 us acc, w1.le w2 ∧ Lay G w2 μ2 H ∧ H a = some (.lst us) ∧ w2.I a = none ∧ a ∉ w2.α ∧ w2.F a = none ∧ Rvs G w2 us acc ∧ acc.length ≤ i + 1 ∧
      Pst G W σ (Rv G) w2 ((lcC g tt te (wipeD ρ vs) n m (i + 1) μ2).gb fun ys μ => fin (acc ++ ys) μ) Q, fun H' q => ?_, fun x H' y => ?_⟩
    · obtain ⟨w3, μ3, us3, acc3, q1, q2, q3, q4, q5, q6, q7, q8, q9⟩ := q
      exact ⟨m, Nat.lt_succ_self _, m, w3, μ3, us3, acc3, rfl, by omega, q1, q2, q3, q4, q5, q6, q7, q8, q9⟩
    · obtain ⟨rfl, y⟩ := y
      have hx := y vs1 (SqL.of g2)
      rw [hu] at hx
      cases hx
      obtain ⟨lp, layp⟩ := lay2.priv i2 a2 f2 e2
      have en3 : EnvR G (w2.priv a (.lst us)) (wipe σ vs) (wipeD ρ vs) := (en1.wipe vs).mono (l2.trans lp)
      refine ⟨w2.priv a (.lst us), μ2, wipeD ρ vs, b, layp, en3, ru.mono lp, ?_⟩
      cases q : g b (wipeD ρ vs) μ2 with
      | bad => rw [q] at p2; exact p2.elim
      | ex _ _ => rw [q] at p2; exact p2.elim
      | ok ρ4 μ4 =>
        rw [q] at p2
        intro w4 σ4 H4 l4 lay4 en4 ag
        refine ⟨wipe_agr ag hS, w4, μ4, ρ4, lay4, en4, ?_⟩
        cases q5 : tt ρ4 μ4 with
        | bad => simp only [gb_ok, q5] at p2; exact p2.elim
        | ex _ _ => simp only [gb_ok, q5] at p2; exact p2.elim
        | ok t μ5 =>
          simp only [gb_ok, q5] at p2
          intro w5 v5 H5 l5 lay5 r5
          have r5 : v5 = t := r5
          subst r5
          have lw5 : (w2.priv a (.lst us)).le w5 := l4.trans l5
          cases v5 with
          | false =>
            simp only [Bool.false_eq_true, if_false] at p2
            obtain ⟨le6, lay6, e6, i6, a6⟩ := lay5.unp lw5 f2 (.lst us)
            have hH : upd H5 a (.lst us) = H5 := by
              funext b
              by_cases z : b = a
              · subst z; rw [upd_same, e6]
              · rw [upd_ne z]
            rw [hH] at lay6
            exact ⟨w5.unp a, μ5, us, acc, l2.trans le6, lay6, e6, i6, a6, if_pos rfl, r2.mono le6, by omega, Pst.mono le6 p2⟩
          | true =>
            simp only [if_true] at p2
            refine ⟨w5, μ5, ρ4, lay5, en4.mono l5, ?_⟩
            cases q6 : te ρ4 μ5 with
            | bad => rw [q6] at p2; exact p2.elim
            | ex _ _ => rw [q6] at p2; exact p2.elim
            | ok y μ6 =>
              rw [q6] at p2
              intro w6 v6 H6 l6 lay6 r6
              obtain ⟨le7, lay7, e7, i7, a7⟩ := lay6.unp (lw5.trans l6) f2 (.lst (us ++ [v6]))
              refine ⟨us, e7, by rw [Paired.length r2]; omega, w6.unp a, μ6, us ++ [v6], acc ++ [y], l2.trans le7, lay7, upd_same, i7, a7, if_pos rfl, ?_, by simp; omega, ?_⟩
              · exact Rvs_app (r2.mono le7) (.cons (Rv.cong rfl rfl r6) .nil)
              · have p3 := Pst.mono le7 p2
                cases q7 : lcC g tt te (wipeD ρ vs) n m (i + 1) μ6 with
                | bad => simp only [gb_ok, q7] at p3; exact p3.elim
                | ex _ _ => simp only [gb_ok, q7] at p3; exact p3.elim
                | ok ys μ7 =>
                  simp only [gb_ok, q7] at p3
                  simp only [gb_ok, List.append_assoc, List.singleton_append]
                  exact p3
theorem de_lcC {elt tg e : Expr} {ifs : List Expr} {scope : Scope} (own : List (Str × Nat)) {pos : Pos} (k : Nat) (hf : OkFin G fin) (hc : X.calm = true) (hN : X.N.Nodup) (hK : X.K = G.K) (hi : DE X G W e mo) (ok : BlkOk X.N X.env.scope scope own)
    (hg : ∀ (s : Shared) (H : Hp) (C : Addr) (cl : List (Str × Addr)) (fp : List Addr), DG (X.blk s H scope (compEnvC scope cl C X.env) fp) G S tg g) (ht : ∀ (s : Shared) (H : Hp) (C : Addr) (cl : List (Str × Addr)) (fp : List Addr), PTs (X.blk s H scope (compEnvC scope cl C X.env) fp) ifs (tT G W0 tt))
    (he : ∀ (s : Shared) (H : Hp) (C : Addr) (cl : List (Str × Addr)) (fp : List Addr), DE (X.blk s H scope (compEnvC scope cl C X.env) fp) G W0 elt te) (hS : ∀ i ∈ S, i ∈ own.map (·.2) := by decide) (hs : ∀ x, foldedSetIterable e X.env x = pure x := by intro _; rfl) :
    DE X G W (.ListComp elt [⟨tg, e, ifs, 0⟩] scope pos) (eLcC fin mo g tt te (own.map (·.2)) k) := PE.imp (pe_lc hc hN (pi_any hi) ok hg ht he hs) (lcC_imp hK hf hS)
theorem ds_setLcC {i : Nat} {y : Str} {py : Pos} {elt tg e : Expr} {ifs : List Expr} {scope : Scope} (own : List (Str × Nat)) {lpos spos : Pos} (k : Nat) (hf : OkFin G fin) (hc : X.calm = true) (hN : X.N.Nodup) (hK : X.K = G.K) (hi : DE X G W e mo) (ok : BlkOk X.N X.env.scope scope own)
    (hg : ∀ (s : Shared) (H : Hp) (C : Addr) (cl : List (Str × Addr)) (fp : List Addr), DG (X.blk s H scope (compEnvC scope cl C X.env) fp) G S tg g) (ht : ∀ (s : Shared) (H : Hp) (C : Addr) (cl : List (Str × Addr)) (fp : List Addr), PTs (X.blk s H scope (compEnvC scope cl C X.env) fp) ifs (tT G W0 tt))
    (he : ∀ (s : Shared) (H : Hp) (C : Addr) (cl : List (Str × Addr)) (fp : List Addr), DE (X.blk s H scope (compEnvC scope cl C X.env) fp) G W0 elt te)
    (hy : X.N[i]? = some y := by rfl) (hyl : X.env.scope.names.lookup y = some .local := by rfl) (hsw : swapsWith (.ListComp elt [⟨tg, e, ifs, 0⟩] scope lpos) (some (.Name y py)) spos.line X.env = pure true := by exact sw_true rfl rfl rfl (by decide +kernel))
    (hS : ∀ i ∈ S, i ∈ own.map (·.2) := by decide) (hs : ∀ x, foldedSetIterable e X.env x = pure x := by intro _; rfl) :
    DS X G W (.Assign [.Name y py] (.ListComp elt [⟨tg, e, ifs, 0⟩] scope lpos) spos) (sSet i (eLcC fin mo g tt te (own.map (·.2)) k)) := by
  refine PS.imp (ps_setLc hc hN hy hyl hsw (pi_any hi) ok hg ht he hs) ?_
  rintro D σ H ⟨w, μ, ρ, hl, he, p⟩
  apply lcC_imp hK hf hS
  exact tD.seqS (k := fun ρ b μ => .ok (.nx (ρ.set i (some b))) μ) hl he p fun w1 μ1 H1 v b l1 lay1 en1 r1 p1 => p1 w1 _ H1 w1.le_refl lay1 (en1.set i r1)
end
end DL

/-! tuple(x), list(x) of lists, tuples, cells. -/
namespace DL
open PySem PySem.Spec PyProof.Rows L2
def dToTup : Op1 := fun x μ => match itemsT x with
  | some _ => .ok x μ
  | none => match items x μ with
    | some bs => dTup bs μ
    | none => .bad
def dToList (fin : OpN) : OpN := n1 fun b μ => match itemsA b μ with
  | some bs => fin bs μ
  | none => .bad
section
variable {X : Cx} {G : GT} {W : WX} {a : Expr} {m : ME} {p pos : Pos}
theorem de_tupleOf (hK : X.K = G.K) (hg : Gl X "tuple") (hm : X.mg "tuple" = none) (ha : DE X G W a m) (na : starEach [a] X.env = (false, eval a X.env) :: starEach [] X.env := by rfl) : DE X G W (.Call (.Name "tuple" p) [a] [] pos) (e1 dToTup m) := by
  refine PE.imp (pe_tupleOf hg hm ha na) ?_
  rintro σ H Q ⟨w, μ, ρ, hl, he, pp⟩
  refine tD.seq (k := fun ρ x μ => dToTup x μ) hl he pp fun w1 μ1 H1 v b l1 lay1 en1 r1 p1 => ?_
  unfold dToTup at p1
  split at p1
  · rename_i bs e
    unfold itemsT at e
    split at e
    · rename_i ds
      cases e
      obtain ⟨c, vs, rfl, h1, h2⟩ := rv_tup r1
      exact .inr ⟨c, vs, rfl, by rw [hK]; exact seqT lay1.same h1, p1 w1 _ H1 w1.le_refl lay1 r1⟩
    · cases e
  · split at p1
    · rename_i bs e
      obtain ⟨c, vs, rfl, h1, h2⟩ := items_ok lay1 r1 e
      obtain ⟨_, q⟩ := tup_new lay1 h2 p1
      exact .inl ⟨c, vs, rfl, by rw [hK]; exact h1, q⟩
    · exact p1.elim
def rListOf (K : PySem.W.Frag) : List V → Hp → VK → Prop := fun xs H Q => ∃ p ys, xs = [.ref p] ∧ (SqL K H p ys ∨ SqT K H p ys) ∧ ∀ l, H l = none → Q (.ref l) (upd H l (.lst ys))
theorem ok_listOf : OkN G (rListOf G.K) (dToList dList) := by
  apply ok_n1
  intro W σ w μ H x b Q l r p
  split at p
  · rename_i bs e
    obtain ⟨c, vs, rfl, h1, h2⟩ := itemsA_ok l r e
    exact ⟨c, vs, rfl, h1, (list_new l h2 p).2⟩
  · exact p.elim
theorem ok_listOfC : OkN G (rListOf G.K) (dToList cList) := by
  apply ok_n1
  intro W σ w μ H x b Q l r p
  split at p
  · rename_i bs e
    obtain ⟨c, vs, rfl, h1, h2⟩ := itemsA_ok l r e
    exact ⟨c, vs, rfl, h1, (list_cell l h2 p).2⟩
  · exact p.elim
theorem call_listOf : CallR X (.type "list") (rListOf X.K) := call_list_of
end
end DL

/-! for over enumerate of a list cell. -/
namespace DL
open PySem PySem.Spec PyProof.Rows L2
def forE (g : MG) (mb : MS) (n : Nat) : Nat → Nat → DEnv → Store → Out Fl
  | 0, _, _, _ => .bad
  | k + 1, i, ρ, μ => match μ[n]? with
    | some (.lst xs) => match xs[i]? with
      | none => .ok (.nx ρ) μ
      | some (.d x) => (g (.d (.tuple [.int i, x])) ρ μ).gb fun ρ μ => (mb ρ μ).bind fun f μ => match f with
        | .nx ρ => forE g mb n k (i + 1) ρ μ
        | .ct ρ => forE g mb n k (i + 1) ρ μ
        | .bk ρ => .ok (.nx ρ) μ
        | .rt v => .ok (.rt v) μ
      | some _ => .bad
    | _ => .bad
def forEb (g : MG) (mb : MS) (k : Nat) (b : Dv) (ρ : DEnv) (μ : Store) : Out Fl := match b with
  | .c n => forE g mb n k 0 ρ μ
  | _ => .bad
def sForE (mo : ME) (g : MG) (mb : MS) (k : Nat) : MS := fun ρ μ => (mo ρ μ).bind fun b μ => forEb g mb k b ρ μ
section
variable {X : Cx} {G : GT} {W : WX} {tg e : Expr} {body : List Stmt} {mo : ME} {g : MG} {mb : MS} {S : List Nat} {pos : Pos}
theorem forE_imp (hK : X.K = G.K) {k : Nat} : ∀ D σ H, tS G W (sForE mo g mb k) D σ H → tFor (iEnum X.K (tA G W (aCons mo aNil))) (tG G S g) (tS G W mb) D σ H := by
  rintro D σ H ⟨w, μ, ρ, hl, he, p⟩
  have p : PstS G W w ((aCons mo aNil ρ μ).bind fun bs μ => match bs with
    | [b] => forEb g mb k b ρ μ
    | _ => .bad) D := by
    unfold sForE at p
    cases q : mo ρ μ with
    | bad => rw [q] at p; exact p.elim
    | ex e μ' => rw [q] at p; unfold aCons; rw [q]; exact p
    | ok b μ' => rw [q] at p; unfold aCons; rw [q]; exact p
  refine tD.seqS (k := fun ρ bs μ => match bs with
    | [b] => forEb g mb k b ρ μ
    | _ => .bad) hl he p fun w1 μ1 H1 vv bb l1 lay1 en1 rr p1 => ?_
  cases rr with
  | nil => exact p1.elim
  | @cons v b vs bs r1 rt =>
  cases rt with
  | cons _ _ => exact p1.elim
  | nil =>
  replace p1 : PstS G W w1 (forEb g mb k b ρ μ1) D := p1
  unfold forEb at p1
  split at p1
  · rename_i n
    obtain ⟨a, ha, rfl⟩ := r1
    cases k with
    | zero => exact p1.elim
    | succ k =>
      have hc0 : ∃ xs, μ1[n]? = some (.lst xs) := by
        unfold forE at p1
        split at p1
        · rename_i xs e; exact ⟨xs, e⟩
        · exact p1.elim
      obtain ⟨xs0, e0⟩ := hc0
      obtain ⟨h1, vs0, h2, h3⟩ := lay1.at_ n _ a e0 ha
      refine ⟨a, vs0, rfl, SqL.of h2, ?_⟩
      rw [hK]
      refine ⟨fun i m σ H => ∃ w2 μ2 ρ2 m', m = m' ∧ w1.le w2 ∧ Lay G w2 μ2 H ∧ EnvR G w2 σ ρ2 ∧ PstS G W w2 (forE g mb n m' i ρ2 μ2) D, ⟨k + 1, w1, μ1, ρ, _, rfl, w1.le_refl, lay1, en1, p1⟩, ?_⟩
      rintro i m σ2 H2 ⟨w2, μ2, ρ2, m', rfl, l2, lay2, en2, p2⟩
      cases m with
      | zero => exact p2.elim
      | succ m =>
        unfold forE at p2
        have ha2 : w2.α[n]? = some a := pre_get l2.2.1 ha
        split at p2
        · rename_i xs e2
          obtain ⟨g1, vs, g2, g3⟩ := lay2.at_ n _ a e2 ha2
          split at p2
          · rename_i hx
            have hlen : xs.length ≤ i := List.getElem?_eq_none_iff.mp hx
            refine .inl ⟨⟨vs, SqL.of g2, by rw [Paired.length g3]; exact hlen⟩, ?_⟩
            exact p2 w2 σ2 H2 w2.le_refl lay2 en2
          · rename_i bx hb
            obtain ⟨u, hu, ru⟩ := g3.at hb
            refine .inr ⟨⟨vs, u, SqL.of g2, hu⟩, fun σ H => ∃ w3 μ3 ρ3, w1.le w3 ∧ Lay G w3 μ3 H ∧ EnvR G w3 σ ρ3 ∧ PstS G W w3 (forE g mb n m (i + 1) ρ3 μ3) D, fun σ' H' ⟨w3, μ3, ρ3, q1, q2, q3, q4⟩ => ⟨m, Nat.lt_succ_self _, w3, μ3, ρ3, m, rfl, q1, q2, q3, q4⟩, fun x H' y => ?_⟩
            obtain ⟨T, x, rfl, hT, rfl, y⟩ := y
            have hx := y vs (SqL.of g2)
            rw [hu] at hx
            cases hx
            obtain ⟨le, layT⟩ := lay2.new hT (.tup [.int (i : Nat), u])
            have ru : Rp G.K w2.I u bx := ru
            refine ⟨_, μ2, ρ2, .d (.tuple [.int i, bx]), layT, en2.mono le, .tup (SqT.of upd_same) (RpA.mono le.1 _ _ (.cons (.int _) (.cons ru .nil))), ?_⟩
            have p2 := PstS.mono le p2
            cases q : g (.d (.tuple [.int i, bx])) ρ2 μ2 with
            | bad => rw [q] at p2; exact p2.elim
            | ex _ _ => rw [q] at p2; exact p2.elim
            | ok ρ4 μ4 =>
              rw [q] at p2
              intro w4 σ4 H4 l4 lay4 en4 _
              refine ⟨w4, μ4, ρ4, lay4, en4, ?_⟩
              have p4 : PstS G W w4 ((mb ρ4 μ4).bind fun f μ => match f with
                | .nx ρ => forE g mb n m (i + 1) ρ μ
                | .ct ρ => forE g mb n m (i + 1) ρ μ
                | .bk ρ => .ok (.nx ρ) μ
                | .rt v => .ok (.rt v) μ) D := PstS.mono l4 p2
              have l14 : w1.le w4 := (l2.trans le).trans l4
              cases q5 : mb ρ4 μ4 with
              | bad => rw [q5] at p4; exact p4.elim
              | ex e μ5 => rw [q5] at p4; exact p4
              | ok f μ5 =>
                rw [q5] at p4
                cases f with
                | nx ρ5 => exact fun w5 σ5 H5 l5 lay5 en5 => ⟨w5, μ5, ρ5, l14.trans l5, lay5, en5, PstS.mono l5 p4⟩
                | ct ρ5 => exact fun w5 σ5 H5 l5 lay5 en5 => ⟨w5, μ5, ρ5, l14.trans l5, lay5, en5, PstS.mono l5 p4⟩
                | bk ρ5 => exact p4
                | rt v => exact p4
          · exact p2.elim
        · exact p2.elim
  · exact p1.elim
theorem ds_forE {elts : List Expr} {kk : Nat} {tpos p cpos : Pos} (k : Nat) (hp : PassesOwn (model X.prog X.w) X.A X.env X.xe) (hc : X.calm = true) (hK : X.K = G.K) (hgl : Gl X "enumerate") (hm : X.mg "enumerate" = none) (he : DE X G W e mo) (hg : DG X G S (.Tuple elts kk tpos) g) (hb : DSs X G W body mb)
    (hs1 : starEach [e] X.env = [(false, eval e X.env)] := by rfl) (hs : ∀ x, foldedSetIterable (.Call (.Name "enumerate" p) [e] [] cpos) X.env x = pure x := by intro _; rfl) : DS X G W (.For (.Tuple elts kk tpos) (.Call (.Name "enumerate" p) [e] [] cpos) body [] pos) (sForE mo g mb k) := PS.imp (ps_for hp hc (pi_enum hgl hm (da_cons he da_nil (by rw [hs1]; rfl)) hs1) hg hb hs) (forE_imp hK)
end
end DL

/-! a comprehension's list as a cell; calls of defs without arguments -/
namespace DL
open PySem PySem.Spec PyProof.Rows L2
theorem Lay.adopt {G : GT} {w : Wd} {μ : Store} {H : Hp} (l : Lay G w μ H) {p : Addr} (h1 : w.I p = none) (h2 : p ∉ w.α) (h3 : w.F p = none) {o : HO} {c : Cell} (e0 : H p = some o) (hc : ∀ H', H' p = some o → CellAt G (w.ext p) H' p c) : w.le (w.ext p) ∧ Lay G (w.ext p) (μ ++ [c]) H := by
  have l2 := l
  refine ⟨⟨Same.refl _, List.prefix_append _ _, Same.refl _⟩, l2.same, by simp [l2.len], ?_, fun a ha => ?_, l2.fr, fun a ha => ?_, l2.di, fun n c' a e q => ?_⟩
  · refine List.nodup_append.mpr ⟨l.nd, by simp, fun a ha b hb => ?_⟩
    simp at hb
    subst hb
    exact ne_mem ha h2
  · rcases List.mem_append.mp ha with ha | ha
    · exact l2.lv a ha
    · simp at ha; subst ha; exact ⟨o, e0⟩
  · rcases List.mem_append.mp ha with ha | ha
    · exact l2.fd a ha
    · simp at ha; subst ha; exact h3
  · by_cases hn : n < μ.length
    · rw [List.getElem?_append_left hn] at e
      have q : (w.α ++ [p])[n]? = some a := q
      rw [List.getElem?_append_left (by rw [l.len]; exact hn)] at q
      exact CellAt.cong (w := w) (w' := w.ext p) (fun z => z) ⟨Same.refl _, List.prefix_append _ _⟩ rfl (l2.at_ n c' a e q)
    · have hn' : n = μ.length := by
        have := (List.getElem?_eq_some_iff.mp e).1
        simp at this
        omega
      subst hn'
      have q : (w.α ++ [p])[μ.length]? = some a := q
      rw [← l.len, List.getElem?_append_right (Nat.le_refl _)] at q
      rw [List.getElem?_append_right (Nat.le_refl _)] at e
      simp at q e
      subst q e
      exact hc _ e0
theorem fin_cell {G : GT} : OkFin G cList := by
  intro W σ w μ H a vs bs Q l h1 h2 h3 e r p
  unfold cList at p
  by_cases z : bs.length ≤ sizeLine
  · rw [if_pos z] at p
    have le0 : w.le (w.ext a) := ⟨Same.refl _, List.prefix_append _ _, Same.refl _⟩
    obtain ⟨le, l2⟩ := l.adopt (c := .lst bs) h1 h2 h3 e (fun H' e' => ⟨h1, vs, e', Rvs.mono le0 r⟩)
    refine p _ (.ref a) _ le l2 ⟨a, ?_, rfl⟩
    show (w.α ++ [a])[μ.length]? = some a
    rw [← l.len]
    simp
  · rw [if_neg z] at p
    exact p.elim
theorem de_calC0 {X : Cx} {G : GT} {W : WX} {k : Nat} {x : Str} {kb : List (List Str × List Nat)} {F : OpN} {p pos : Pos} (hK : X.K = G.K) (C : Cal X.prog X.w G X.mg X.base x k [] kb F) (g : X.A.guards = some []) (hr : Room k X.A) (tk : Takes X W) (hg : Gl X x) (hdb : (x == ("__debug__" : Str)) = false := by decide) : DE X G W (.Call (.Name x p) [] [] pos) (eN (fCall 0 F) aNil) := by
  obtain ⟨f, fd, h1, h2, h3, h4, _⟩ := C.ex
  rw [← hK] at h1 h3 h4
  apply PE.imp (t := tCallSD (spD G 0 F) [] (WE W) (tA G W aNil)) _ call_imp
  constructor
  intro pins s σ H Q I h
  apply wpAny_Call_Name_kw
  apply ld_glob I hg h2 _ hdb
  apply PySem.W.callWith_K0 I.kIn h3
  obtain ⟨w, μ, ρ, hl, he, pp⟩ := h
  have q : spD G 0 F [] H Q (WE W σ) := pp w [] H w.le_refl hl .nil
  have hb1 := h4 s [] I.kIn rfl
  apply wpAny_call
  apply codeAny_mono (runG h1 g hr (fun _ _ _ _ _ I c => passAt tk σ _ _ _ _ _ I c) I hb1 .nil q)
  rintro (e | fl) s' q
  · exact q
  · cases fl with
    | ret u => exact q
    | next => exact q.elim
    | brk => exact q.elim
    | cont => exact q.elim
end DL

/-! sorted(xs) of data that are alike, of any kind. -/
namespace DL
open PySem PySem.Spec PyProof.Rows L2
open PySem.W (EachIs AllAlike Sortable dataLe alike)
abbrev srt (ds : List D) : List D := ds.mergeSort (dataLe false id)
abbrev srtZ (zs : List (V × D)) : List (V × D) := zs.mergeSort (dataLe false Prod.snd)
theorem srtZ_snd (zs : List (V × D)) : (srtZ zs).map Prod.snd = srt (zs.map Prod.snd) := PySem.W.sort_maps Prod.snd fun _ _ _ _ => rfl
theorem srt_perm (ds : List D) : (srt ds).Perm ds := List.mergeSort_perm ds _
theorem srt_mem {ds : List D} {d : D} : d ∈ srt ds ↔ d ∈ ds := (srt_perm ds).mem_iff
theorem srt_len (ds : List D) : (srt ds).length = ds.length := (srt_perm ds).length_eq
def tupD : D → Bool
  | .tuple (_ :: _) => true
  | _ => false
def soloD : D → Bool
  | .tuple _ => false
  | .none => false
  | _ => true
/-- such a list can be sorted -/
def canSort (ds : List D) : Bool := (ds.all fun d => ds.all fun e => alike d e) && (ds.all tupD || ds.all soloD) && (ds.all fun d => decide (d.depth ≤ 40)) && nodicts ds
theorem canSort_ok {ds : List D} (h : canSort ds = true) : AllAlike ds ∧ Sortable ds ∧ (∀ d ∈ ds, d.depth ≤ 40) ∧ nodicts ds = true := by
  unfold canSort at h
  simp only [Bool.and_eq_true, Bool.or_eq_true, List.all_eq_true, decide_eq_true_eq] at h
  obtain ⟨⟨⟨h1, h2⟩, h3⟩, h4⟩ := h
  refine ⟨h1, ?_, h3, h4⟩
  rcases h2 with h2 | h2
  · left
    intro d hd
    have q := h2 d hd
    unfold tupD at q
    split at q
    · exact ⟨_, _, rfl⟩
    · cases q
  · right
    intro d hd
    have q := h2 d hd
    refine ⟨?_, fun xs z => ?_⟩
    · rintro rfl; cases q
    · subst z; cases q
def rSortD (K : PySem.W.Frag) : List V → Hp → VK → Prop := fun vs H Q => ∃ (a : Addr) (zs : List (V × D)), vs = [V.ref a] ∧ SqL K H a (zs.map Prod.fst) ∧ DpAll K H (zs.map Prod.fst) (zs.map Prod.snd) ∧ canSort (zs.map Prod.snd) = true ∧
  ∀ p : Addr, H p = none → Q (.ref p) (upd H p (.lst ((srtZ zs).map Prod.fst)))
theorem each_rel : ∀ {zs : List (V × D)} {us : List Value}, Vals (zs.map Prod.fst) us → EachIs (fun u (z : V × D) => RelV z.1 u) us zs
  | [], _, h => by cases h; exact .nil
  | z :: zs, _, h => by
    cases h with
    | cons r t => exact .cons r (each_rel t)
theorem rel_each : ∀ {us : List Value} {zs : List (V × D)}, EachIs (fun u (z : V × D) => RelV z.1 u) us zs → Vals (zs.map Prod.fst) us
  | _, _, .nil => .nil
  | _, _, .cons r t => .cons r (rel_each t)
section
variable {X : Cx}
theorem each_reads {pins : List (Addr × Obj)} {σ : L2.St} {H : Hp} {s : Shared} (I : Inv X pins σ H s) : ∀ {zs : List (V × D)} {us : List Value}, Vals (zs.map Prod.fst) us → DpAll X.K H (zs.map Prod.fst) (zs.map Prod.snd) → EachIs (fun u (z : V × D) => ∃ as, Reads s.heap u z.2 as) us zs
  | [], _, h, _ => by cases h; exact .nil
  | z :: zs, _, h, g => by
    cases h with
    | cons r t =>
      cases g with
      | cons d e => exact .cons (Dp.reads I _ _ _ d r) (each_reads I t e)
theorem cr_sortD (hu : X.A.units + 64 < cLine) : CallR X (.builtin "sorted") (rSortD X.K) := by
  intro pins s σ H vs us Q I r h
  obtain ⟨a, zs, rfl, hs, hd, hc, q⟩ := h
  obtain ⟨hal, hk, hdep, _⟩ := canSort_ok hc
  obtain ⟨its, rv, hl, hz⟩ := I.list hs
  rw [Vals.ref1 r]
  have hn : zs.length ≤ sizeLine := by
    rw [List.length_map] at hz
    exact hz
  refine PySem.W.sorted_data (enc := Prod.snd) hl.isList (each_rel rv) (each_reads I rv hd) hal hk hn (fun z m => ?_) fun out ho eo => ?_
  · have := hdep z.2 (List.mem_map.mpr ⟨z, m, rfl⟩)
    show X.A.units + 2 + z.2.depth < cLine
    omega
  · obtain ⟨ep, top⟩ := PyProof.Rows.sortedAll_at s.heap its out.toArray
    have sz : ((srtZ zs).map Prod.fst).length ≤ sizeLine := by
      rw [List.length_map, (List.mergeSort_perm zs _).length_eq]
      exact hn
    refine ⟨.ref (s.heap.objs.size + 1), upd H (s.heap.objs.size + 1) (.lst ((srtZ zs).map Prod.fst)), ?_, rfl, q _ (I.hok.fresh (Nat.le_succ _))⟩
    exact I.laid (t' := s.toks) (fun _ _ => PyProof.Rows.sortedAll_old) (Nat.le_succ _) ⟨sz, out, ep, rel_each eo, top⟩
end
/-- sorted(xs) -/
def dSort : OpN := n1 fun b μ => match items b μ with
  | some bs => match allD bs with
    | some ds => if canSort ds = true then dList ((srt ds).map .d) μ else .bad
    | none => .bad
  | none => .bad
theorem RpA_zip {K : PySem.W.Frag} {I : Hp} : ∀ {vs : List V} {ds : List D}, RpA K I vs ds → (vs.zip ds).map Prod.fst = vs ∧ (vs.zip ds).map Prod.snd = ds ∧ ∀ z ∈ vs.zip ds, Rp K I z.1 z.2
  | _, _, .nil => ⟨rfl, rfl, fun z h => by simp at h⟩
  | _, _, .cons (v := v) (d := d) r t => by
    obtain ⟨h1, h2, h3⟩ := RpA_zip t
    refine ⟨?_, ?_, fun z h => ?_⟩
    · rw [List.zip_cons_cons, List.map_cons, h1]
    · rw [List.zip_cons_cons, List.map_cons, h2]
    · rw [List.zip_cons_cons] at h
      rcases List.mem_cons.mp h with e | h
      · rw [e]; exact r
      · exact h3 z h
theorem RpA_of_zip {K : PySem.W.Frag} {I : Hp} : ∀ {zs : List (V × D)}, (∀ z ∈ zs, Rp K I z.1 z.2) → RpA K I (zs.map Prod.fst) (zs.map Prod.snd)
  | [], _ => .nil
  | z :: zs, h => .cons (h z List.mem_cons_self) (RpA_of_zip fun y m => h y (List.mem_cons_of_mem _ m))
section
variable {G : GT}
theorem ok_sortD : OkN G (rSortD G.K) dSort := by
  apply ok_n1
  intro W σ w μ H x b Q l r p
  split at p
  · rename_i bs e
    split at p
    · rename_i ds e2
      split at p
      · rename_i c
        obtain ⟨a, vs, rfl, h1, h2⟩ := items_ok l r e
        rw [allD_eq e2] at h2
        have ra := RpA_of_Rvs h2
        obtain ⟨z1, z2, z3⟩ := RpA_zip ra
        have nd := (canSort_ok c).2.2.2
        refine ⟨a, vs.zip ds, rfl, by rw [z1]; exact h1, by rw [z1, z2]; exact RpA.dp _ _ nd (RpA.mono l.same _ _ ra), by rw [z2]; exact c, ?_⟩
        have hr : RpA G.K w.I ((srtZ (vs.zip ds)).map Prod.fst) ((srtZ (vs.zip ds)).map Prod.snd) := RpA_of_zip fun z m => z3 z ((List.mergeSort_perm _ _).mem_iff.mp m)
        rw [srtZ_snd, z2] at hr
        exact (list_new l (Rvs_of_RpA hr) p).2
      · exact p.elim
    · exact p.elim
  · exact p.elim
end
end DL

/-! set(xs) of numbers and texts, as a list of unlike keys. -/
noncomputable section
namespace DL
open PySem PySem.Spec PyProof.Rows L2 PySem.Froz
def kOf : Value → Key
  | .int i _ => .inl i
  | .str x _ => .inr x
  | _ => .inl 0
theorem kOf_is {k : Key} {v : Value} (h : keyIs k v = true) : kOf v = k := by
  rcases keyIs_shape h with ⟨i, t, rfl, rfl⟩ | ⟨x, t, rfl, rfl⟩ <;> rfl
theorem scan_key {k : Key} {v : Value} (h : keyIs k v = true) : v.scannable = true := by
  rcases keyIs_shape h with ⟨i, t, rfl, rfl⟩ | ⟨x, t, rfl, rfl⟩ <;> rfl
/-- the payload holds these keys, in some order, and can be walked -/
structure KsOk (P : Program) (w : World) (D : SD) (ks : List Key) : Prop where
  el : ElemsOf (mixKind P w) D.1.toList
  pm : (D.1.toList.map fun e => kOf e.2).Perm ks
  fit : D.2.2.fits D.1.size = true
  ris : Ris D.2.2.place.toList
  led : w.params.followText "set-order" = true ∨ D.2.2.led = true
section
variable {P : Program} {w : World} {A : Around} {E : Value → Shared → Prop} {s : Shared} {D : SD} {ks : List Key} {k : Key} {v : Value}
theorem KsOk.size (F : KsOk P w D ks) : D.1.size = ks.length := by
  have q := F.pm.length_eq
  rw [List.length_map, Array.length_toList] at q
  exact q
theorem KsOk.has (F : KsOk P w D ks) (k : Key) : (∃ e ∈ D.1.toList, keyIs k e.2 = true) ↔ k ∈ ks := by
  rw [← F.pm.mem_iff, List.mem_map]
  constructor
  · rintro ⟨e, he, q⟩
    exact ⟨e, he, kOf_is q⟩
  · rintro ⟨e, he, q⟩
    obtain ⟨⟨k', q', _⟩, _⟩ := F.el e he
    have q2 : keyIs k' e.2 = true := q'
    rw [kOf_is q2] at q
    exact ⟨e, he, by rw [← q]; exact q2⟩
theorem KsOk.start (w : World) : KsOk P w (#[], 0, .fresh 0 0 (!w.params.followText "set-order")) [] := by
  refine ⟨fun e he => by simp at he, .nil, rfl, List.Pairwise.nil, ?_⟩
  show _ ∨ (!w.params.followText "set-order") = true
  cases w.params.followText "set-order" <;> simp
/-- the payload behind an add of a new key -/
def addKx (h : Int) (v : Value) (D : SD) : SD :=
  tailTx D.2.1 (layNew D.2.2 D.1 h v).1 (if (layNew D.2.2 D.1 h v).2.1.plain = true then (if plainKind v = true then (layNew D.2.2 D.1 h v).2.1 else { (layNew D.2.2 D.1 h v).2.1 with plain := false }) else (layNew D.2.2 D.1 h v).2.1) (layNew D.2.2 D.1 h v).2.2.1
theorem KsOk.cons (F : KsOk P w D ks) (hv : keyIs k v = true) : KsOk P w (addKx (keyH w k) v D) (k :: ks) := by
  obtain ⟨es, ep, t⟩ := D
  obtain ⟨f1, f2, f3, f4, f5⟩ := F
  have a1 := layNew_perm t es (keyH w k) v
  have a2 := layNew_fits t es (keyH w k) v
  have a3 := layNew_ris t es (keyH w k) v f4
  have a4 := layNew_led t es (keyH w k) v
  unfold addKx
  generalize layNew t es (keyH w k) v = L at a1 a2 a3 a4 ⊢
  obtain ⟨es1, t1, wd, gv⟩ := L
  dsimp only at a1 a2 a3 a4 ⊢
  rw [Array.toList_push] at a1
  have el1 : ElemsOf (mixKind P w) es1.toList := fun e he => by
    rcases List.mem_append.mp (a1.mem_iff.mp he) with he | he
    · exact f1 e he
    · rw [List.mem_singleton.mp he]
      exact ⟨⟨k, hv, rfl⟩, scan_key hv⟩
  have pm1 : (es1.toList.map fun e => kOf e.2).Perm (k :: ks) := by
    refine (a1.map _).trans ?_
    rw [List.map_append, List.map_cons, List.map_nil, kOf_is hv]
    exact (List.perm_append_singleton _ _).trans (List.Perm.cons _ f2)
  have z : ∀ t2 : SetTable, t2.fits es1.size = true → Ris t2.place.toList → t2.led = t.led → KsOk P w (tailTx ep es1 t2 wd) (k :: ks) := fun t2 b1 b2 b3 => by
    unfold tailTx
    split
    · have c1 := relayAll_perm t2 es1 (SetTable.grown es1.size)
      have c2 := relayAll_fits t2 es1 (SetTable.grown es1.size)
      have c3 := relayAll_ris t2 es1 (SetTable.grown es1.size)
      have c4 := relayAll_led t2 es1 (SetTable.grown es1.size)
      exact ⟨fun e he => el1 e (c1.mem_iff.mp he), (c1.map _).trans pm1, c2, c3, f5.imp id fun y => c4.trans (b3.trans y)⟩
    · exact ⟨el1, pm1, b1, b2, f5.imp id fun y => b3.trans y⟩
  split
  · split
    · exact z _ a2 a3 a4
    · exact z _ (SetTable.fits_plain_off a2) a3 a4
  · exact z _ a2 a3 a4
variable {a : Addr} {Q : Bool → Shared → Prop}
/-- a key put to a set -/
theorem add_key (hv : keyIs k v = true) (ho : s.heap.get? a = some (sObj "set" D)) (F : KsOk P w D ks) (room : ks.length + 1 < scanBound) (old : k ∈ ks → Q false s)
    (new : k ∉ ks → Q true { s with heap := s.heap.update a (fun _ => sObj "set" (addKx (keyH w k) v D)) }) : wpAny (model P w) A (setAddHashed a v (keyH w k)) Q E s := by
  have sz := F.size
  have hm := F.has k
  obtain ⟨es, ep, t⟩ := D
  have d0 : (sObj "set" (es, ep, t)).data = .set es ep t := rfl
  have el : ElemsOf (mixKind P w) es.toList := F.el
  have ft : t.fits es.size = true := F.fit
  have sz' : es.size = ks.length := sz
  have b0 : es.size < scanBound := by omega
  have told : ∀ (b : Bool) {s1 : Shared} {Z : Unit → Shared → Prop}, Z () s1 → wpAny (model P w) A (match b with | true => rule "set.scan.the-table-gave-way" | false => pure ()) Z E s1 := by
    intro b s1 Z z
    cases b
    · exact wpAny_pure z
    · exact wpAny_rule z
  unfold setAddHashed setAddHashedIn
  apply wpAny_holding
  apply wpAny_bind
  apply wpAny_setState_of ho d0 ft
  dsimp only
  rw [byScan_of (scan_key hv) b0 el]
  simp only [↓reduceIte]
  unfold setAddByScan
  apply wpAny_bind
  apply wpAny_bind
  apply wpAny_rule
  apply wpAny_bind
  apply wpAny_setScan_of (knd := mixKind P w) (k := k) hv ho d0 ft el
  cases q : List.findIdx? (fun e => (mixKind P w).is k e.2) es.toList with
  | some j =>
    obtain ⟨hj, pj, _⟩ := List.findIdx?_eq_some_iff_getElem.mp q
    dsimp only
    apply wpAny_pure
    apply wpAny_pure
    exact old (hm.mp ⟨es.toList[j], List.getElem_mem hj, pj⟩)
  | none =>
    have nk : k ∉ ks := fun z => by
      obtain ⟨e, he, pe⟩ := hm.mpr z
      have c := List.findIdx?_eq_none_iff.mp q e he
      have pe : (mixKind P w).is k e.2 = true := pe
      rw [pe] at c
      cases c
    have fin := new nk
    have pm := layNew_perm t es (keyH w k) v
    unfold addKx at fin
    dsimp only at fin ⊢
    generalize layNew t es (keyH w k) v = L at pm fin ⊢
    obtain ⟨es1, t1, wd, gv⟩ := L
    dsimp only at pm fin ⊢
    have b1 : es1.size < scanBound := by
      have e := pm.length_eq
      rw [Array.toList_push, List.length_append, Array.length_toList, Array.length_toList, List.length_singleton] at e
      omega
    apply wpAny_bind
    apply told
    by_cases pl : t1.plain = true
    · rw [if_pos pl] at fin ⊢
      apply wpAny_bind
      rw [hashByValue_scannable 8 (scan_key hv)]
      apply wpAny_pure
      refine addTail_x (fun b s1 Z z => ?_) ho b1 ?_
      · cases b
        · exact wpAny_pure z
        · exact wpAny_rule z
      · exact wpAny_pure fin
    · rw [if_neg pl] at fin ⊢
      apply wpAny_bind
      apply wpAny_pure
      simp only [↓reduceIte]
      refine addTail_x (fun b s1 Z z => ?_) ho b1 ?_
      · cases b
        · exact wpAny_pure z
        · exact wpAny_rule z
      · exact wpAny_pure fin
end
/-- the keys of a list, each once -/
def memK (k : Key) (l : List Key) : Bool := l.any fun j => decide (j = k)
theorem memK_iff {k : Key} {l : List Key} : memK k l = true ↔ k ∈ l := by
  unfold memK
  rw [List.any_eq_true]
  constructor
  · rintro ⟨j, hj, e⟩
    rw [← of_decide_eq_true e]
    exact hj
  · exact fun h => ⟨k, h, decide_eq_true rfl⟩
def ddS (acc : List Key) (k : Key) : List Key := if memK k acc = true then acc else k :: acc
def ddK (ks : List Key) : List Key := ks.foldl ddS []
theorem ddK_snoc (ks : List Key) (k : Key) : ddK (ks ++ [k]) = ddS (ddK ks) k := by
  unfold ddK
  rw [List.foldl_append]
  rfl
theorem ddS_facts (acc : List Key) (k : Key) (h : acc.Nodup) : (ddS acc k).Nodup ∧ (∀ j, j ∈ ddS acc k ↔ j ∈ acc ∨ j = k) ∧ (ddS acc k).length ≤ acc.length + 1 := by
  unfold ddS
  split
  · rename_i c
    refine ⟨h, fun j => ⟨Or.inl, fun z => z.elim id fun e => by rw [e]; exact memK_iff.mp c⟩, by omega⟩
  · rename_i c
    refine ⟨List.nodup_cons.mpr ⟨fun z => c (memK_iff.mpr z), h⟩, fun j => ?_, by rw [List.length_cons]; omega⟩
    rw [List.mem_cons]
    exact Or.comm
theorem ddF_facts : ∀ (ks acc : List Key), acc.Nodup → (ks.foldl ddS acc).Nodup ∧ (∀ j, j ∈ ks.foldl ddS acc ↔ j ∈ acc ∨ j ∈ ks) ∧ (ks.foldl ddS acc).length ≤ acc.length + ks.length
  | [], acc, h => ⟨h, fun j => by simp, Nat.le_refl _⟩
  | k :: ks, acc, h => by
    obtain ⟨a1, a2, a3⟩ := ddS_facts acc k h
    obtain ⟨b1, b2, b3⟩ := ddF_facts ks _ a1
    refine ⟨b1, fun j => ?_, ?_⟩
    · rw [List.foldl_cons, b2, a2, List.mem_cons, or_assoc]
    · rw [List.foldl_cons, List.length_cons]
      omega
theorem ddK_facts (ks : List Key) : (ddK ks).Nodup ∧ (∀ k, k ∈ ddK ks ↔ k ∈ ks) ∧ (ddK ks).length ≤ ks.length := by
  obtain ⟨h1, h2, h3⟩ := ddF_facts ks [] List.nodup_nil
  exact ⟨h1, fun k => (h2 k).trans ⟨fun z => z.elim (fun y => by cases y) id, Or.inr⟩, by rw [List.length_nil, Nat.zero_add] at h3; exact h3⟩
/-! ### the walk that puts all items to the set -/
section
variable {P : Program} {w : World} {A : Around} {E : Value → Shared → Prop} {s : Shared}
theorem upd_keys {I : Addr} {fp wr : List Addr} {G : Array GenState → Array GenState → Prop} {n : Nat} {Pv : Nat → Value → Prop} {St : Nat → Shared → Prop} {R : Result → Shared → Prop}
    (W : WalksS P w A.in1 I fp wr G n Pv St) {a : Addr} (ha : a ∉ fp) {ks : List Key} (len : ks.length = n) (room : n + 1 < scanBound) (hv : ∀ i v, Pv i v → ∃ k, ks[i]? = some k ∧ keyIs k v = true) :
    ∀ (m i : Nat) (s : Shared) (D : SD), i + m = n → St i s → s.heap.get? a = some (sObj "set" D) → KsOk P w D (ddK (ks.take i)) →
      (∀ s' D', Moved (a :: wr) G s s' → s'.heap.get? a = some (sObj "set" D') → KsOk P w D' (ddK ks) → R (.ok (.ret .none)) s') →
      codeAny (model P w) A (.builtin "set.update.loop" ⟨[.ref a, .ref I], []⟩) R s := by
  have aw : a ∉ wr := fun z => ha (W.sub _ z)
  have more : ∀ {s1 s2 : Shared}, Moved wr G s1 s2 → Moved (a :: wr) G s1 s2 := fun m => m.mono fun b hb => List.mem_cons_of_mem _ hb
  intro m
  induction m with
  | zero =>
    intro i s D e st ho F fin
    have ei : i = n := by omega
    subst ei
    apply codeAny_builtin PyProof.Rows.F.entry_set_update_loop
    rw [Around.under_plainId PyProof.Rows.F.plain_set_update_loop _]
    show wpAny _ A.in1 (pyNext (.ref I) >>= _) _ _ s
    apply wpAny_bind
    apply W.done s _ _ st
    intro s' mv
    rw [List.take_of_length_le (by omega)] at F
    exact wpAny_pure (fin s' D (more mv) (mv.heap a _ aw ho) F)
  | succ m ih =>
    intro i s D e st ho F fin
    apply codeAny_builtin PyProof.Rows.F.entry_set_update_loop
    rw [Around.under_plainId PyProof.Rows.F.plain_set_update_loop _]
    show wpAny _ A.in1 (pyNext (.ref I) >>= _) _ _ s
    apply wpAny_bind
    apply W.item i s _ _ (by omega) st
    intro v s' pv st' mv
    obtain ⟨k, hk, kv⟩ := hv i v pv
    have ho' := mv.heap a _ aw ho
    show wpAny _ A.in1 (holding [v] (setAdd a v) >>= _) _ _ s'
    apply wpAny_bind
    apply wpAny_holding
    unfold setAdd
    apply wpAny_holding
    apply wpAny_bind
    apply (mixKind P w).pyHash (k := k) kv
    have dd : ddK (ks.take (i + 1)) = ddS (ddK (ks.take i)) k := by
      rw [List.take_add_one, hk]
      exact ddK_snoc _ _
    have dl := (ddK_facts (ks.take i)).2.2
    rw [List.length_take] at dl
    have go : ∀ (D' : SD) (h' : Heap), h'.get? a = some (sObj "set" D') → KsOk P w D' (ddK (ks.take (i + 1))) → (∀ b o, b ≠ a → s'.heap.get? b = some o → h'.get? b = some o) →
        codeAny (model P w) A (.builtin "set.update.loop" ⟨[.ref a, .ref I], []⟩) R { s' with heap := h', toks := s'.toks + 1 } := fun D' h' o' F' kp => by
      refine ih (i + 1) _ D' (by omega) (W.frame _ s' _ _ st' (Nat.le_succ _) fun b hb o z => kp b o (fun y => ha (y ▸ hb)) z) o' F' fun s2 D2 m2 o2 F2 => ?_
      refine fin s2 D2 (Moved.trans W.gtrans ((more mv).then_heap (Nat.le_succ _) fun b o hb z => ?_) m2) o2 F2
      exact kp b o (fun y => hb (by rw [y]; exact List.mem_cons_self)) z
    refine add_key (P := P) (w := w) (s := { s' with toks := s'.toks + 1 }) kv ho' F (by omega) (fun old => ?_) fun new => ?_
    · refine wpAny_pure ⟨plainId_quiet PyProof.Rows.F.plain_set_update_loop _, go D _ ho' ?_ fun _ _ _ z => z⟩
      rw [dd]
      unfold ddS
      rw [if_pos (memK_iff.mpr old)]
      exact F
    · refine wpAny_pure ⟨plainId_quiet PyProof.Rows.F.plain_set_update_loop _, go _ _ (get_upd _ ho' rfl) ?_ fun b o hb z => ?_⟩
      · rw [dd]
        unfold ddS
        rw [if_neg fun z => new (memK_iff.mp z)]
        exact F.cons kv
      · exact (Heap.get?_update_ne _ _ _ _ hb).trans z
end
end DL

/-! set(xs), the call: xs a list, a tuple. -/
noncomputable section
namespace DL
open PySem PySem.Spec PyProof.Rows L2 PySem.Froz
/-- the set as it is made -/
abbrev newS (w : World) : Obj := sObj "set" (#[], 0, .fresh 0 0 (!w.params.followText "set-order"))
section
variable {P : Program} {w : World} {A : Around} {E : Value → Shared → Prop} {s : Shared}
set_option maxHeartbeats 3200000 in
theorem set_of_list {l : Addr} {its : Array Value} {ks : List Key} {Q : Value → Shared → Prop} (calm : A.handled = none) (hl : s.heap.IsList l its) (hv : ∀ (i : Nat) (v : Value), its[i]? = some v → ∃ k, ks[i]? = some k ∧ keyIs k v = true) (len : ks.length = its.size) (room : its.size + 1 < scanBound)
    (fin : ∀ (h' : Heap) (tk : Nat) (D : SD), h'.get? s.heap.objs.size = some (sObj "set" D) → KsOk P w D (ddK ks) → (∀ b o, s.heap.get? b = some o → h'.get? b = some o) → Q (.ref s.heap.objs.size) { s with heap := h', toks := tk }) :
    wpAny (model P w) A (call (.type "set") [.ref l]) Q E s := by
  obtain ⟨_, _, mro⟩ := PySem.F.called_set.mro
  have c1 := PySem.F.called_set.made
  have c2 := PySem.F.called_set.sub
  apply wpAny_call
  apply codeAny_of_tree
  show wpAny _ _ (callAny (.type "set") _) _ _ _
  apply wpAny_pure
  refine ⟨Code.quiet_builtin _ (by decide +kernel), ?_⟩
  apply codeAny_builtin PySem.F.entry_type_call
  rw [Around.under_plain (weight_type_call_type "set" [.ref l] []) rfl]
  have c3 := PySem.F.called_set.notType
  have c4 := PySem.F.called_set.canCreate
  have c5 := PySem.F.typeCall_set_1 (.ref l)
  repeat any_goals first | assumption | wp_step
  have h0 : (s.heap.push (newS w)).get? s.heap.objs.size = some (newS w) := Heap.get?_push_size _ rfl
  refine codeAny_mono (code_set_led1 (.ref l) (E := E) (Q₁ := fun u s1 => u = .ref s.heap.objs.size ∧ s1 = { s with heap := s.heap.push (newS w) }) ⟨rfl, rfl⟩) fun r s1 got => ?_
  match r, got with
  | .error e, got => exact got
  | .ok .next, got => exact got.elim
  | .ok .brk, got => exact got.elim
  | .ok .cont, got => exact got.elim
  | .ok (.ret u), ⟨eu, es⟩ =>
    subst eu
    subst es
    have ty : Shared.TypeIs { s with heap := s.heap.push (newS w) } (.ref s.heap.objs.size) "set" := ⟨_, h0, rfl⟩
    have c6 := PySem.F.called_set.init.lookup
    have c7 := PySem.F.called_set.init.bind (.ref s.heap.objs.size)
    repeat any_goals first | assumption | wp_step
    refine codeAny_mono (codeAny_call_builtin (R := wants (fun r s2 => r = .none ∧ ∃ h' tk D, s2 = { s with heap := h', toks := tk } ∧ h'.get? s.heap.objs.size = some (sObj "set" D) ∧ KsOk P w D (ddK ks) ∧ ∀ b o, s.heap.get? b = some o → h'.get? b = some o) E)
      PySem.F.called_set.init.plain PySem.F.entry_set_init (check_set_init_1 ty ?_)) fun r2 s2 got2 => ?_
    · obtain ⟨⟨cls, dct, dat, slt⟩, ol, ec, nl, ed⟩ := hl
      simp only at ec ed
      subst ec
      subst ed
      have ol' : (s.heap.push (newS w)).get? l = some { cls := .type "list", dict := dct, data := .seq its nl, slots := slt } := Heap.get?_push_of_some _ ol
      have c8 := PySem.F.sub_list_set
      have c9 := PySem.F.sub_list_frozenset
      have c10 : (Value.type "list" == Value.type "dict") = false := by decide
      have hl' : (s.heap.push (newS w)).IsList l its := ⟨_, ol', rfl, nl, rfl⟩
      unfold Builtin.«set.__init__» noKeywords Builtin.Frozenset.updateFrom
      generalize ei : pyIter = IT
      wp_walk
      subst ei
      refine wpAny_pyIter_list hl' (wpAny_bind (wpAny_runValue ?_))
      have ls : l < s.heap.objs.size := Heap.lt_size ol
      have sz : (s.heap.push (newS w)).objs.size = s.heap.objs.size + 1 := Heap.size_push ..
      have calm3 : A.in1.in1.in1.handled = none := by simp [calm]
      have apart : l ≠ (s.heap.push (newS w)).objs.size := by
        rw [sz]
        exact Nat.ne_of_lt (Nat.lt_succ_of_lt ls)
      have off : s.heap.objs.size ∉ [(s.heap.push (newS w)).objs.size, l] := by
        rw [sz]
        simp only [List.mem_cons, List.not_mem_nil, or_false, not_or]
        exact ⟨Nat.ne_of_lt (Nat.lt_succ_self _), Nat.ne_of_gt ls⟩
      refine upd_keys ((Walks.list calm3 _ l apart its).toS) off (ks := ks) len room hv its.size 0 _ _ (by omega) ⟨⟨_, Heap.get?_push_size _ rfl, rfl, rfl⟩, hl'.push _⟩ (Heap.get?_push_of_some _ h0) (KsOk.start w) ?_
      intro s3 D3 mv o3 F3
      obtain ⟨h3, g3, d3, t3, os3⟩ := s3
      have e1 : g3 = s.gens := mv.gens
      have e2 : d3 = s.drawn := mv.drawn
      have e3 : os3 = s.os := mv.os
      subst e1 e2 e3
      show wpAny _ _ _ _ _ _
      apply wpAny_pure
      show wpAny _ _ (ret Value.none) _ _ _
      refine wpAny_pure ⟨rfl, h3, t3, D3, rfl, o3, F3, fun b o z => ?_⟩
      have lt : b < s.heap.objs.size := Heap.lt_size z
      refine mv.heap b o ?_ (Heap.get?_push_of_some _ (Heap.get?_push_of_some _ z))
      rw [sz]
      simp only [List.mem_cons, List.not_mem_nil, or_false, not_or]
      exact ⟨Nat.ne_of_lt lt, Nat.ne_of_lt (Nat.lt_succ_of_lt lt)⟩
    · match r2, got2 with
      | .error e, got2 => exact got2
      | .ok .next, got2 => exact got2.elim
      | .ok .brk, got2 => exact got2.elim
      | .ok .cont, got2 => exact got2.elim
      | .ok (.ret u), ⟨eu, h', tk, D, es, o', F', kp⟩ =>
        subst eu
        subst es
        repeat any_goals first | assumption | wp_step
        exact fin _ _ _ o' F' kp
end
end DL

/-! sorted(set(xs)), len(set(xs)), xs a list of numbers or of texts. -/
noncomputable section
namespace DL
open PySem PySem.Spec PyProof.Rows L2 PySem.Froz
open PySem.W (EachIs AllAlike Sortable dataLe alike)
def keyD : D → Option Key
  | .int i => some (.inl i)
  | .str x => some (.inr x)
  | _ => none
def keysD : List D → Option (List Key)
  | [] => some []
  | d :: ds => match keyD d, keysD ds with
    | some k, some ks => some (k :: ks)
    | _, _ => none
/-- the members of a list, each once -/
def setD (ds : List D) : Option (List D) := match keysD ds with
  | some ks => some ((ddK ks).map kD)
  | none => none
theorem keyD_kD {d : D} {k : Key} (h : keyD d = some k) : d = kD k := by
  cases d <;> cases h <;> rfl
theorem keysD_map : ∀ {ds : List D} {ks : List Key}, keysD ds = some ks → ds = ks.map kD
  | [], _, h => by cases h; rfl
  | d :: ds, ks, h => by
    unfold keysD at h
    split at h
    · rename_i k ks' e1 e2
      cases h
      rw [keyD_kD e1, keysD_map e2]
      rfl
    · cases h
theorem kD_keysD : ∀ ks : List Key, keysD (ks.map kD) = some ks
  | [] => rfl
  | k :: ks => by
    have e : keyD (kD k) = some k := by cases k <;> rfl
    rw [List.map_cons, keysD, e, kD_keysD ks]
section
variable {X : Cx} {pins : List (Addr × Obj)} {σ : L2.St} {H : Hp} {s : Shared}
theorem keys_vals : ∀ {ks : List Key} {us : List Value}, Vals (ks.map kV) us → us.length = ks.length ∧ ∀ (i : Nat) (v : Value), us[i]? = some v → ∃ k, ks[i]? = some k ∧ keyIs k v = true
  | [], _, h => by cases h; exact ⟨rfl, fun i v e => by simp at e⟩
  | k :: ks, _, h => by
    cases h with
    | cons r t =>
      obtain ⟨h1, h2⟩ := keys_vals t
      refine ⟨by rw [List.length_cons, List.length_cons, h1], fun i v e => ?_⟩
      cases i with
      | zero =>
        simp at e
        subst e
        refine ⟨k, rfl, ?_⟩
        cases k with
        | inl i => obtain ⟨t, rfl⟩ := r; exact keyIs_int i t
        | inr x => obtain ⟨t, rfl⟩ := r; exact keyIs_str x t
      | succ i =>
        obtain ⟨k', e1, e2⟩ := h2 i v (by simpa using e)
        exact ⟨k', by simpa using e1, e2⟩
end
/-! ### the one sorted list of keys -/
abbrev srtK (ks : List Key) : List Key := ks.mergeSort (dataLe false kD)
theorem uniq_sorted {α : Type} {le : α → α → Bool} : ∀ {l m : List α}, (∀ a ∈ l, ∀ b ∈ l, le a b = true → le b a = true → a = b) → l.Pairwise (fun a b => le a b = true) → m.Pairwise (fun a b => le a b = true) → l.Perm m → l = m
  | [], m, _, _, _, p => (List.Perm.eq_nil p.symm).symm
  | a :: l, [], _, _, _, p => absurd p.length_eq (by simp)
  | a :: l, b :: m, an, s1, s2, p => by
    obtain ⟨x1, y1⟩ := List.pairwise_cons.mp s1
    obtain ⟨x2, y2⟩ := List.pairwise_cons.mp s2
    have e : a = b := by
      have ma : a ∈ b :: m := p.mem_iff.mp List.mem_cons_self
      have mb : b ∈ a :: l := p.mem_iff.mpr List.mem_cons_self
      rcases List.mem_cons.mp ma with e | ma
      · exact e
      · rcases List.mem_cons.mp mb with e | mb
        · exact e.symm
        · exact an a List.mem_cons_self b (List.mem_cons_of_mem _ mb) (x1 b mb) (x2 a ma)
    subst e
    rw [uniq_sorted (fun c hc d hd => an c (List.mem_cons_of_mem _ hc) d (List.mem_cons_of_mem _ hd)) y1 y2 p.cons_inv]
theorem le_anti : ∀ {a b : Key}, alike (kD a) (kD b) = true → dataLe false kD a b = true → dataLe false kD b a = true → a = b
  | .inl i, .inl j, _, h1, h2 => by
    rw [PySem.W.dataLe_eq] at h1 h2
    simp only [cond_false, kD, PySem.W.dataLt_int, Bool.not_eq_true', decide_eq_false_iff_not] at h1 h2
    rw [show i = j by omega]
  | .inr x, .inr y, _, h1, h2 => by
    rw [PySem.W.dataLe_eq] at h1 h2
    simp only [cond_false, kD, PySem.W.dataLt_str, Bool.not_eq_true', decide_eq_false_iff_not] at h1 h2
    have e : x.cps.toList = y.cps.toList := List.le_antisymm h1 h2
    rw [PySem.W.str_of_cps e]
  | .inl i, .inr y, h, _, _ => by cases h
  | .inr x, .inl j, h, _, _ => by cases h
theorem srtK_perm {ks js : List Key} (p : ks.Perm js) (al : AllAlike (ks.map kD)) : srtK ks = srtK js := by
  refine uniq_sorted (le := dataLe false kD) (fun a ha b hb => le_anti (al _ ?_ _ ?_)) (PySem.W.sort_pairwise (PySem.W.sortLe_total _ _ _) _) (PySem.W.sort_pairwise (PySem.W.sortLe_total _ _ _) _) ((List.mergeSort_perm _ _).trans (p.trans (List.mergeSort_perm _ _).symm))
  · exact List.mem_map.mpr ⟨a, (List.mergeSort_perm _ _).mem_iff.mp ha, rfl⟩
  · exact List.mem_map.mpr ⟨b, (List.mergeSort_perm _ _).mem_iff.mp hb, rfl⟩
theorem perm_fit {ks js : List Key} (p : ks.Perm js) (hc : canSort (ks.map kD) = true) : canSort (js.map kD) = true := by
  have m : ∀ d, d ∈ js.map kD ↔ d ∈ ks.map kD := fun d => (p.symm.map kD).mem_iff
  unfold canSort at hc ⊢
  simp only [Bool.and_eq_true, Bool.or_eq_true, List.all_eq_true, decide_eq_true_eq] at hc ⊢
  obtain ⟨⟨⟨h1, h2⟩, h3⟩, _⟩ := hc
  refine ⟨⟨⟨fun d hd e he => h1 d ((m d).mp hd) e ((m e).mp he), h2.imp (fun z d hd => z d ((m d).mp hd)) fun z d hd => z d ((m d).mp hd)⟩, fun d hd => h3 d ((m d).mp hd)⟩, ?_⟩
  clear m h1 h2 h3 p
  induction js with
  | nil => rfl
  | cons j js ih => cases j <;> exact ih
theorem keys_rel : ∀ {us : List Value} {ks : List Key}, EachIs (fun u k => keyIs k u = true) us ks → Vals (ks.map kV) us
  | _, _, .nil => .nil
  | _, _, .cons (b := k) r t => by
    refine .cons ?_ (keys_rel t)
    rcases keyIs_shape r with ⟨i, t, rfl, rfl⟩ | ⟨x, t, rfl, rfl⟩ <;> exact ⟨_, rfl⟩
theorem keys_each : ∀ {us : List Value}, (∀ u ∈ us, keyIs (kOf u) u = true) → EachIs (fun u k => keyIs k u = true) us (us.map kOf)
  | [], _ => .nil
  | u :: us, h => .cons (h u List.mem_cons_self) (keys_each fun v m => h v (List.mem_cons_of_mem _ m))
theorem keys_reads {h : Heap} {a : Addr} : ∀ {us : List Value}, (∀ u ∈ us, keyIs (kOf u) u = true) → EachIs (fun u k => ∃ as, Reads h u (kD k) as ∧ a ∉ as) us (us.map kOf)
  | [], _ => .nil
  | u :: us, q => by
    refine .cons ?_ (keys_reads fun v m => q v (List.mem_cons_of_mem _ m))
    have z := q u List.mem_cons_self
    rcases keyIs_shape z with ⟨i, t, e1, e2⟩ | ⟨x, t, e1, e2⟩
    · rw [e1, e2]; exact ⟨[], Reads.int i t, by simp⟩
    · rw [e1, e2]; exact ⟨[], Reads.str x t, by simp⟩
section
variable {P : Program} {w : World} {A : Around} {E : Value → Shared → Prop} {s : Shared}
theorem sorted_keys {a : Addr} {D : SD} {ks : List Key} {Q : Value → Shared → Prop} (calm : A.handled = none) (ho : s.heap.get? a = some (sObj "set" D)) (F : KsOk P w D ks) (few : ks.length ≤ 1000) (hc : canSort (ks.map kD) = true) (hu : A.units + 64 < cLine)
    (fin : ∀ s' p n (out : List Value), (∀ b o, s.heap.get? b = some o → s'.heap.get? b = some o) → s'.gens = s.gens → s'.os = s.os → s.heap.objs.size ≤ p → s'.heap.get? p = some (seqObj "list" out.toArray n) → Vals ((srtK ks).map kV) out → Q (.ref p) s') :
    wpAny (model P w) A (call (.builtin "sorted") [.ref a]) Q E s := by
  have sz := F.size
  obtain ⟨es, ep, t⟩ := D
  have sz : es.size = ks.length := sz
  obtain ⟨f1, f2, f3, f4, f5⟩ := F
  apply Calls.call_function_entry kind_sorted plain_sorted entry_sorted (args_sorted1 _)
  unfold Builtin.«sorted»
  apply wpAny_bind (m := checkCount "sorted" 1 1 _)
  apply wpAny_pure
  apply wpAny_bind
  refine collect_set (A := A.in1) calm ⟨_, ho, rfl, rfl⟩ f3 (by unfold scanBound; omega) f4 f5 fun s1 vs kp hz g1 o1 pm => ?_
  have good : ∀ u ∈ vs, keyIs (kOf u) u = true := fun u hu => by
    obtain ⟨e, he, q⟩ := List.mem_map.mp (pm.mem_iff.mp hu)
    obtain ⟨⟨k, q2, _⟩, _⟩ := f1 e he
    rw [← q]
    have q2 : keyIs k e.2 = true := q2
    rw [kOf_is q2]
    exact q2
  have pk : (vs.map kOf).Perm ks := by
    have q := pm.map kOf
    rw [List.map_map] at q
    exact q.trans f2
  have lv : vs.length ≤ sizeLine := by
    have := pk.length_eq
    rw [List.length_map] at this
    rw [sizeLine_eq]
    omega
  apply wpAny_bind
  refine wpAny_newList ?_ lv
  have ol : (s1.heap.push (seqObj "list" vs.toArray 0)).get? s1.heap.objs.size = some (seqObj "list" vs.toArray 0) := Heap.get?_push_size _ rfl
  have c2 := perm_fit pk.symm hc
  obtain ⟨k1, k2, k3, _⟩ := canSort_ok c2
  apply wpAny_bind
  apply wpAny_holding
  refine PySem.W.list_sort_data (enc := kD) (R := fun u k => keyIs k u = true) (s := { s1 with heap := s1.heap.push (seqObj "list" vs.toArray 0) }) ol (keys_each good) (keys_reads good) k1 k2 (by rw [List.length_map]; exact lv) (fun k hk => ?_) fun out lo eo => ?_
  · have := k3 (kD k) (List.mem_map.mpr ⟨k, hk, rfl⟩)
    show A.in1.units + 1 + (kD k).depth < cLine
    have e : A.in1.units ≤ A.units + 1 := by
      first | exact Nat.le_refl _ | simp [Around.in1] | omega
    omega
  · obtain ⟨n, top⟩ := sortedHeap_at (vs := vs) (out := out.toArray) ol
    apply wpAny_pure
    refine ⟨_, rfl, fin _ s1.heap.objs.size n out (fun b u e => ?_) g1 o1 hz top ?_⟩
    · have lt := Heap.lt_size (kp b u e)
      show (sortedHeap (s1.heap.push (seqObj "list" vs.toArray 0)) s1.heap.objs.size vs out.toArray).get? b = some u
      rw [sortedHeap_old (Nat.ne_of_lt lt) (by rw [Heap.size_push]; exact Nat.lt_succ_of_lt lt)]
      exact Heap.get?_push_of_some _ (kp b u e)
    · rw [← srtK_perm pk k1]
      exact keys_rel eo
end
end DL

/-! sorted(set(xs)), len(set(xs)) as expressions. -/
namespace DL
open PySem PySem.Spec PyProof.Rows L2 PySem.Froz
def tSortSet (K : PySem.W.Frag) (ta : TE) : TE := fun σ H Q => ta σ H fun x H1 => ∃ (l : Addr) (ks : List Key), x = .ref l ∧ SqL K H1 l (ks.map kV) ∧ ks.length ≤ 1000 ∧ canSort ((ddK ks).map kD) = true ∧
  ∀ p : Addr, H1 p = none → Q (.ref p) (upd H1 p (.lst ((srtK (ddK ks)).map kV)))
def tLenSet (K : PySem.W.Frag) (ta : TE) : TE := fun σ H Q => ta σ H fun x H1 => ∃ (l : Addr) (ks : List Key), x = .ref l ∧ SqL K H1 l (ks.map kV) ∧ ks.length ≤ 1000 ∧ Q (.int (ddK ks).length) H1
section
variable {X : Cx} {a : Expr} {ta : TE} {p p2 q pos : Pos}
theorem kids {ks : List Key} {its : List Value} (r : Vals (ks.map kV) its) : ks.length = its.toArray.size ∧ ∀ (i : Nat) (v : Value), its.toArray[i]? = some v → ∃ k, ks[i]? = some k ∧ keyIs k v = true := by
  obtain ⟨h1, h2⟩ := keys_vals r
  refine ⟨by rw [List.size_toArray, h1], fun i v e => h2 i v ?_⟩
  rw [List.getElem?_toArray] at e
  exact e
theorem pe_sortSet (hg : Gl X "sorted") (hm : X.mg "sorted" = none) (hg2 : Gl X "set") (hm2 : X.mg "set" = none) (hu : X.A.units + 64 < cLine) (ha : PE X a ta) (hc : X.calm = true := by rfl) (na : starEach [a] X.env = (false, eval a X.env) :: starEach [] X.env := by rfl) :
    PE X (.Call (.Name "sorted" p) [.Call (.Name "set" p2) [a] [] q] [] pos) (tSortSet X.K ta) := by
  constructor
  intro pins s σ H Q I h
  have b1 : bootBuiltins "sorted" = some (.builtin "sorted") := by decide +kernel
  apply Call_ (ld_blt I hg hm b1 _)
  apply PyProof.Rows.callWith_builtin1 (PyProof.Rows.args_cons _ rfl) rfl rfl
  apply Call_ (ld_blt I hg2 hm2 boot_set _)
  refine PyProof.Rows.callWith_type1 (PyProof.Rows.args_cons (thn (ha.run pins s σ H _ I h) fun v s1 ⟨x, H1, I1, r1, q1⟩ => PyProof.Rows.args_nil ?_) na) na rfl
  obtain ⟨l, ks, rfl, hq, few, cs, fin⟩ := q1
  cases r1
  obtain ⟨its, r, pl, _⟩ := I1.list hq
  obtain ⟨z1, z2⟩ := kids r
  have hd := I1.ok.hd hc
  refine set_of_list hd pl.isList z2 z1 (by unfold scanBound; omega) fun h' tk D o F kp => ?_
  apply PyProof.Rows.args_nil
  have d3 := (ddK_facts ks).2.2
  refine sorted_keys (s := { s1 with heap := h', toks := tk }) hd o F (by omega) cs hu fun s2 p0 n out kp2 g2 o2 hp top rel => ?_
  have ka : ∀ b u, s1.heap.get? b = some u → s2.heap.get? b = some u := fun b u e => kp2 b u (kp b u e)
  have hp2 : s1.heap.objs.size ≤ p0 := Nat.le_trans (Nat.le_of_lt (Heap.lt_size o)) hp
  have fr : H1 p0 = none := I1.hok.fresh hp2
  have sz : ((srtK (ddK ks)).map kV).length ≤ sizeLine := by
    rw [List.length_map, (List.mergeSort_perm _ _).length_eq, sizeLine_eq]
    omega
  exact ⟨.ref p0, upd H1 p0 (.lst ((srtK (ddK ks)).map kV)), I1.call' (ch := []) o2 (Un.laid ka hp2 fr) (I1.hok.laid ka hp2 ⟨sz, out, n, rel, top⟩) (by rw [g2]; exact I1.bare) (fun _ z => nomatch z), rfl, fin p0 fr⟩
theorem pe_lenSet (hg : Gl X "len") (hm : X.mg "len" = none) (hg2 : Gl X "set") (hm2 : X.mg "set" = none) (ha : PE X a ta) (hc : X.calm = true := by rfl) (na : starEach [a] X.env = (false, eval a X.env) :: starEach [] X.env := by rfl) :
    PE X (.Call (.Name "len" p) [.Call (.Name "set" p2) [a] [] q] [] pos) (tLenSet X.K ta) := by
  constructor
  intro pins s σ H Q I h
  apply Call_ (ld_blt I hg hm boot_len _)
  apply PyProof.Rows.callWith_builtin1 (PyProof.Rows.args_cons _ rfl) rfl rfl
  apply Call_ (ld_blt I hg2 hm2 boot_set _)
  refine PyProof.Rows.callWith_type1 (PyProof.Rows.args_cons (thn (ha.run pins s σ H _ I h) fun v s1 ⟨x, H1, I1, r1, q1⟩ => PyProof.Rows.args_nil ?_) na) na rfl
  obtain ⟨l, ks, rfl, hq, few, fin⟩ := q1
  cases r1
  obtain ⟨its, r, pl, _⟩ := I1.list hq
  obtain ⟨z1, z2⟩ := kids r
  refine set_of_list (I1.ok.hd hc) pl.isList z2 z1 (by unfold scanBound; omega) fun h' tk D o F kp => ?_
  apply PyProof.Rows.args_nil
  have d3 := (ddK_facts ks).2.2
  have sz := F.size
  have I2 : Inv X pins σ H1 { s1 with heap := h', toks := tk } := I1.kept kp
  refine call_len_set o ⟨rfl, rfl, rfl⟩ rfl F.fit (by rw [sz]; omega) ?_
  exact ⟨.int (ddK ks).length, H1, I2.tok _, ⟨_, by rw [sz]⟩, fin⟩
end
/-- sorted(set(x)), len(set(x)) -/
def dSortSet : Op1 := fun x μ => match items x μ with
  | some bs => match allD bs with
    | some ds => match keysD ds with
      | some ks => if decide (ks.length ≤ 1000) && canSort ((ddK ks).map kD) then .ok (.d (.list ((srtK (ddK ks)).map kD))) μ else .bad
      | none => .bad
    | none => .bad
  | none => .bad
def dLenSet : Op1 := fun x μ => match items x μ with
  | some bs => match allD bs with
    | some ds => match keysD ds with
      | some ks => if ks.length ≤ 1000 then .ok (.d (.int (ddK ks).length)) μ else .bad
      | none => .bad
    | none => .bad
  | none => .bad
theorem RpA_keys {K : PySem.W.Frag} {I : Hp} : ∀ {ks : List Key} {vs : List V}, RpA K I vs (ks.map kD) → vs = ks.map kV
  | [], _, h => by cases h; rfl
  | k :: ks, _, h => by
    cases h with
    | cons r t =>
      rw [RpA_keys t]
      cases k <;> (cases r; rfl)
theorem keys_RpA {K : PySem.W.Frag} {I : Hp} : ∀ ks : List Key, RpA K I (ks.map kV) (ks.map kD)
  | [] => .nil
  | .inl i :: ks => .cons (.int i) (keys_RpA ks)
  | .inr x :: ks => .cons (.str x) (keys_RpA ks)
section
variable {X : Cx} {G : GT} {W : WX} {a : Expr} {m : ME} {p p2 q pos : Pos}
theorem items_keys {w : Wd} {v : V} {μ : Store} {H : Hp} {b : Dv} {bs : List Dv} {ds : List D} {ks : List Key} (l : Lay G w μ H) (r : Rv G w v b) (e1 : items b μ = some bs) (e2 : allD bs = some ds) (e3 : keysD ds = some ks) : ∃ c, v = .ref c ∧ SqL G.K H c (ks.map kV) := by
  obtain ⟨c, vs, rfl, h1, h2⟩ := items_ok l r e1
  rw [allD_eq e2, keysD_map e3] at h2
  rw [RpA_keys (RpA_of_Rvs h2)] at h1
  exact ⟨c, rfl, h1⟩
theorem de_sortSet (hK : X.K = G.K) (hg : Gl X "sorted") (hm : X.mg "sorted" = none) (hg2 : Gl X "set") (hm2 : X.mg "set" = none) (hu : X.A.units + 64 < cLine) (ha : DE X G W a m) (hc : X.calm = true := by rfl) (na : starEach [a] X.env = (false, eval a X.env) :: starEach [] X.env := by rfl) :
    DE X G W (.Call (.Name "sorted" p) [.Call (.Name "set" p2) [a] [] q] [] pos) (e1 dSortSet m) := by
  refine PE.imp (pe_sortSet hg hm hg2 hm2 hu ha hc na) ?_
  rintro σ H Q ⟨w, μ, ρ, hl, he, pp⟩
  refine tD.seq (k := fun ρ x μ => dSortSet x μ) hl he pp fun w1 μ1 H1 v b l1 lay1 en1 r1 p1 => ?_
  unfold dSortSet at p1
  split at p1
  · rename_i bs e1
    split at p1
    · rename_i ds e2
      split at p1
      · rename_i ks e3
        split at p1
        · rename_i c
          rw [Bool.and_eq_true, decide_eq_true_eq] at c
          obtain ⟨n, rfl, h1⟩ := items_keys lay1 r1 e1 e2 e3
          have sz : ((srtK (ddK ks)).map kD).length ≤ sizeLine := by
            have := (ddK_facts ks).2.2
            rw [List.length_map, (List.mergeSort_perm _ _).length_eq, sizeLine_eq]
            omega
          refine ⟨n, ks, rfl, by rw [hK]; exact h1, c.1, c.2, ?_⟩
          refine (list_new (bs := ((srtK (ddK ks)).map kD).map .d) (W := W) (σ := σ) lay1 (Rvs_of_RpA (keys_RpA _)) ?_).2
          unfold dList
          rw [allD_map]
          show Pst G W σ (Rv G) w1 (if ((srtK (ddK ks)).map kD).length ≤ sizeLine then _ else _) Q
          rw [if_pos sz]
          exact p1
        · exact p1.elim
      · exact p1.elim
    · exact p1.elim
  · exact p1.elim
theorem de_lenSet (hK : X.K = G.K) (hg : Gl X "len") (hm : X.mg "len" = none) (hg2 : Gl X "set") (hm2 : X.mg "set" = none) (ha : DE X G W a m) (hc : X.calm = true := by rfl) (na : starEach [a] X.env = (false, eval a X.env) :: starEach [] X.env := by rfl) :
    DE X G W (.Call (.Name "len" p) [.Call (.Name "set" p2) [a] [] q] [] pos) (e1 dLenSet m) := by
  refine PE.imp (pe_lenSet hg hm hg2 hm2 ha hc na) ?_
  rintro σ H Q ⟨w, μ, ρ, hl, he, pp⟩
  refine tD.seq (k := fun ρ x μ => dLenSet x μ) hl he pp fun w1 μ1 H1 v b l1 lay1 en1 r1 p1 => ?_
  unfold dLenSet at p1
  split at p1
  · rename_i bs e1
    split at p1
    · rename_i ds e2
      split at p1
      · rename_i ks e3
        split at p1
        · rename_i c
          obtain ⟨n, rfl, h1⟩ := items_keys lay1 r1 e1 e2 e3
          exact ⟨n, ks, rfl, by rw [hK]; exact h1, c, p1 w1 _ H1 w1.le_refl lay1 (.int _)⟩
        · exact p1.elim
      · exact p1.elim
    · exact p1.elim
  · exact p1.elim
end
end DL

/-! a, b = x, y with cells among the values, or names that a comprehension reads. -/
namespace DL
open PySem PySem.Spec PyProof.Rows L2
def sAsgT (n : Nat) (ma : MA) (gs : MGs) : MS := fun ρ μ => (ma ρ μ).bind fun bs μ => if bs.length = n ∧ bs.length ≤ 1000 then (gs bs ρ μ).gb fun ρ μ => .ok (.nx ρ) μ else .bad
section
variable {X : Cx} {G : GT} {W : WX} {es tgs : List Expr} {mas : MA} {gs : MGs} {S : List Nat} {k k2 n : Nat} {pos tpos epos : Pos}
theorem asgT_imp (hK : X.K = G.K) : ∀ D σ H, tS G W (sAsgT n mas gs) D σ H → tAsg (tTup (tA G W mas)) (gTup X.K n (tGs G S gs)) D σ H := by
  rintro D σ H ⟨w, μ, ρ, hl, he, p⟩
  refine tD.seqS (k := fun ρ (bs : List Dv) μ => if bs.length = n ∧ bs.length ≤ 1000 then (gs bs ρ μ).gb fun ρ μ => .ok (.nx ρ) μ else .bad) hl he p fun w1 μ1 H1 vs bs l1 lay1 en1 r1 p1 => ?_
  split at p1
  · rename_i c
    have lv := Paired.length r1
    refine ⟨by rw [lv, sizeLine_eq]; omega, fun a na => ?_⟩
    obtain ⟨h1, h2, h3⟩ := lay1.na na
    have l2 := lay1.other h1 h2 h3 (.tup vs)
    refine ⟨a, vs, rfl, SqT.of upd_same, by rw [lv]; exact c.1, w1, μ1, ρ, bs, l2, en1, r1, ?_⟩
    cases q : gs bs ρ μ1 with
    | bad => rw [q] at p1; exact p1.elim
    | ex _ _ => rw [q] at p1; exact p1.elim
    | ok ρ2 μ2 =>
      rw [q] at p1
      exact fun w2 σ2 H2 l2 lay2 en2 _ => p1 w2 σ2 H2 l2 lay2 en2
  · exact p1.elim
theorem ds_asgT (hc : X.calm = true) (hK : X.K = G.K) (ha : DA X G W es mas) (hg : DGs X G S tgs gs) (hn : (assignEach tgs X.env).length = n := by rfl) (hst : (assignEach tgs X.env).findIdx? (·.1) = none := by rfl)
    (hs : swapsWithSole [.Tuple tgs k tpos] (.Tuple es k2 epos) pos.line X.env = pure false := by rfl) (hw : swappedStores [.Tuple tgs k tpos] (.Tuple es k2 epos) X.env = pure none := by rfl)
    (h1 : (assignEach [.Tuple tgs k tpos] X.env).map (·.2) = [assign (.Tuple tgs k tpos) X.env] := by rfl) : DS X G W (.Assign [.Tuple tgs k tpos] (.Tuple es k2 epos) pos) (sAsgT n mas gs) :=
  PS.imp (ps_asg (pe_tup ha) (pg_tup hc hg hn hst) hs hw h1) (asgT_imp hK)
end
end DL

/-! Running the data forms towards what is wanted behind them. -/
namespace DL
open PySem PySem.Spec PyProof.Rows L2
inductive Wp {β : Type} : Out β → (β → Store → Prop) → Prop
  | mk {b : β} {μ : Store} {P : β → Store → Prop} : P b μ → Wp (.ok b μ) P
section
variable {β γ : Type} {o o' : Out β} {P Q : β → Store → Prop} {k : β → Store → Out γ} {R : γ → Store → Prop} {b : β} {μ : Store}
@[simp] theorem Wp_ok : Wp (.ok b μ) P = P b μ := propext ⟨fun h => by cases h; assumption, .mk⟩
theorem Wp_bad : Wp (.bad : Out β) P = False := propext ⟨(fun h => nomatch h), False.elim⟩
theorem Wp_ex {e : Ex} : Wp (.ex e μ : Out β) P = False := propext ⟨(fun h => nomatch h), False.elim⟩
theorem Wp_bind : Wp (o.bind k) R = Wp o fun b μ => Wp (k b μ) R := by
  cases o with
  | ok b μ => rw [Wp_ok]; rfl
  | ex e μ => show Wp (.ex e μ) R = _; rw [Wp_ex, Wp_ex]
  | bad => show Wp .bad R = _; rw [Wp_bad, Wp_bad]
theorem Wp_gb : Wp (o.gb k) R = Wp o fun b μ => Wp (k b μ) R := by
  cases o with
  | ok b μ => rw [Wp_ok]; rfl
  | ex e μ => show Wp .bad R = _; rw [Wp_ex, Wp_bad]
  | bad => show Wp .bad R = _; rw [Wp_bad, Wp_bad]
def finP (P : Dv → Store → Prop) : Fl → Store → Prop := fun f μ => match f with
  | .nx _ => P (.d .none) μ
  | .rt b => P b μ
  | _ => False
@[simp ↓] theorem Wp_finB {o : Out Fl} {P : Dv → Store → Prop} : Wp (finB o) P = Wp o (finP P) := by
  cases o with
  | ok f μ =>
    rw [Wp_ok]
    cases f with
    | nx ρ => exact Wp_ok
    | rt b => exact Wp_ok
    | bk ρ => exact Wp_bad
    | ct ρ => exact Wp_bad
  | ex e μ => show Wp (.ex e μ) P = _; rw [Wp_ex, Wp_ex]
  | bad => show Wp .bad P = _; rw [Wp_bad, Wp_bad]
@[simp] theorem finP_rt {P : Dv → Store → Prop} {b : Dv} : finP P (.rt b) μ = P b μ := id rfl
@[simp] theorem finP_nx {P : Dv → Store → Prop} {ρ : DEnv} : finP P (.nx ρ) μ = P (.d .none) μ := id rfl
theorem Wp_if {c : Prop} [Decidable c] {x y : Out β} (h1 : c → Wp x P) (h2 : ¬ c → Wp y P) : Wp (if c then x else y) P := by
  split
  · exact h1 ‹_›
  · exact h2 ‹_›
theorem Wp_mono (w : Wp o P) (h : ∀ b μ, P b μ → Q b μ) : Wp o Q := by
  cases w with
  | mk p => exact .mk (h _ _ p)
theorem Wp_of (h : Wp o P) : ∃ b μ, o = .ok b μ ∧ P b μ := by
  cases h with
  | mk p => exact ⟨_, _, rfl, p⟩
theorem Wp_eq (e : o = .ok b μ) (h : P b μ) : Wp o P := by rw [e]; exact .mk h
end
@[simp] theorem dList_a {bs : List Dv} {μ : Store} (h : (allD bs).isSome = true) (n : bs.length ≤ 16000000) : dList bs μ = .ok (.d (.list ((allD bs).getD []))) μ := by
  obtain ⟨ds, e⟩ := Option.isSome_iff_exists.mp h
  have := allD_eq e
  subst this
  rw [List.length_map] at n
  rw [dList_d (Nat.le_trans n line_big), e]
  rfl
@[simp] theorem dTup_a {bs : List Dv} {μ : Store} (h : (allD bs).isSome = true) (n : bs.length ≤ 16000000) : dTup bs μ = .ok (.d (.tuple ((allD bs).getD []))) μ := by
  obtain ⟨ds, e⟩ := Option.isSome_iff_exists.mp h
  have := allD_eq e
  subst this
  rw [List.length_map] at n
  rw [dTup_d (Nat.le_trans n line_big), e]
  rfl
theorem dList_map {ds : List D} {μ : Store} (n : ds.length ≤ 16000000) : dList (ds.map .d) μ = .ok (.d (.list ds)) μ := dList_d (Nat.le_trans n line_big)
theorem cDiv_of {x k : Int} (h : 0 < k) (h2 : k < 2 ^ 100) : cDiv x k = true := by
  unfold cDiv
  rw [decide_eq_true h, Bool.true_and]
  exact decide_eq_true (by have := log2_lt (i := k) (n := 100) (by omega) (by decide); omega)
theorem okR_of {i : Int} (h : -1000000000 ≤ i) (h2 : i ≤ 1000000000) : okR i = true := by
  unfold okR
  rw [decide_eq_true (by omega), decide_eq_true (by omega)]
  rfl
theorem Wp_run {n : Nat} {B : MS} {bs : List Dv} {μ : Store} {P : Dv → Store → Prop} (h : Wp (B (bs.map some ++ List.replicate (n - bs.length) none) μ) (finP P)) : Wp (runB n B bs μ) P := by
  rw [runB_eq, Wp_finB]
  exact h
/-! ### comprehensions by an invariant -/
theorem Wp_lcM {g : MG} {tt : MT} {te : ME} {ρ : DEnv} (I : Nat → Store → Prop) (R : Dv → Prop) : ∀ {bs : List Dv} {i : Nat} {μ : Store} {P : List Dv → Store → Prop}, I i μ →
    (∀ j b μ, bs[j]? = some b → I (i + j) μ → Wp (g b ρ μ) fun ρ' μ1 => Wp (tt ρ' μ1) fun k μ2 => (k = true → Wp (te ρ' μ2) fun y μ3 => R y ∧ I (i + j + 1) μ3) ∧ (k = false → I (i + j + 1) μ2)) →
    (∀ ys μ', ys.length ≤ bs.length → (∀ y ∈ ys, R y) → I (i + bs.length) μ' → P ys μ') → Wp (lcM g tt te ρ bs μ) P
  | [], i, μ, P, h0, _, fin => .mk (fin [] μ (Nat.le_refl _) (fun y h => by cases h) h0)
  | b :: bs, i, μ, P, h0, step, fin => by
    have rest : ∀ μ4 (Z : List Dv → Store → Prop), I (i + 1) μ4 → (∀ ys μ', ys.length ≤ bs.length → (∀ y ∈ ys, R y) → I (i + (bs.length + 1)) μ' → Z ys μ') → Wp (lcM g tt te ρ bs μ4) Z := fun μ4 Z i4 z => by
      refine Wp_lcM I R (bs := bs) (i := i + 1) i4 (fun j c μ5 hj hi => ?_) fun ys μ' l1 l2 l3 => z ys μ' l1 l2 (by rw [show i + (bs.length + 1) = i + 1 + bs.length by omega]; exact l3)
      have := step (j + 1) c μ5 (by simpa using hj) (by rw [show i + (j + 1) = i + 1 + j by omega]; exact hi)
      rw [show i + (j + 1) + 1 = i + 1 + j + 1 by omega] at this
      exact this
    unfold lcM
    rw [Wp_gb]
    refine Wp_mono (step 0 b μ rfl h0) fun ρ' μ1 w1 => ?_
    rw [Wp_gb]
    refine Wp_mono w1 fun t μ2 w2 => ?_
    cases t with
    | true =>
      rw [if_pos rfl, Wp_gb]
      refine Wp_mono (w2.1 rfl) fun y μ3 w3 => ?_
      rw [Wp_gb]
      refine rest μ3 _ w3.2 fun ys μ' l1 l2 l3 => .mk ?_
      refine fin (y :: ys) μ' (Nat.succ_le_succ l1) (fun x hx => ?_) l3
      rcases List.mem_cons.mp hx with e | hx
      · rw [e]; exact w3.1
      · exact l2 x hx
    | false =>
      rw [if_neg (by decide)]
      exact rest μ2 _ (w2.2 rfl) fun ys μ' l1 l2 l3 => fin ys μ' (Nat.le_succ_of_le l1) l2 l3
/-- a comprehension without a test, how many its items are -/
theorem Wp_lcM_y {g : MG} {te : ME} {ρ : DEnv} (I : Nat → Store → Prop) (R : Dv → Prop) : ∀ {bs : List Dv} {i : Nat} {μ : Store} {P : List Dv → Store → Prop}, I i μ →
    (∀ j b μ, bs[j]? = some b → I (i + j) μ → Wp (g b ρ μ) fun ρ' μ1 => Wp (te ρ' μ1) fun y μ3 => R y ∧ I (i + j + 1) μ3) →
    (∀ ys μ', ys.length = bs.length → (∀ y ∈ ys, R y) → I (i + bs.length) μ' → P ys μ') → Wp (lcM g tYesM te ρ bs μ) P
  | [], i, μ, P, h0, _, fin => .mk (fin [] μ rfl (fun y h => by cases h) h0)
  | b :: bs, i, μ, P, h0, step, fin => by
    unfold lcM
    rw [Wp_gb]
    refine Wp_mono (step 0 b μ rfl h0) fun ρ' μ1 w1 => ?_
    rw [Wp_gb]
    show Wp (.ok true μ1) _
    rw [Wp_ok, if_pos rfl, Wp_gb]
    refine Wp_mono w1 fun y μ3 w3 => ?_
    rw [Wp_gb]
    refine Wp_lcM_y I R (bs := bs) (i := i + 1) w3.2 (fun j c μ5 hj hi => ?_) fun ys μ' l1 l2 l3 => .mk ?_
    · have := step (j + 1) c μ5 (by simpa using hj) (by rw [show i + (j + 1) = i + 1 + j by omega]; exact hi)
      rw [show i + (j + 1) + 1 = i + 1 + j + 1 by omega] at this
      exact this
    · refine fin (y :: ys) μ' (congrArg Nat.succ l1) (fun x hx => ?_) (by rw [List.length_cons, show i + (bs.length + 1) = i + 1 + bs.length by omega]; exact l3)
      rcases List.mem_cons.mp hx with e | hx
      · rw [e]; exact w3.1
      · exact l2 x hx
theorem Wp_lcF {fin : OpN} {g : MG} {tt : MT} {te : ME} {vs : List Nat} {ρ : DEnv} {bs : List Dv} {μ : Store} {P : Dv → Store → Prop} (hb : bs.length ≤ 16000000) (h : Wp (lcM g tt te (wipeD ρ vs) bs μ) fun ys μ' => Wp (fin ys μ') P) : Wp (lcF fin g tt te vs ρ bs μ) P := by
  unfold lcF
  rw [if_pos (Nat.le_trans hb line_big), Wp_gb]
  exact h
/-- .. over a cell that is not changed -/
theorem Wp_lcC {g : MG} {tt : MT} {te : ME} {ρ : DEnv} {n : Nat} {xs : List Dv} (R : Dv → Prop) : ∀ {k i : Nat} {μ : Store} {P : List Dv → Store → Prop}, μ[n]? = some (.lst xs) → xs.length - i < k →
    (∀ (j : Nat) (b : Dv), xs[j]? = some b → Wp (g b ρ μ) fun ρ' μ1 => Wp (tt ρ' μ1) fun t μ2 => μ2 = μ ∧ (t = true → Wp (te ρ' μ2) fun y μ3 => R y ∧ μ3 = μ)) →
    (∀ ys, ys.length ≤ xs.length - i → (∀ y ∈ ys, R y) → P ys μ) → Wp (lcC g tt te ρ n k i μ) P
  | 0, i, μ, P, _, h, _, _ => by omega
  | k + 1, i, μ, P, e, h, step, fin => by
    unfold lcC
    simp only [e]
    by_cases hi : i < xs.length
    · have ei : xs[i]? = some xs[i] := by simp [hi]
      simp only [ei]
      rw [Wp_gb]
      refine Wp_mono (step i _ ei) fun ρ' μ1 w1 => ?_
      rw [Wp_gb]
      refine Wp_mono w1 fun t μ2 w2 => ?_
      obtain ⟨rfl, w2⟩ := w2
      cases t with
      | true =>
        rw [if_pos rfl, Wp_gb]
        refine Wp_mono (w2 rfl) fun y μ3 w3 => ?_
        obtain ⟨hy, rfl⟩ := w3
        rw [Wp_gb]
        refine Wp_lcC R (k := k) (i := i + 1) e (by omega) step fun ys l1 l2 => .mk ?_
        refine fin (y :: ys) (by rw [List.length_cons]; omega) fun x hx => ?_
        rcases List.mem_cons.mp hx with e | hx
        · rw [e]; exact hy
        · exact l2 x hx
      | false =>
        rw [if_neg (by decide)]
        exact Wp_lcC R (k := k) (i := i + 1) e (by omega) step fun ys l1 l2 => fin ys (by omega) l2
    · have ei : xs[i]? = none := by simp; omega
      simp only [ei]
      exact .mk (fin [] (by simp) (fun y h => by cases h))
theorem Wp_lcCb {fin : OpN} {g : MG} {tt : MT} {te : ME} {vs : List Nat} {k n : Nat} {ρ : DEnv} {μ : Store} {P : Dv → Store → Prop} (hk : k ≤ 16000000) (h : Wp (lcC g tt te (wipeD ρ vs) n k 0 μ) fun ys μ' => Wp (fin ys μ') P) : Wp (lcCb fin g tt te vs k ρ (.c n) μ) P := by
  show Wp (if k ≤ sizeLine then _ else _) P
  rw [if_pos (Nat.le_trans hk line_big), Wp_gb]
  exact h
theorem eLcC_r {fin : OpN} {mo : ME} {g : MG} {tt : MT} {te : ME} {vs : List Nat} {k : Nat} {ρ : DEnv} {μ : Store} : eLcC fin mo g tt te vs k ρ μ = (mo ρ μ).bind fun b μ => lcCb fin g tt te vs k ρ b μ := id rfl
/-! ### fors by an invariant: a turn goes on, or gives what is wanted of the whole -/
def forP (I : DEnv → Store → Prop) (P : Fl → Store → Prop) : Fl → Store → Prop := fun f μ => match f with
  | .nx ρ => I ρ μ
  | .ct ρ => I ρ μ
  | .bk ρ => P (.nx ρ) μ
  | .rt v => P (.rt v) μ
theorem Wp_forL {g : MG} {mb : MS} (I : Nat → DEnv → Store → Prop) : ∀ {bs : List Dv} {i : Nat} {ρ : DEnv} {μ : Store} {P : Fl → Store → Prop}, I i ρ μ →
    (∀ j b ρ μ, bs[j]? = some b → I (i + j) ρ μ → Wp (g b ρ μ) fun ρ1 μ1 => Wp (mb ρ1 μ1) (forP (I (i + j + 1)) P)) →
    (∀ ρ' μ', I (i + bs.length) ρ' μ' → P (.nx ρ') μ') → Wp (forL g mb bs ρ μ) P
  | [], i, ρ, μ, P, h0, _, fin => .mk (fin ρ μ h0)
  | b :: bs, i, ρ, μ, P, h0, step, fin => by
    unfold forL
    rw [Wp_gb]
    refine Wp_mono (step 0 b ρ μ rfl h0) fun ρ1 μ1 w1 => ?_
    rw [Wp_bind]
    refine Wp_mono w1 fun f μ2 w2 => ?_
    have rest : ∀ ρ2, I (i + 1) ρ2 μ2 → Wp (forL g mb bs ρ2 μ2) P := fun ρ2 i2 => by
      refine Wp_forL I (bs := bs) (i := i + 1) i2 (fun j c ρ μ hj hi => ?_) fun ρ' μ' l => fin ρ' μ' (by rw [List.length_cons, show i + (bs.length + 1) = i + 1 + bs.length by omega]; exact l)
      have := step (j + 1) c ρ μ (by simpa using hj) (by rw [show i + (j + 1) = i + 1 + j by omega]; exact hi)
      rw [show i + (j + 1) + 1 = i + 1 + j + 1 by omega] at this
      exact this
    cases f with
    | nx ρ2 => exact rest ρ2 w2
    | ct ρ2 => exact rest ρ2 w2
    | bk ρ2 => exact .mk w2
    | rt v => exact .mk w2
theorem Wp_forE {g : MG} {mb : MS} {n : Nat} {xs : List D} (I : Nat → DEnv → Store → Prop) : ∀ {k i : Nat} {ρ : DEnv} {μ : Store} {P : Fl → Store → Prop}, (∀ i ρ μ, I i ρ μ → μ[n]? = some (.lst (xs.map .d))) → I i ρ μ → i ≤ xs.length → xs.length - i < k →
    (∀ j x ρ μ, xs[j]? = some x → I j ρ μ → Wp (g (.d (.tuple [.int j, x])) ρ μ) fun ρ1 μ1 => Wp (mb ρ1 μ1) (forP (I (j + 1)) P)) →
    (∀ ρ' μ', I xs.length ρ' μ' → P (.nx ρ') μ') → Wp (forE g mb n k i ρ μ) P
  | 0, i, ρ, μ, P, _, _, _, h, _, _ => by omega
  | k + 1, i, ρ, μ, P, e, h0, le, h, step, fin => by
    unfold forE
    simp only [e i ρ μ h0]
    by_cases hi : i < xs.length
    · have ei : xs[i]? = some xs[i] := by simp [hi]
      have ei2 : (xs.map Dv.d)[i]? = some (.d xs[i]) := by rw [List.getElem?_map, ei]; rfl
      simp only [ei2]
      rw [Wp_gb]
      refine Wp_mono (step i _ ρ μ ei h0) fun ρ1 μ1 w1 => ?_
      rw [Wp_bind]
      refine Wp_mono w1 fun f μ2 w2 => ?_
      have rest : ∀ ρ2, I (i + 1) ρ2 μ2 → Wp (forE g mb n k (i + 1) ρ2 μ2) P := fun ρ2 i2 => Wp_forE I (k := k) (i := i + 1) e i2 (by omega) (by omega) step fin
      cases f with
      | nx ρ2 => exact rest ρ2 w2
      | ct ρ2 => exact rest ρ2 w2
      | bk ρ2 => exact .mk w2
      | rt v => exact .mk w2
    · have ei2 : (xs.map Dv.d)[i]? = none := by simp; omega
      simp only [ei2]
      exact .mk (fin ρ μ (by rw [show xs.length = i by omega]; exact h0))
theorem sForE_r {mo : ME} {g : MG} {mb : MS} {k : Nat} {ρ : DEnv} {μ : Store} : sForE mo g mb k ρ μ = (mo ρ μ).bind fun b μ => forEb g mb k b ρ μ := id rfl
theorem forEb_r {g : MG} {mb : MS} {k n : Nat} {ρ : DEnv} {μ : Store} : forEb g mb k (.c n) ρ μ = forE g mb n k 0 ρ μ := id rfl
/-! ### the forms, one by one: what is wanted of a form is wanted of its parts -/
section
variable {β : Type} {ρ : DEnv} {μ : Store} {i j n m : Nat} {a c o : ME} {t u mb : MS} {g : MG} {r : MGs} {mi : MI} {tt x y : MT} {ma mk : MA} {lo hi : MO} {P : Fl → Store → Prop} {Q : Dv → Store → Prop} {B : Bool → Store → Prop} {A : List Dv → Store → Prop} {E : DEnv → Store → Prop} {O : Option Int → Store → Prop}
def kSeq (u : MS) (P : Fl → Store → Prop) : Fl → Store → Prop := fun f μ => match f with
  | .nx ρ => Wp (u ρ μ) P
  | .rt b => P (.rt b) μ
  | .bk ρ => P (.bk ρ) μ
  | .ct ρ => P (.ct ρ) μ
@[simp ↓] theorem Wp_sSeq : Wp (sSeq t u ρ μ) P = Wp (t ρ μ) (kSeq u P) := by
  unfold sSeq
  rw [Wp_bind]
  congr 1
  funext f μ
  cases f with
  | nx ρ => rfl
  | rt b => exact Wp_ok
  | bk ρ => exact Wp_ok
  | ct ρ => exact Wp_ok
@[simp ↓] theorem kSeq_nx : kSeq u P (.nx ρ) μ = Wp (u ρ μ) P := id rfl
@[simp ↓] theorem kSeq_rt {b : Dv} : kSeq u P (.rt b) μ = P (.rt b) μ := id rfl
@[simp ↓] theorem kSeq_bk : kSeq u P (.bk ρ) μ = P (.bk ρ) μ := id rfl
@[simp ↓] theorem kSeq_ct : kSeq u P (.ct ρ) μ = P (.ct ρ) μ := id rfl
@[simp ↓] theorem Wp_sNext : Wp (sNext ρ μ) P = P (.nx ρ) μ := Wp_ok
@[simp ↓] theorem Wp_sBreak : Wp (sBreak ρ μ) P = P (.bk ρ) μ := Wp_ok
@[simp ↓] theorem Wp_sCont : Wp (sCont ρ μ) P = P (.ct ρ) μ := Wp_ok
@[simp ↓] theorem Wp_sRetN : Wp (sRetN ρ μ) P = P (.rt (.d .none)) μ := Wp_ok
@[simp ↓] theorem Wp_eC {b : Dv} : Wp (eC b ρ μ) Q = Q b μ := Wp_ok
@[simp ↓] theorem Wp_aNil : Wp (aNil ρ μ) A = A [] μ := Wp_ok
@[simp ↓] theorem Wp_oNone : Wp (oNone ρ μ) O = O none μ := Wp_ok
@[simp ↓] theorem Wp_gN {b : Dv} : Wp (gN i b ρ μ) E = E (ρ.set i (some b)) μ := Wp_ok
@[simp ↓] theorem Wp_gsNil : Wp (gsNil [] ρ μ) E = E ρ μ := Wp_ok
@[simp ↓] theorem Wp_tYes : Wp (tYesM ρ μ) B = B true μ := Wp_ok
def kRet (P : Fl → Store → Prop) : Dv → Store → Prop := fun b μ => P (.rt b) μ
@[simp ↓] theorem kRet_r {b : Dv} : kRet P b μ = P (.rt b) μ := id rfl
@[simp ↓] theorem Wp_sRet : Wp (sRet a ρ μ) P = Wp (a ρ μ) (kRet P) := by
  unfold sRet
  rw [Wp_bind]
  try simp only [Wp_ok]
  rfl
def kDrop (ρ : DEnv) (P : Fl → Store → Prop) : Dv → Store → Prop := fun b μ => P (.nx ρ) μ
@[simp ↓] theorem kDrop_r {b : Dv} : kDrop ρ P b μ = P (.nx ρ) μ := id rfl
@[simp ↓] theorem Wp_sDrop : Wp (sDrop a ρ μ) P = Wp (a ρ μ) (kDrop ρ P) := by
  unfold sDrop
  rw [Wp_bind]
  try simp only [Wp_ok]
  rfl
def kSet (i : Nat) (ρ : DEnv) (P : Fl → Store → Prop) : Dv → Store → Prop := fun b μ => P (.nx (ρ.set i (some b))) μ
@[simp ↓] theorem kSet_r {b : Dv} : kSet i ρ P b μ = P (.nx (ρ.set i (some b))) μ := id rfl
@[simp ↓] theorem Wp_sSet : Wp (sSet i a ρ μ) P = Wp (a ρ μ) (kSet i ρ P) := by
  unfold sSet
  rw [Wp_bind]
  try simp only [Wp_ok]
  rfl
def kPar (i j : Nat) (ρ : DEnv) (P : Fl → Store → Prop) : List Dv → Store → Prop := fun b μ => Wp (parF i j ρ b μ) P
@[simp ↓] theorem kPar_r {b : List Dv} : kPar i j ρ P b μ = Wp (parF i j ρ b μ) P := id rfl
@[simp ↓] theorem Wp_sPar : Wp (sPar i j ma ρ μ) P = Wp (ma ρ μ) (kPar i j ρ P) := by
  unfold sPar
  rw [Wp_bind]
  rfl
def kNx (P : Fl → Store → Prop) : DEnv → Store → Prop := fun ρ μ => P (.nx ρ) μ
@[simp ↓] theorem kNx_r : kNx P ρ μ = P (.nx ρ) μ := id rfl
def kAsg (g : MG) (ρ : DEnv) (P : Fl → Store → Prop) : Dv → Store → Prop := fun b μ => Wp (g b ρ μ) (kNx P)
@[simp ↓] theorem kAsg_r {b : Dv} : kAsg g ρ P b μ = Wp (g b ρ μ) (kNx P) := id rfl
@[simp ↓] theorem Wp_sAsg : Wp (sAsg a g ρ μ) P = Wp (a ρ μ) (kAsg g ρ P) := by
  unfold sAsg
  rw [Wp_bind]
  congr 1
  funext b μ
  rw [Wp_gb]
  simp only [Wp_ok]
  rfl
def kSI3 (v x : Dv) (ρ : DEnv) (P : Fl → Store → Prop) : Dv → Store → Prop := fun b μ => Wp (optN (dSetIx x b v μ) ρ) P
@[simp ↓] theorem kSI3_r {b : Dv} {v x : Dv} : kSI3 v x ρ P b μ = Wp (optN (dSetIx x b v μ) ρ) P := id rfl
def kSI2 (v : Dv) (c : ME) (ρ : DEnv) (P : Fl → Store → Prop) : Dv → Store → Prop := fun b μ => Wp (c ρ μ) (kSI3 v b ρ P)
@[simp ↓] theorem kSI2_r {b : Dv} {v : Dv} : kSI2 v c ρ P b μ = Wp (c ρ μ) (kSI3 v b ρ P) := id rfl
def kSI1 (o c : ME) (ρ : DEnv) (P : Fl → Store → Prop) : Dv → Store → Prop := fun b μ => Wp (o ρ μ) (kSI2 b c ρ P)
@[simp ↓] theorem kSI1_r {b : Dv}  : kSI1 o c ρ P b μ = Wp (o ρ μ) (kSI2 b c ρ P) := id rfl
@[simp ↓] theorem Wp_sSetIx : Wp (sSetIx a o c ρ μ) P = Wp (a ρ μ) (kSI1 o c ρ P) := by
  unfold sSetIx
  simp only [Wp_bind]
  rfl
def kFor (g : MG) (mb : MS) (ρ : DEnv) (P : Fl → Store → Prop) : List Dv → Store → Prop := fun b μ => Wp (forL g mb b ρ μ) P
@[simp ↓] theorem kFor_r {b : List Dv}  : kFor g mb ρ P b μ = Wp (forL g mb b ρ μ) P := id rfl
@[simp ↓] theorem Wp_sFor : Wp (sFor mi g mb ρ μ) P = Wp (mi ρ μ) (kFor g mb ρ P) := by
  unfold sFor
  simp only [Wp_bind]
  rfl
def kForE (g : MG) (mb : MS) (n : Nat) (ρ : DEnv) (P : Fl → Store → Prop) : Dv → Store → Prop := fun b μ => Wp (forEb g mb n b ρ μ) P
@[simp ↓] theorem kForE_r {b : Dv}  : kForE g mb n ρ P b μ = Wp (forEb g mb n b ρ μ) P := id rfl
@[simp ↓] theorem Wp_sForE : Wp (sForE a g mb n ρ μ) P = Wp (a ρ μ) (kForE g mb n ρ P) := by
  unfold sForE
  simp only [Wp_bind]
  rfl
def kForC (g : MG) (mb : MS) (n : Nat) (ρ : DEnv) (P : Fl → Store → Prop) : Dv → Store → Prop := fun b μ => Wp (forCb g mb n b ρ μ) P
@[simp ↓] theorem kForC_r {b : Dv}  : kForC g mb n ρ P b μ = Wp (forCb g mb n b ρ μ) P := id rfl
@[simp ↓] theorem Wp_sForC : Wp (sForC a g mb n ρ μ) P = Wp (a ρ μ) (kForC g mb n ρ P) := by
  unfold sForC
  simp only [Wp_bind]
  rfl
def kE1 (f : Op1) (Q : Dv → Store → Prop) : Dv → Store → Prop := fun b μ => Wp (f b μ) Q
@[simp ↓] theorem kE1_r {b : Dv} {f : Op1} : kE1 f Q b μ = Wp (f b μ) Q := id rfl
@[simp ↓] theorem Wp_e1 {f : Op1} : Wp (e1 f a ρ μ) Q = Wp (a ρ μ) (kE1 f Q) := by
  unfold e1
  simp only [Wp_bind]
  rfl
def kE2b (f : Op2) (v : Dv) (Q : Dv → Store → Prop) : Dv → Store → Prop := fun b μ => Wp (f v b μ) Q
@[simp ↓] theorem kE2b_r {b : Dv} {f : Op2} {v : Dv} : kE2b f v Q b μ = Wp (f v b μ) Q := id rfl
def kE2 (f : Op2) (c : ME) (ρ : DEnv) (Q : Dv → Store → Prop) : Dv → Store → Prop := fun b μ => Wp (c ρ μ) (kE2b f b Q)
@[simp ↓] theorem kE2_r {b : Dv} {f : Op2} : kE2 f c ρ Q b μ = Wp (c ρ μ) (kE2b f b Q) := id rfl
@[simp ↓] theorem Wp_e2 {f : Op2} : Wp (e2 f a c ρ μ) Q = Wp (a ρ μ) (kE2 f c ρ Q) := by
  unfold e2
  simp only [Wp_bind]
  rfl
def kTV (B : Bool → Store → Prop) : Dv → Store → Prop := fun b μ => Wp (asBool b μ) B
@[simp ↓] theorem kTV_r {b : Dv}  : kTV B b μ = Wp (asBool b μ) B := id rfl
@[simp ↓] theorem Wp_tV : Wp (tV a ρ μ) B = Wp (a ρ μ) (kTV B) := by
  unfold tV
  simp only [Wp_bind]
  rfl
def kNot (B : Bool → Store → Prop) : Bool → Store → Prop := fun b μ => B (!b) μ
@[simp ↓] theorem kNot_r {b : Bool}  : kNot B b μ = B (!b) μ := id rfl
@[simp ↓] theorem Wp_tNotM : Wp (tNotM tt ρ μ) B = Wp (tt ρ μ) (kNot B) := by
  unfold tNotM
  simp only [Wp_bind]
  try simp only [Wp_ok]
  rfl
def kN (f : OpN) (Q : Dv → Store → Prop) : List Dv → Store → Prop := fun b μ => Wp (f b μ) Q
@[simp ↓] theorem kN_r {b : List Dv} {f : OpN} : kN f Q b μ = Wp (f b μ) Q := id rfl
@[simp ↓] theorem Wp_eN {f : OpN} : Wp (eN f ma ρ μ) Q = Wp (ma ρ μ) (kN f Q) := by
  unfold eN
  simp only [Wp_bind]
  rfl
def kAC2 (v : Dv) (A : List Dv → Store → Prop) : List Dv → Store → Prop := fun b μ => A (v :: b) μ
@[simp ↓] theorem kAC2_r {b : List Dv} {v : Dv} : kAC2 v A b μ = A (v :: b) μ := id rfl
def kAC (ma : MA) (ρ : DEnv) (A : List Dv → Store → Prop) : Dv → Store → Prop := fun b μ => Wp (ma ρ μ) (kAC2 b A)
@[simp ↓] theorem kAC_r {b : Dv}  : kAC ma ρ A b μ = Wp (ma ρ μ) (kAC2 b A) := id rfl
@[simp ↓] theorem Wp_aCons : Wp (aCons a ma ρ μ) A = Wp (a ρ μ) (kAC ma ρ A) := by
  unfold aCons
  simp only [Wp_bind]
  try simp only [Wp_ok]
  rfl
def kSl3 (v : Dv) (k : Option Int) (Q : Dv → Store → Prop) : Option Int → Store → Prop := fun b μ => Wp (dSl v k b μ) Q
@[simp ↓] theorem kSl3_r {b : Option Int} {v : Dv} {k : Option Int} : kSl3 v k Q b μ = Wp (dSl v k b μ) Q := id rfl
def kSl2 (v : Dv) (hi : MO) (ρ : DEnv) (Q : Dv → Store → Prop) : Option Int → Store → Prop := fun b μ => Wp (hi ρ μ) (kSl3 v b Q)
@[simp ↓] theorem kSl2_r {b : Option Int} {v : Dv} : kSl2 v hi ρ Q b μ = Wp (hi ρ μ) (kSl3 v b Q) := id rfl
def kSl (lo hi : MO) (ρ : DEnv) (Q : Dv → Store → Prop) : Dv → Store → Prop := fun b μ => Wp (lo ρ μ) (kSl2 b hi ρ Q)
@[simp ↓] theorem kSl_r {b : Dv}  : kSl lo hi ρ Q b μ = Wp (lo ρ μ) (kSl2 b hi ρ Q) := id rfl
@[simp ↓] theorem Wp_eSl : Wp (eSl a lo hi ρ μ) Q = Wp (a ρ μ) (kSl lo hi ρ Q) := by
  unfold eSl
  simp only [Wp_bind]
  rfl
def kOS (O : Option Int → Store → Prop) : Dv → Store → Prop := fun b μ => Wp (asInt b μ) O
@[simp ↓] theorem kOS_r {b : Dv}  : kOS O b μ = Wp (asInt b μ) O := id rfl
@[simp ↓] theorem Wp_oSome : Wp (oSome a ρ μ) O = Wp (a ρ μ) (kOS O) := by
  unfold oSome
  simp only [Wp_bind]
  rfl
def kIN (k : Bool) (Q : Dv → Store → Prop) : Dv → Store → Prop := fun b μ => Wp (dIsN k b (.d .none) μ) Q
@[simp ↓] theorem kIN_r {b : Dv} {k : Bool} : kIN k Q b μ = Wp (dIsN k b (.d .none) μ) Q := id rfl
@[simp ↓] theorem Wp_eIsN {k : Bool} : Wp (eIsN k a ρ μ) Q = Wp (a ρ μ) (kIN k Q) := by
  unfold eIsN
  simp only [Wp_bind]
  rfl
def kLc (f : OpN) (g : MG) (tt : MT) (c : ME) (vs : List Nat) (ρ : DEnv) (Q : Dv → Store → Prop) : List Dv → Store → Prop := fun b μ => Wp (lcF f g tt c vs ρ b μ) Q
@[simp ↓] theorem kLc_r {b : List Dv} {f : OpN} {vs : List Nat} : kLc f g tt c vs ρ Q b μ = Wp (lcF f g tt c vs ρ b μ) Q := id rfl
@[simp ↓] theorem Wp_eLc {f : OpN} {vs : List Nat} : Wp (eLc f mi g tt c vs ρ μ) Q = Wp (mi ρ μ) (kLc f g tt c vs ρ Q) := by
  unfold eLc
  simp only [Wp_bind]
  rfl
def kLcC (f : OpN) (g : MG) (tt : MT) (c : ME) (vs : List Nat) (n : Nat) (ρ : DEnv) (Q : Dv → Store → Prop) : Dv → Store → Prop := fun b μ => Wp (lcCb f g tt c vs n ρ b μ) Q
@[simp ↓] theorem kLcC_r {b : Dv} {f : OpN} {vs : List Nat} : kLcC f g tt c vs n ρ Q b μ = Wp (lcCb f g tt c vs n ρ b μ) Q := id rfl
@[simp ↓] theorem Wp_eLcC {f : OpN} {vs : List Nat} : Wp (eLcC f a g tt c vs n ρ μ) Q = Wp (a ρ μ) (kLcC f g tt c vs n ρ Q) := by
  unfold eLcC
  simp only [Wp_bind]
  rfl
def kIS (A : List Dv → Store → Prop) : Dv → Store → Prop := fun b μ => Wp (walkD b μ) A
@[simp ↓] theorem kIS_r {b : Dv}  : kIS A b μ = Wp (walkD b μ) A := id rfl
@[simp ↓] theorem Wp_iSeq : Wp (iSeq a ρ μ) A = Wp (a ρ μ) (kIS A) := by
  unfold iSeq
  simp only [Wp_bind]
  rfl
def kIR (f : List Dv → Store → Out (List Dv)) (A : List Dv → Store → Prop) : List Dv → Store → Prop := fun b μ => Wp (f b μ) A
@[simp ↓] theorem kIR_r {b : List Dv} {f : List Dv → Store → Out (List Dv)} : kIR f A b μ = Wp (f b μ) A := id rfl
@[simp ↓] theorem Wp_iRng {f : List Dv → Store → Out (List Dv)} : Wp (iRng f ma ρ μ) A = Wp (ma ρ μ) (kIR f A) := by
  unfold iRng
  simp only [Wp_bind]
  rfl
def kIf (t u : MS) (ρ : DEnv) (P : Fl → Store → Prop) : Bool → Store → Prop := fun b μ => match b with
  | true => Wp (t ρ μ) P
  | false => Wp (u ρ μ) P
@[simp ↓] theorem kIf_t : kIf t u ρ P true μ = Wp (t ρ μ) P := id rfl
@[simp ↓] theorem kIf_f : kIf t u ρ P false μ = Wp (u ρ μ) P := id rfl
theorem kIf_s {b : Bool} (h1 : b = true → Wp (t ρ μ) P) (h2 : b = false → Wp (u ρ μ) P) : kIf t u ρ P b μ := by
  cases b with
  | true => exact h1 rfl
  | false => exact h2 rfl
@[simp ↓] theorem Wp_sIf : Wp (sIf tt t u ρ μ) P = Wp (tt ρ μ) (kIf t u ρ P) := by
  unfold sIf
  rw [Wp_bind]
  congr 1
  funext b μ
  cases b
  · first | rfl | exact Wp_ok | (simp only [Bool.false_eq_true, if_false]; first | rfl | exact Wp_ok)
  · first | rfl | exact Wp_ok | (simp only [if_true]; first | rfl | exact Wp_ok)
def kAnd (x : MT) (ρ : DEnv) (B : Bool → Store → Prop) : Bool → Store → Prop := fun b μ => match b with
  | true => Wp (x ρ μ) B
  | false => B false μ
@[simp ↓] theorem kAnd_t : kAnd x ρ B true μ = Wp (x ρ μ) B := id rfl
@[simp ↓] theorem kAnd_f : kAnd x ρ B false μ = B false μ := id rfl
theorem kAnd_s {b : Bool} (h1 : b = true → Wp (x ρ μ) B) (h2 : b = false → B false μ) : kAnd x ρ B b μ := by
  cases b with
  | true => exact h1 rfl
  | false => exact h2 rfl
@[simp ↓] theorem Wp_tAndM : Wp (tAndM tt x ρ μ) B = Wp (tt ρ μ) (kAnd x ρ B) := by
  unfold tAndM
  rw [Wp_bind]
  congr 1
  funext b μ
  cases b
  · first | rfl | exact Wp_ok | (simp only [Bool.false_eq_true, if_false]; first | rfl | exact Wp_ok)
  · first | rfl | exact Wp_ok | (simp only [if_true]; first | rfl | exact Wp_ok)
def kOr (x : MT) (ρ : DEnv) (B : Bool → Store → Prop) : Bool → Store → Prop := fun b μ => match b with
  | true => B true μ
  | false => Wp (x ρ μ) B
@[simp ↓] theorem kOr_t : kOr x ρ B true μ = B true μ := id rfl
@[simp ↓] theorem kOr_f : kOr x ρ B false μ = Wp (x ρ μ) B := id rfl
theorem kOr_s {b : Bool} (h1 : b = true → B true μ) (h2 : b = false → Wp (x ρ μ) B) : kOr x ρ B b μ := by
  cases b with
  | true => exact h1 rfl
  | false => exact h2 rfl
@[simp ↓] theorem Wp_tOrM : Wp (tOrM tt x ρ μ) B = Wp (tt ρ μ) (kOr x ρ B) := by
  unfold tOrM
  rw [Wp_bind]
  congr 1
  funext b μ
  cases b
  · first | rfl | exact Wp_ok | (simp only [Bool.false_eq_true, if_false]; first | rfl | exact Wp_ok)
  · first | rfl | exact Wp_ok | (simp only [if_true]; first | rfl | exact Wp_ok)
def kEI (a c : ME) (ρ : DEnv) (Q : Dv → Store → Prop) : Bool → Store → Prop := fun b μ => match b with
  | true => Wp (a ρ μ) Q
  | false => Wp (c ρ μ) Q
@[simp ↓] theorem kEI_t : kEI a c ρ Q true μ = Wp (a ρ μ) Q := id rfl
@[simp ↓] theorem kEI_f : kEI a c ρ Q false μ = Wp (c ρ μ) Q := id rfl
theorem kEI_s {b : Bool} (h1 : b = true → Wp (a ρ μ) Q) (h2 : b = false → Wp (c ρ μ) Q) : kEI a c ρ Q b μ := by
  cases b with
  | true => exact h1 rfl
  | false => exact h2 rfl
@[simp ↓] theorem Wp_eIf : Wp (eIf tt a c ρ μ) Q = Wp (tt ρ μ) (kEI a c ρ Q) := by
  unfold eIf
  rw [Wp_bind]
  congr 1
  funext b μ
  cases b
  · first | rfl | exact Wp_ok | (simp only [Bool.false_eq_true, if_false]; first | rfl | exact Wp_ok)
  · first | rfl | exact Wp_ok | (simp only [if_true]; first | rfl | exact Wp_ok)
def kEA (c : ME) (ρ : DEnv) (Q : Dv → Store → Prop) : Bool → Store → Prop := fun b μ => match b with
  | true => Wp (c ρ μ) Q
  | false => Q (.d (.bool false)) μ
@[simp ↓] theorem kEA_t : kEA c ρ Q true μ = Wp (c ρ μ) Q := id rfl
@[simp ↓] theorem kEA_f : kEA c ρ Q false μ = Q (.d (.bool false)) μ := id rfl
theorem kEA_s {b : Bool} (h1 : b = true → Wp (c ρ μ) Q) (h2 : b = false → Q (.d (.bool false)) μ) : kEA c ρ Q b μ := by
  cases b with
  | true => exact h1 rfl
  | false => exact h2 rfl
def kEA0 (c : ME) (ρ : DEnv) (Q : Dv → Store → Prop) : Dv → Store → Prop := fun b μ => Wp (asBool b μ) (kEA c ρ Q)
@[simp ↓] theorem kEA0_r {b : Dv} : kEA0 c ρ Q b μ = Wp (asBool b μ) (kEA c ρ Q) := id rfl
@[simp ↓] theorem Wp_eAnd : Wp (eAnd a c ρ μ) Q = Wp (a ρ μ) (kEA0 c ρ Q) := by
  unfold eAnd
  simp only [Wp_bind]
  congr 1
  funext b μ
  unfold kEA0
  congr 1
  funext k μ
  cases k
  · first | rfl | exact Wp_ok | (simp only [Bool.false_eq_true, if_false]; first | rfl | exact Wp_ok)
  · first | rfl | exact Wp_ok | (simp only [if_true]; first | rfl | exact Wp_ok)
def kEO (c : ME) (ρ : DEnv) (Q : Dv → Store → Prop) : Bool → Store → Prop := fun b μ => match b with
  | true => Q (.d (.bool true)) μ
  | false => Wp (c ρ μ) Q
@[simp ↓] theorem kEO_t : kEO c ρ Q true μ = Q (.d (.bool true)) μ := id rfl
@[simp ↓] theorem kEO_f : kEO c ρ Q false μ = Wp (c ρ μ) Q := id rfl
theorem kEO_s {b : Bool} (h1 : b = true → Q (.d (.bool true)) μ) (h2 : b = false → Wp (c ρ μ) Q) : kEO c ρ Q b μ := by
  cases b with
  | true => exact h1 rfl
  | false => exact h2 rfl
def kEO0 (c : ME) (ρ : DEnv) (Q : Dv → Store → Prop) : Dv → Store → Prop := fun b μ => Wp (asBool b μ) (kEO c ρ Q)
@[simp ↓] theorem kEO0_r {b : Dv} : kEO0 c ρ Q b μ = Wp (asBool b μ) (kEO c ρ Q) := id rfl
@[simp ↓] theorem Wp_eOr : Wp (eOr a c ρ μ) Q = Wp (a ρ μ) (kEO0 c ρ Q) := by
  unfold eOr
  simp only [Wp_bind]
  congr 1
  funext b μ
  unfold kEO0
  congr 1
  funext k μ
  cases k
  · first | rfl | exact Wp_ok | (simp only [Bool.false_eq_true, if_false]; first | rfl | exact Wp_ok)
  · first | rfl | exact Wp_ok | (simp only [if_true]; first | rfl | exact Wp_ok)
def kEN1 (Q : Dv → Store → Prop) : Bool → Store → Prop := fun k μ => Q (.d (.bool (!k))) μ
@[simp ↓] theorem kEN1_r {k : Bool} : kEN1 Q k μ = Q (.d (.bool (!k))) μ := id rfl
def kEN (Q : Dv → Store → Prop) : Dv → Store → Prop := fun b μ => Wp (asBool b μ) (kEN1 Q)
@[simp ↓] theorem kEN_r {b : Dv} : kEN Q b μ = Wp (asBool b μ) (kEN1 Q) := id rfl
@[simp ↓] theorem Wp_eNot : Wp (eNot a ρ μ) Q = Wp (a ρ μ) (kEN Q) := by
  unfold eNot
  simp only [Wp_bind, Wp_ok]
  rfl
@[simp ↓] theorem Wp_fCall {F : OpN} {bs : List Dv} (h : bs.length = n) : Wp (fCall n F bs μ) Q = Wp (F bs μ) Q := by
  rw [fCall_r, if_pos h]
def kM2 (f : Dv → OpN) (v : Dv) (Q : Dv → Store → Prop) : List Dv → Store → Prop := fun b μ => Wp (f v b μ) Q
@[simp ↓] theorem kM2_r {f : Dv → OpN} {v : Dv} {b : List Dv} : kM2 f v Q b μ = Wp (f v b μ) Q := id rfl
def kM (k : Dv → Store → Bool) (f : Dv → OpN) (ma : MA) (ρ : DEnv) (Q : Dv → Store → Prop) : Dv → Store → Prop := fun b μ => k b μ = true ∧ Wp (ma ρ μ) (kM2 f b Q)
@[simp ↓] theorem kM_r {k : Dv → Store → Bool} {f : Dv → OpN} {b : Dv} (h : k b μ = true) : kM k f ma ρ Q b μ = Wp (ma ρ μ) (kM2 f b Q) := by
  unfold kM
  simp [h]
@[simp ↓] theorem Wp_eM {k : Dv → Store → Bool} {f : Dv → OpN} : Wp (eM k f a ma ρ μ) Q = Wp (a ρ μ) (kM k f ma ρ Q) := by
  unfold eM
  rw [Wp_bind]
  congr 1
  funext b μ
  unfold kM
  split
  · rename_i h
    rw [Wp_bind]
    simp only [h, true_and]
    rfl
  · rename_i h
    simp only [h, false_and]
    simp [Wp_bad]
def kGs (r : MGs) (bs : List Dv) (E : DEnv → Store → Prop) : DEnv → Store → Prop := fun ρ μ => Wp (r bs ρ μ) E
@[simp ↓] theorem kGs_r {bs : List Dv} : kGs r bs E ρ μ = Wp (r bs ρ μ) E := id rfl
@[simp ↓] theorem Wp_gsCons {b : Dv} {bs : List Dv} : Wp (gsCons g r (b :: bs) ρ μ) E = Wp (g b ρ μ) (kGs r bs E) := by
  show Wp ((g b ρ μ).bind fun ρ μ => r bs ρ μ) E = _
  rw [Wp_bind]
  rfl
@[simp ↓] theorem Wp_gT {ds : List D} (h : ds.length = n) : Wp (gT n r (.d (.tuple ds)) ρ μ) E = Wp (r (ds.map .d) ρ μ) E := by
  rw [gT_r, if_pos h]
def kK2 (n m : Nat) (ix : List Nat) (F : OpN) (bs : List Dv) (Q : Dv → Store → Prop) : List Dv → Store → Prop := fun cs μ => cs.length = m ∧ Wp (fCall n F (pickL (.d .none) ix (bs ++ cs)) μ) Q
@[simp ↓] theorem kK2_r {ix : List Nat} {F : OpN} {bs cs : List Dv} (h : cs.length = m) : kK2 n m ix F bs Q cs μ = Wp (fCall n F (pickL (.d .none) ix (bs ++ cs)) μ) Q := by
  unfold kK2
  simp [h]
def kK1 (n m : Nat) (ix : List Nat) (F : OpN) (mk : MA) (ρ : DEnv) (Q : Dv → Store → Prop) : List Dv → Store → Prop := fun bs μ => Wp (mk ρ μ) (kK2 n m ix F bs Q)
@[simp ↓] theorem kK1_r {ix : List Nat} {F : OpN} {bs : List Dv} : kK1 n m ix F mk ρ Q bs μ = Wp (mk ρ μ) (kK2 n m ix F bs Q) := id rfl
@[simp ↓] theorem Wp_eCallK {ix : List Nat} {F : OpN} : Wp (eCallK n m ix F ma mk ρ μ) Q = Wp (ma ρ μ) (kK1 n m ix F mk ρ Q) := by
  unfold eCallK
  simp only [Wp_bind]
  congr 1
  funext bs μ
  unfold kK1
  congr 1
  funext cs μ
  unfold kK2
  split
  · rename_i h
    simp only [h, true_and]
  · rename_i h
    simp only [h, false_and]
    simp [Wp_bad]
end
end DL

/-! repr of data in bounds; lists that can be sorted. -/
namespace DL
open PySem PySem.Spec PyProof.Rows L2
/-- k: how deep at most, c: how long its repr is at most -/
structure Sm (k c : Nat) (d : D) : Prop where
  sh : d.showable = true
  nd : nodict d = true
  hd : d.hasDict = false
  dp : d.depth ≤ k
  ln : d.shown.length ≤ c
theorem Sm.mono {k c k' c' : Nat} {d : D} (h : Sm k c d) (hk : k ≤ k') (hc : c ≤ c') : Sm k' c' d := ⟨h.sh, h.nd, h.hd, Nat.le_trans h.dp hk, Nat.le_trans h.ln hc⟩
theorem Sm.int {i : Int} (h : i.natAbs < 10 ^ 40) : Sm 0 41 (.int i) := by
  have s : smallD (.int i) = true := decide_eq_true h
  obtain ⟨a, b, c, d⟩ := small_show s
  exact ⟨a, b, c, by rw [d]; exact Nat.le_refl _, small_len s⟩
theorem Sm.none : Sm 0 4 .none := ⟨rfl, rfl, rfl, Nat.le_refl _, by decide +kernel⟩
theorem Sm.bool (b : Bool) : Sm 0 5 (.bool b) := ⟨rfl, rfl, rfl, Nat.le_refl _, by cases b <;> decide +kernel⟩
theorem Sm.str {l : List Nat} (h : ∀ c ∈ l, c < 16 ^ 8) : Sm 0 (10 * l.length + 2) (.str (T l)) := by
  refine ⟨rfl, rfl, rfl, Nat.le_refl _, ?_⟩
  have := StrLaws.reprText_len (T l) h
  rw [T_len] at this
  rw [PyData.shown_str]
  exact this
theorem sm_all {k c : Nat} : ∀ {ds : List D}, (∀ d ∈ ds, Sm k c d) → PyData.showableAll ds = true ∧ nodicts ds = true ∧ PyData.hasDictAll ds = false ∧ PyData.depthAll ds ≤ k ∧ piled (PyData.shownAll ds) ≤ ds.length * (c + 2) ∧ (PyData.shownAll ds).length = ds.length
  | [], _ => ⟨rfl, rfl, rfl, Nat.zero_le _, Nat.zero_le _, rfl⟩
  | d :: ds, h => by
    obtain ⟨a1, a2, a3, a4, a5, a6⟩ := sm_all (ds := ds) fun e he => h e (List.mem_cons_of_mem _ he)
    obtain ⟨b1, b2, b3, b4, b5⟩ := h d List.mem_cons_self
    refine ⟨?_, ?_, ?_, ?_, ?_, ?_⟩
    · simp [PyData.showableAll, a1, b1]
    · simp [nodicts, a2, b2]
    · simp [PyData.hasDictAll, a3, b3]
    · simp only [PyData.depthAll]; omega
    · rw [PyData.shownAll, piled_cons, List.length_cons, Nat.succ_mul]; omega
    · rw [PyData.shownAll, List.length_cons, List.length_cons, a6]
theorem join_le : ∀ ts : List Str, (Str.join ", " ts).length ≤ piled ts
  | [] => Nat.zero_le _
  | t :: ts => by
    have := join_length_add (t :: ts) (by simp)
    omega
theorem listText_le : ∀ ts : List Str, (listText ts).length ≤ piled ts + 2
  | [] => by decide +kernel
  | t :: ts => by
    unfold listText
    rw [str_len_app]
    have e1 : Str.length ("]" : Str) = 1 := by decide +kernel
    have e2 : textFrom 0 "[" (t :: ts) = textFrom 1 (("[" : Str) ++ (if (0 : Nat) > 0 then ", " else "" : String) ++ t) ts := rfl
    rw [e1, e2, textFrom_length_pos ts 1 _ (by omega), piled_cons, str_len_app, str_len_app]
    have e3 : Str.length ("[" : Str) = 1 := by decide +kernel
    have e4 : Str.length (Str.ofString (if (0 : Nat) > 0 then ", " else "" : String)) = 0 := by decide +kernel
    rw [e3, e4]
    omega
theorem tupleText_le (ts : List Str) : (tupleText ts).length ≤ piled ts + 3 := by
  unfold tupleText
  rw [str_len_app, str_len_app]
  have h := join_le ts
  have e1 : Str.length ("(" : Str) = 1 := by decide +kernel
  have e2 : Str.length (Str.ofString (if ts.length == 1 then ",)" else ")" : String)) ≤ 2 := by
    split <;> decide +kernel
  rw [e1]
  omega
theorem Sm.list {k c n : Nat} {ds : List D} (h : ∀ d ∈ ds, Sm k c d) (hn : ds.length ≤ n) : Sm (k + 1) (n * (c + 2) + 3) (.list ds) := by
  obtain ⟨a1, a2, a3, a4, a5, a6⟩ := sm_all h
  have m : ds.length * (c + 2) ≤ n * (c + 2) := Nat.mul_le_mul_right _ hn
  refine ⟨by simpa [PyData.showable] using a1, by simpa [nodict] using a2, by simpa [PyData.hasDict] using a3, by simp only [PyData.depth]; omega, ?_⟩
  have := listText_le (PyData.shownAll ds)
  rw [PyData.shown]
  omega
theorem Sm.tup {k c n : Nat} {ds : List D} (h : ∀ d ∈ ds, Sm k c d) (hn : ds.length ≤ n) : Sm (k + 1) (n * (c + 2) + 3) (.tuple ds) := by
  obtain ⟨a1, a2, a3, a4, a5, a6⟩ := sm_all h
  have m : ds.length * (c + 2) ≤ n * (c + 2) := Nat.mul_le_mul_right _ hn
  refine ⟨by simpa [PyData.showable] using a1, by simpa [nodict] using a2, by simpa [PyData.hasDict] using a3, by simp only [PyData.depth]; omega, ?_⟩
  have := tupleText_le (PyData.shownAll ds)
  rw [PyData.shown]
  omega
theorem dRepr_sm {d : D} {μ : Store} (h : Sm 40 16000000 d) : dRepr [.d d] μ = .ok (.d (.str d.shown)) μ := by
  obtain ⟨a, b, c, e, f⟩ := h
  have hb := line_big
  show (if (d.showable && nodict d && !d.hasDict && decide (d.depth ≤ 40) && decide (d.shown.length ≤ sizeLine)) = true then Out.ok (Dv.d (.str d.shown)) μ else .bad) = _
  rw [if_pos]
  simp only [a, b, c, Bool.not_false, Bool.true_and, Bool.and_eq_true, decide_eq_true_eq]
  exact ⟨e, by omega⟩
/-! ### sorting -/
theorem sort_ints {ds : List D} (h : ∀ d ∈ ds, ∃ i, d = .int i) : canSort ds = true := by
  unfold canSort
  simp only [Bool.and_eq_true, Bool.or_eq_true, List.all_eq_true, decide_eq_true_eq]
  refine ⟨⟨⟨fun d hd e he => ?_, .inr fun d hd => ?_⟩, fun d hd => ?_⟩, ?_⟩
  · obtain ⟨i, rfl⟩ := h d hd
    obtain ⟨j, rfl⟩ := h e he
    rfl
  · obtain ⟨i, rfl⟩ := h d hd
    rfl
  · obtain ⟨i, rfl⟩ := h d hd
    exact Nat.zero_le _
  · induction ds with
    | nil => rfl
    | cons d ds ih =>
      obtain ⟨i, rfl⟩ := h d List.mem_cons_self
      exact ih fun e he => h e (List.mem_cons_of_mem _ he)
theorem sort_strs {ds : List D} (h : ∀ d ∈ ds, ∃ x, d = .str x) : canSort ds = true := by
  unfold canSort
  simp only [Bool.and_eq_true, Bool.or_eq_true, List.all_eq_true, decide_eq_true_eq]
  refine ⟨⟨⟨fun d hd e he => ?_, .inr fun d hd => ?_⟩, fun d hd => ?_⟩, ?_⟩
  · obtain ⟨i, rfl⟩ := h d hd
    obtain ⟨j, rfl⟩ := h e he
    rfl
  · obtain ⟨i, rfl⟩ := h d hd
    rfl
  · obtain ⟨i, rfl⟩ := h d hd
    exact Nat.zero_le _
  · induction ds with
    | nil => rfl
    | cons d ds ih =>
      obtain ⟨i, rfl⟩ := h d List.mem_cons_self
      exact ih fun e he => h e (List.mem_cons_of_mem _ he)
theorem sort_pairs {ds : List D} (h : ∀ d ∈ ds, ∃ x y, d = .tuple [.str x, .str y]) : canSort ds = true := by
  unfold canSort
  simp only [Bool.and_eq_true, Bool.or_eq_true, List.all_eq_true, decide_eq_true_eq]
  refine ⟨⟨⟨fun d hd e he => ?_, .inl fun d hd => ?_⟩, fun d hd => ?_⟩, ?_⟩
  · obtain ⟨i, k, rfl⟩ := h d hd
    obtain ⟨j, l, rfl⟩ := h e he
    rfl
  · obtain ⟨i, k, rfl⟩ := h d hd
    rfl
  · obtain ⟨i, k, rfl⟩ := h d hd
    simp [PyData.depth, PyData.depthAll]
  · induction ds with
    | nil => rfl
    | cons d ds ih =>
      obtain ⟨i, k, rfl⟩ := h d List.mem_cons_self
      exact ih fun e he => h e (List.mem_cons_of_mem _ he)
theorem dSort_d {ds : List D} {b : Dv} {μ : Store} (e : items b μ = some (ds.map .d)) (h : canSort ds = true) (n : ds.length ≤ 16000000) : dSort [b] μ = .ok (.d (.list (srt ds))) μ := by
  show (match items b μ with | some bs => _ | none => _) = _
  rw [e]
  show (match allD (ds.map Dv.d) with | some ds => (if canSort ds = true then dList ((srt ds).map .d) μ else .bad) | none => .bad) = _
  rw [allD_map]
  show (if canSort ds = true then _ else _) = _
  rw [if_pos h, dList_d (by rw [srt_len]; exact Nat.le_trans n line_big)]
theorem keysD_strs : ∀ {ds : List D}, (∀ d ∈ ds, ∃ x, d = .str x) → ∃ ks, keysD ds = some ks ∧ ks.length = ds.length ∧ ∀ k ∈ ks, ∃ x, k = .inr x ∧ PyData.str x ∈ ds
  | [], _ => ⟨[], rfl, rfl, fun k h => by cases h⟩
  | d :: ds, h => by
    obtain ⟨x, rfl⟩ := h d List.mem_cons_self
    obtain ⟨ks, e, l, m⟩ := keysD_strs (ds := ds) fun e he => h e (List.mem_cons_of_mem _ he)
    refine ⟨.inr x :: ks, ?_, by rw [List.length_cons, List.length_cons, l], fun k hk => ?_⟩
    · show (match some (Sum.inr x : Key), keysD ds with | some k, some ks => some (k :: ks) | _, _ => none) = _
      rw [e]
    · rcases List.mem_cons.mp hk with e | hk
      · exact ⟨x, e, List.mem_cons_self⟩
      · obtain ⟨y, e1, e2⟩ := m k hk
        exact ⟨y, e1, List.mem_cons_of_mem _ e2⟩
theorem keysD_ints : ∀ {ds : List D}, (∀ d ∈ ds, ∃ x, d = .int x) → ∃ ks, keysD ds = some ks ∧ ks.length = ds.length ∧ ∀ k ∈ ks, ∃ x, k = .inl x ∧ PyData.int x ∈ ds
  | [], _ => ⟨[], rfl, rfl, fun k h => by cases h⟩
  | d :: ds, h => by
    obtain ⟨x, rfl⟩ := h d List.mem_cons_self
    obtain ⟨ks, e, l, m⟩ := keysD_ints (ds := ds) fun e he => h e (List.mem_cons_of_mem _ he)
    refine ⟨.inl x :: ks, ?_, by rw [List.length_cons, List.length_cons, l], fun k hk => ?_⟩
    · show (match some (Sum.inl x : Key), keysD ds with | some k, some ks => some (k :: ks) | _, _ => none) = _
      rw [e]
    · rcases List.mem_cons.mp hk with e | hk
      · exact ⟨x, e, List.mem_cons_self⟩
      · obtain ⟨y, e1, e2⟩ := m k hk
        exact ⟨y, e1, List.mem_cons_of_mem _ e2⟩
/-- sorted(set(xs)): some list of the items -/
theorem dSortSet_d {ds : List D} {b : Dv} {μ : Store} (e : items b μ = some (ds.map .d)) (h : (∀ d ∈ ds, ∃ x, d = .str x) ∨ ∀ d ∈ ds, ∃ x, d = .int x) (n : ds.length ≤ 1000) :
    ∃ es, dSortSet b μ = .ok (.d (.list es)) μ ∧ es.length ≤ ds.length ∧ ∀ d ∈ es, d ∈ ds := by
  obtain ⟨ks, e1, l, m⟩ : ∃ ks, keysD ds = some ks ∧ ks.length = ds.length ∧ ((∀ k ∈ ks, ∃ x, k = .inr x ∧ PyData.str x ∈ ds) ∨ ∀ k ∈ ks, ∃ x, k = .inl x ∧ PyData.int x ∈ ds) := by
    rcases h with h | h
    · obtain ⟨ks, a, b, c⟩ := keysD_strs h
      exact ⟨ks, a, b, .inl c⟩
    · obtain ⟨ks, a, b, c⟩ := keysD_ints h
      exact ⟨ks, a, b, .inr c⟩
  obtain ⟨d1, d2, d3⟩ := ddK_facts ks
  have cs : canSort ((ddK ks).map kD) = true := by
    rcases m with m | m
    · refine sort_strs fun d hd => ?_
      obtain ⟨k, hk, rfl⟩ := List.mem_map.mp hd
      obtain ⟨x, rfl, _⟩ := m k ((d2 k).mp hk)
      exact ⟨x, rfl⟩
    · refine sort_ints fun d hd => ?_
      obtain ⟨k, hk, rfl⟩ := List.mem_map.mp hd
      obtain ⟨x, rfl, _⟩ := m k ((d2 k).mp hk)
      exact ⟨x, rfl⟩
  refine ⟨(srtK (ddK ks)).map kD, ?_, ?_, fun d hd => ?_⟩
  · unfold dSortSet
    simp only [e, allD_map, e1, cs]
    have : decide (ks.length ≤ 1000) = true := decide_eq_true (by omega)
    rw [this]
    rfl
  · rw [List.length_map, (List.mergeSort_perm _ _).length_eq]
    omega
  · obtain ⟨k, hk, rfl⟩ := List.mem_map.mp hd
    have hk := (d2 k).mp ((List.mergeSort_perm _ _).mem_iff.mp hk)
    rcases m with m | m
    · obtain ⟨x, rfl, hx⟩ := m k hk
      exact hx
    · obtain ⟨x, rfl, hx⟩ := m k hk
      exact hx
end DL

namespace LW
open PySem PySem.Spec PyProof.Rows L2 DL
@[simp] theorem S_0 : ("fill" : Str) = T [102, 105, 108, 108] := by decide +kernel
@[simp] theorem S_1 : ("of" : Str) = T [111, 102] := by decide +kernel
@[simp] theorem S_2 : ("unlike" : Str) = T [117, 110, 108, 105, 107, 101] := by decide +kernel
@[simp] theorem S_3 : ("look" : Str) = T [108, 111, 111, 107] := by decide +kernel
@[simp] theorem S_4 : ("abcdefghijklmnopqrstuvwxyz" : Str) = T [97, 98, 99, 100, 101, 102, 103, 104, 105, 106, 107, 108, 109, 110, 111, 112, 113, 114, 115, 116, 117, 118, 119, 120, 121, 122] := by decide +kernel
@[simp] theorem S_5 : ("z" : Str) = T [122] := by decide +kernel
@[simp] theorem S_6 : ("a" : Str) = T [97] := by decide +kernel
@[simp] theorem S_7 : ("b" : Str) = T [98] := by decide +kernel
@[simp] theorem S_8 : ("a-b" : Str) = T [97, 45, 98] := by decide +kernel
@[simp] theorem S_9 : ("b-a" : Str) = T [98, 45, 97] := by decide +kernel
@[simp] theorem S_10 : ("1" : Str) = T [49] := by decide +kernel
@[simp] theorem S_11 : ("-2" : Str) = T [45, 50] := by decide +kernel
@[simp] theorem S_12 : ("007" : Str) = T [48, 48, 55] := by decide +kernel
@[simp] theorem S_13 : ("1.5" : Str) = T [49, 46, 53] := by decide +kernel
@[simp] theorem S_14 : ("2024-02-29" : Str) = T [50, 48, 50, 52, 45, 48, 50, 45, 50, 57] := by decide +kernel
@[simp] theorem S_15 : ("29.2.2024" : Str) = T [50, 57, 46, 50, 46, 50, 48, 50, 52] := by decide +kernel
@[simp] theorem S_16 : ("x y" : Str) = T [120, 32, 121] := by decide +kernel
@[simp] theorem S_17 : ("a-b-a" : Str) = T [97, 45, 98, 45, 97] := by decide +kernel
@[simp] theorem S_18 : ("named" : Str) = T [110, 97, 109, 101, 100] := by decide +kernel
@[simp] theorem S_19 : ("text" : Str) = T [116, 101, 120, 116] := by decide +kernel
@[simp] theorem S_20 : ("given" : Str) = T [103, 105, 118, 101, 110] := by decide +kernel
@[simp] theorem S_21 : ("put" : Str) = T [112, 117, 116] := by decide +kernel
@[simp] theorem S_22 : ("spell" : Str) = T [115, 112, 101, 108, 108] := by decide +kernel
@[simp] theorem S_23 : ("cut" : Str) = T [99, 117, 116] := by decide +kernel
@[simp] theorem S_24 : ("glue" : Str) = T [103, 108, 117, 101] := by decide +kernel
@[simp] theorem S_25 : ("read" : Str) = T [114, 101, 97, 100] := by decide +kernel
@[simp] theorem S_26 : ("zzzzzzzz" : Str) = T [122, 122, 122, 122, 122, 122, 122, 122] := by decide +kernel
@[simp] theorem S_27 : ("zzzzzzzs" : Str) = T [122, 122, 122, 122, 122, 122, 122, 115] := by decide +kernel
@[simp] theorem S_28 : ("" : Str) = T [] := by decide +kernel
@[simp] theorem S_29 : ("o" : Str) = T [111] := by decide +kernel
@[simp] theorem S_30 : ("row" : Str) = T [114, 111, 119] := by decide +kernel
@[simp] theorem S_31 : ("tabl" : Str) = T [116, 97, 98, 108] := by decide +kernel
@[simp] theorem S_32 : ("the" : Str) = T [116, 104, 101] := by decide +kernel
@[simp] theorem S_33 : ("fil" : Str) = T [102, 105, 108] := by decide +kernel
@[simp] theorem S_34 : ("qqqqqqq" : Str) = T [113, 113, 113, 113, 113, 113, 113] := by decide +kernel
@[simp] theorem S_35 : ("signs" : Str) = T [115, 105, 103, 110, 115] := by decide +kernel
@[simp] theorem S_36 : ("places" : Str) = T [112, 108, 97, 99, 101, 115] := by decide +kernel
@[simp] theorem S_37 : (",;|" : Str) = T [44, 59, 124] := by decide +kernel
@[simp] theorem S_38 : ("whole" : Str) = T [119, 104, 111, 108, 101] := by decide +kernel
@[simp] theorem S_39 : ("amount" : Str) = T [97, 109, 111, 117, 110, 116] := by decide +kernel
@[simp] theorem S_40 : ("day" : Str) = T [100, 97, 121] := by decide +kernel
@[simp] theorem S_41 : ("within" : Str) = T [119, 105, 116, 104, 105, 110] := by decide +kernel
@[simp] theorem S_42 : ("among" : Str) = T [97, 109, 111, 110, 103] := by decide +kernel
@[simp] theorem S_43 : ("before" : Str) = T [98, 101, 102, 111, 114, 101] := by decide +kernel
@[simp] theorem S_44 : ("!" : Str) = T [33] := by decide +kernel
@[simp] theorem S_45 : ("group" : Str) = T [103, 114, 111, 117, 112] := by decide +kernel
@[simp] theorem S_46 : ("long" : Str) = T [108, 111, 110, 103] := by decide +kernel
@[simp] theorem S_47 : ("zzzzzzza" : Str) = T [122, 122, 122, 122, 122, 122, 122, 97] := by decide +kernel
@[simp] theorem S_48 : ("zzzzzzzb" : Str) = T [122, 122, 122, 122, 122, 122, 122, 98] := by decide +kernel
@[simp] theorem S_49 : (",;|:" : Str) = T [44, 59, 124, 58] := by decide +kernel
@[simp] theorem S_50 : ("\"'" : Str) = T [34, 39] := by decide +kernel
@[simp] theorem S_51 : ("-. b" : Str) = T [45, 46, 32, 98] := by decide +kernel
@[simp] theorem S_52 : ("- 1" : Str) = T [45, 32, 49] := by decide +kernel
@[simp] theorem S_53 : ("number" : Str) = T [110, 117, 109, 98, 101, 114] := by decide +kernel
@[simp] theorem S_54 : ("zza" : Str) = T [122, 122, 97] := by decide +kernel
@[simp] theorem S_55 : ("zzb" : Str) = T [122, 122, 98] := by decide +kernel
@[simp] theorem S_56 : ("ymd" : Str) = T [121, 109, 100] := by decide +kernel
@[simp] theorem S_57 : ("dmy" : Str) = T [100, 109, 121] := by decide +kernel
@[simp] theorem S_58 : ("mdy" : Str) = T [109, 100, 121] := by decide +kernel
@[simp] theorem S_59 : ("count" : Str) = T [99, 111, 117, 110, 116] := by decide +kernel
/-! ### 1. The defs as data: what each comes to (printed by gen.py) -/
def top (i : Nat) : Stmt := PySem.Challenge.pw_cleanedtables_k86_programs_row_by_row.main.body.getD i (.Pass ⟨0, 0, 0, 0⟩)
abbrev s_l_box : Stmt := top 6
abbrev N_l_box : List Str := ["_law_script", "_law_k", "_law_cell", "_law_mixed"]
def r1_l_box : MS := sRet (eN cList (aCons (e2 dMulA (eN dAbs (aCons (eVar 2) (aNil))) (eN dInt (aCons (e2 dGe (eN dAbs (aCons (eVar 2) (aNil))) (e2 dPow (eC (.d (.int 10))) (eC (.d (.int 18))))) (aNil)))) (aCons (eVar 3) (aCons (eC (.d (.int 0))) (aNil)))))
def r2_l_box : MS := sSeq (sSet 3 (e2 dMod (e2 dAdd (e2 dAdd (e2 dMod (eVar 2) (eC (.d (.int 2305843009213693921)))) (e2 dMulA (e2 dMulA (eC (.d (.int 7907))) (eVar 1)) (eVar 1))) (eC (.d (.int 31)))) (eC (.d (.int 2305843009213693907))))) (r1_l_box)
def r3_l_box : MS := sSeq (sIf (tV (e2 dLt (eVar 1) (eN dLen (aCons (eVar 0) (aNil))))) (sSet 2 (e2 dIx (eVar 0) (eVar 1))) (sNext)) (r2_l_box)
def B_l_box : MS := sSeq (sSet 2 (eC (.d (.int 0)))) (r3_l_box)
def F_l_box : OpN := runB 4 B_l_box
abbrev s_l_take : Stmt := top 7
abbrev N_l_take : List Str := ["_law_box_here", "_law_many", "_law_digit", "_law_once"]
def r1_l_take : MS := sRet (eVar 2)
def r2_l_take : MS := sSeq (sSetIx (e2 dDiv (e2 dIx (eVar 0) (eC (.d (.int 0)))) (eVar 1)) (eVar 0) (eC (.d (.int 0)))) (r1_l_take)
def r3_l_take : MS := sRet (e2 dMod (e2 dAdd (e2 dDiv (eVar 3) (eC (.d (.int 97)))) (e2 dDiv (eVar 3) (eC (.d (.int 1000033))))) (eVar 1))
def r4_l_take : MS := sSeq (sSet 3 (e2 dMod (e2 dMulA (eVar 3) (e2 dAdd (e2 dMod (eVar 3) (eC (.d (.int 1000003)))) (e2 dMulA (eC (.d (.int 99991))) (e2 dIx (eVar 0) (eC (.d (.int 2))))))) (eC (.d (.int 2305843009213693907))))) (r3_l_take)
def r5_l_take : MS := sSeq (sSet 3 (e2 dMod (e2 dMulA (e2 dAdd (e2 dAdd (e2 dIx (eVar 0) (eC (.d (.int 1)))) (e2 dMulA (e2 dMulA (eC (.d (.int 40009))) (e2 dIx (eVar 0) (eC (.d (.int 2))))) (e2 dIx (eVar 0) (eC (.d (.int 2)))))) (eC (.d (.int 101)))) (eC (.d (.int 48271)))) (eC (.d (.int 2305843009213693921))))) (r4_l_take)
def r6_l_take : MS := sSeq (sSetIx (e2 dAdd (e2 dIx (eVar 0) (eC (.d (.int 2)))) (eC (.d (.int 1)))) (eVar 0) (eC (.d (.int 2)))) (r5_l_take)
def B_l_take : MS := sSeq (sIf (tV (e2 dGt (e2 dIx (eVar 0) (eC (.d (.int 0)))) (eC (.d (.int 0))))) (sSeq (sSet 2 (e2 dMod (e2 dIx (eVar 0) (eC (.d (.int 0)))) (eVar 1))) (r2_l_take)) (sNext)) (r6_l_take)
def F_l_take : OpN := runB 4 B_l_take
abbrev s_l_pick : Stmt := top 8
abbrev N_l_pick : List Str := ["_law_box_here", "_law_some"]
def B_l_pick : MS := sRet (e2 dIx (eVar 1) (eN (fCall 2 F_l_take) (aCons (eVar 0) (aCons (eN dLen (aCons (eVar 1) (aNil))) (aNil)))))
def F_l_pick : OpN := runB 2 B_l_pick
abbrev s_l_words : Stmt := top 9
abbrev N_l_words : List Str := ["_law_box_here", "_law_many", "_law_letters", "_law_stem", "_law_first", "_law_by", "_law_tail", "_law_k"]
def c1_l_words : ME := e2 dAdd (e2 dAdd (eVar 3) (e2 dIx (eVar 2) (e2 dMod (e2 dAdd (eVar 4) (e2 dMulA (eVar 5) (eVar 7))) (eC (.d (.int 26)))))) (eVar 6)
def r1_l_words : MS := sRet (eLc cList (iRng rng1 (aCons (eVar 1) (aNil))) (gN 7) (tYesM) (c1_l_words) [7])
def r2_l_words : MS := sSeq (sSet 6 (e2 dMulA (eC (.d (.str "z"))) (eN dInt (aCons (eAnd (e2 dLt (eN dLen (aCons (eVar 3) (aNil))) (eC (.d (.int 7)))) (e2 (dEq false) (eN (fCall 2 F_l_take) (aCons (eVar 0) (aCons (eC (.d (.int 4))) (aNil)))) (eC (.d (.int 0))))) (aNil))))) (r1_l_words)
def r3_l_words : MS := sSeq (sAsg (eN dTup (aCons (eN (fCall 2 F_l_take) (aCons (eVar 0) (aCons (eC (.d (.int 26))) (aNil)))) (aCons (eN (fCall 2 F_l_pick) (aCons (eVar 0) (aCons (eN dList (aCons (eC (.d (.int 1))) (aCons (eC (.d (.int 5))) (aCons (eC (.d (.int 7))) (aCons (eC (.d (.int 25))) (aNil)))))) (aNil)))) (aNil)))) (gT 2 (gsCons (gN 4) (gsCons (gN 5) (gsNil))))) (r2_l_words)
def r4_l_words : MS := sSeq (sSet 3 (eN (fCall 2 F_l_pick) (aCons (eVar 0) (aCons (eN dList (aCons (eC (.d (.str ""))) (aCons (eC (.d (.str ""))) (aCons (eC (.d (.str "o"))) (aCons (eC (.d (.str "row"))) (aCons (eC (.d (.str "tabl"))) (aCons (eC (.d (.str "the"))) (aCons (eC (.d (.str "fil"))) (aCons (eC (.d (.str "qqqqqqq"))) (aNil)))))))))) (aNil))))) (r3_l_words)
def B_l_words : MS := sSeq (sSet 2 (eC (.d (.str "abcdefghijklmnopqrstuvwxyz")))) (r4_l_words)
def F_l_words : OpN := runB 8 B_l_words
abbrev s_l_shape : Stmt := top 11
abbrev N_l_shape : List Str := ["_law_box_here", "_law_names", "_law_lot", "_law_sign", "_law_quote", "_law_name"]
def r1_l_shape : MS := sRet (eN dTup (aCons (eC (.d (.str "signs"))) (aCons (eVar 3) (aCons (eVar 4) (aCons (e1 dToTup (eVar 1)) (aNil))))))
def c1_l_shape : ME := e2 dAdd (eC (.d (.int 10))) (eN (fCall 2 F_l_take) (aCons (eVar 0) (aCons (eC (.d (.int 4))) (aNil))))
def r2_l_shape : MS := sRet (eN dTup (aCons (eC (.d (.str "named"))) (aCons (eN (fCall 2 F_l_pick) (aCons (eVar 0) (aCons (eC (.d (.str ",;|"))) (aNil)))) (aCons (e1 dToTup (eVar 1)) (aNil)))))
def r3_l_shape : MS := sSeq (sIf (tV (e2 (dEq false) (eVar 2) (eC (.d (.int 2))))) (sRet (eN dTup (aCons (eC (.d (.str "places"))) (aCons (e1 dToTup (eLc dList (iSeq (eVar 1)) (gN 5) (tYesM) (c1_l_shape) [5])) (aCons (e1 dToTup (eVar 1)) (aNil)))))) (sNext)) (r2_l_shape)
def r4_l_shape : MS := sSeq (sIf (tV (e2 dLt (eVar 2) (eC (.d (.int 2))))) (sSeq (sPar 3 4 (aCons (eN (fCall 2 F_l_pick) (aCons (eVar 0) (aCons (eC (.d (.str ",;|:"))) (aNil)))) (aCons (eN (fCall 2 F_l_pick) (aCons (eVar 0) (aCons (eC (.d (.str "\"'"))) (aNil)))) (aNil)))) (r1_l_shape)) (sNext)) (r3_l_shape)
def B_l_shape : MS := sSeq (sSet 2 (eN (fCall 2 F_l_take) (aCons (eVar 0) (aCons (eC (.d (.int 4))) (aNil))))) (r4_l_shape)
def F_l_shape : OpN := runB 6 B_l_shape
abbrev s_l_cells : Stmt := top 10
abbrev N_l_cells : List Str := []
def B_l_cells : MS := sRet (eN dList (aCons (eC (.d (.str "a"))) (aCons (eC (.d (.str "b"))) (aCons (eC (.d (.str "a-b"))) (aCons (eC (.d (.str "b-a"))) (aCons (eC (.d (.str "1"))) (aCons (eC (.d (.str "-2"))) (aCons (eC (.d (.str "007"))) (aCons (eC (.d (.str "1.5"))) (aCons (eC (.d (.str "2024-02-29"))) (aCons (eC (.d (.str "29.2.2024"))) (aCons (eC (.d (.str "x y"))) (aCons (eC (.d (.str "a-b-a"))) (aNil))))))))))))))
def F_l_cells : OpN := runB 0 B_l_cells
abbrev s_l_spell : Stmt := top 16
abbrev N_l_spell : List Str := ["_law_box_here", "_law_column", "_law_some", "_law_pairs", "_law_k", "_law_mine"]
def c1_l_spell : ME := eN (fCall 2 F_l_pick) (aCons (eVar 0) (aCons (eN (fCall 0 F_l_cells) aNil) (aNil)))
def c2_l_spell : ME := eN dTup (aCons (eVar 5) (aCons (eN (fCall 2 F_l_pick) (aCons (eVar 0) (aCons (eN dList (aCons (eC (.d .none)) (aCons (eC (.d (.str "a"))) (aCons (eC (.d (.str "1"))) (aCons (eC (.d (.str "b-a"))) (aNil)))))) (aNil)))) (aNil)))
def r1_l_spell : MS := sRet (eN dTup (aCons (eC (.d (.str "spell"))) (aCons (eVar 1) (aCons (e1 dToTup (eVar 3)) (aNil)))))
def r2_l_spell : MS := sSeq (sSet 3 (eLc dList (iSeq (e1 dSortSet (eVar 2))) (gN 5) (tYesM) (c2_l_spell) [5])) (r1_l_spell)
def B_l_spell : MS := sSeq (sSet 2 (eLc dList (iRng rng1 (aCons (e2 dAdd (eC (.d (.int 1))) (eN (fCall 2 F_l_take) (aCons (eVar 0) (aCons (eC (.d (.int 4))) (aNil))))) (aNil))) (gN 4) (tYesM) (c1_l_spell) [4])) (r2_l_spell)
def F_l_spell : OpN := runB 6 B_l_spell
abbrev s_l_form : Stmt := top 13
abbrev N_l_form : List Str := ["_law_box_here", "_law_lot"]
def r1_l_form : MS := sRet (eIf (tV (e2 dLt (eVar 1) (eC (.d (.int 5))))) (eN dTup (aCons (eC (.d (.str "amount"))) (aCons (e2 dSub (eVar 1) (eC (.d (.int 2)))) (aNil)))) (eN dTup (aCons (eC (.d (.str "day"))) (aCons (e2 dIx (eN dList (aCons (eC (.d (.str "ymd"))) (aCons (eC (.d (.str "dmy"))) (aCons (eC (.d (.str "mdy"))) (aNil))))) (e2 dSub (eVar 1) (eC (.d (.int 5))))) (aNil)))))
def r2_l_form : MS := sSeq (sIf (tV (e2 dLt (eVar 1) (eC (.d (.int 3))))) (sRet (eN dTup (aCons (eC (.d (.str "whole"))) (aNil)))) (sNext)) (r1_l_form)
def B_l_form : MS := sSeq (sSet 1 (eN (fCall 2 F_l_take) (aCons (eVar 0) (aCons (eC (.d (.int 8))) (aNil))))) (r2_l_form)
def F_l_form : OpN := runB 2 B_l_form
abbrev s_l_worth : Stmt := top 12
abbrev N_l_worth : List Str := ["_law_box_here", "_law_kind"]
def r1_l_worth : MS := sRet (eN (fCall 2 F_l_pick) (aCons (eVar 0) (aCons (eN dList (aCons (eC (.d (.int 0))) (aCons (eC (.d (.int 1))) (aCons (e1 dNeg (eC (.d (.int 2)))) (aCons (eC (.d (.int 7))) (aCons (eC (.d (.int 15))) (aCons (eC (.d (.int 150))) (aCons (eC (.d (.int 738944))) (aCons (eN (fCall 2 F_l_take) (aCons (eVar 0) (aCons (eC (.d (.int 1000))) (aNil)))) (aNil)))))))))) (aNil))))
def B_l_worth : MS := sSeq (sIf (tV (e2 (dEq false) (eVar 1) (eC (.d (.str "text"))))) (sRet (eN (fCall 2 F_l_pick) (aCons (eVar 0) (aCons (eN (fCall 0 F_l_cells) aNil) (aNil))))) (sNext)) (r1_l_worth)
def F_l_worth : OpN := runB 2 B_l_worth
abbrev s_l_put : Stmt := top 15
abbrev N_l_put : List Str := ["_law_box_here", "_law_known", "_law_column", "_law_kind"]
def r1_l_put : MS := sRet (eN dTup (aCons (eC (.d (.str "put"))) (aCons (eVar 2) (aCons (eN (fCall 2 F_l_worth) (aCons (eVar 0) (aCons (eVar 3) (aNil)))) (aNil)))))
def B_l_put : MS := sSeq (sAsg (eN (fCall 2 F_l_pick) (aCons (eVar 0) (aCons (eVar 1) (aNil)))) (gT 2 (gsCons (gN 2) (gsCons (gN 3) (gsNil))))) (r1_l_put)
def F_l_put : OpN := runB 4 B_l_put
abbrev s_l_wish : Stmt := top 14
abbrev N_l_wish : List Str := ["_law_box_here", "_law_lot", "_law_known", "_law_column", "_law_kind", "_law_like", "_law_some", "_law_name", "_law_s", "_law_k"]
def c1_l_wish : ME := eVar 7
def t1_l_wish : MT := tAndM (tV (e2 (dEq false) (eVar 8) (eVar 4))) (tV (e2 (dEq true) (eVar 7) (eVar 3)))
def r1_l_wish : MS := sRet (eN dTup (aCons (eC (.d (.str "within"))) (aCons (eVar 3) (aCons (e2 dIx (eVar 6) (eC (.d (.int 0)))) (aCons (e2 dIx (eVar 6) (eC (.d (.int 1)))) (aNil))))))
def c2_l_wish : ME := eN (fCall 2 F_l_worth) (aCons (eVar 0) (aCons (eVar 4) (aNil)))
def r2_l_wish : MS := sRet (eN dTup (aCons (eC (.d (.str "among"))) (aCons (eVar 3) (aCons (e1 dToTup (e1 dSortSet (eVar 6))) (aNil)))))
def r3_l_wish : MS := sRet (eN dTup (aCons (eC (.d (.str "given"))) (aCons (eVar 3) (aNil))))
def r4_l_wish : MS := sSeq (sIf (tAndM (tV (e2 (dEq false) (eVar 1) (eC (.d (.int 9))))) (tV (e2 (dEq true) (eVar 5) (eN dList (aNil))))) (sRet (eN dTup (aCons (eC (.d (.str "before"))) (aCons (eVar 3) (aCons (eN (fCall 2 F_l_pick) (aCons (eVar 0) (aCons (eVar 5) (aNil)))) (aNil)))))) (sNext)) (r3_l_wish)
def r5_l_wish : MS := sSeq (sIf (tV (e2 (dEq false) (eVar 1) (eC (.d (.int 8))))) (sSeq (sSet 6 (eLc dList (iRng rng1 (aCons (e2 dAdd (eC (.d (.int 1))) (eN (fCall 2 F_l_take) (aCons (eVar 0) (aCons (eC (.d (.int 3))) (aNil))))) (aNil))) (gN 9) (tYesM) (c2_l_wish) [9])) (r2_l_wish)) (sNext)) (r4_l_wish)
def r6_l_wish : MS := sSeq (sIf (tV (e2 (dEq false) (eVar 1) (eC (.d (.int 7))))) (sSeq (sSet 6 (eN dSort (aCons (eN dList (aCons (eN (fCall 2 F_l_worth) (aCons (eVar 0) (aCons (eVar 4) (aNil)))) (aCons (eN (fCall 2 F_l_worth) (aCons (eVar 0) (aCons (eVar 4) (aNil)))) (aNil)))) (aNil)))) (r1_l_wish)) (sNext)) (r5_l_wish)
def r7_l_wish : MS := sSeq (sSet 5 (eLcC dList (eVar 2) (gT 2 (gsCons (gN 7) (gsCons (gN 8) (gsNil)))) (t1_l_wish) (c1_l_wish) [7, 8] 1000)) (r6_l_wish)
def B_l_wish : MS := sSeq (sAsg (eN (fCall 2 F_l_pick) (aCons (eVar 0) (aCons (eVar 2) (aNil)))) (gT 2 (gsCons (gN 3) (gsCons (gN 4) (gsNil))))) (r7_l_wish)
def F_l_wish : OpN := runB 10 B_l_wish
abbrev s_l_deed : Stmt := top 17
abbrev N_l_deed : List Str := ["_law_box_here", "_law_names", "_law_known", "_law_fit", "_law_lot", "_law_column", "_law_news", "_law_base", "_law_more", "_law_some", "_law_name", "_law_kind", "_law_k", "_law_new"]
def c1_l_deed : ME := eVar 10
def t1_l_deed : MT := tV (e2 (dEq false) (eVar 11) (eC (.d (.str "text"))))
def c2_l_deed : ME := eM isLst dPop (eVar 1) aNil
def c3_l_deed : ME := eN dTup (aCons (eVar 13) (aCons (eC (.d (.str "text"))) (aNil)))
def r1_l_deed : MS := sRet (eN dTup (aCons (eC (.d (.str "cut"))) (aCons (eVar 5) (aCons (eN (fCall 2 F_l_pick) (aCons (eVar 0) (aCons (eC (.d (.str "-. b"))) (aNil)))) (aCons (e1 dToTup (eVar 6)) (aNil))))))
def r2_l_deed : MS := sSeq (sDrop (eM isLst dExtend (eVar 2) (aCons (eLc cList (iSeq (eVar 6)) (gN 13) (tYesM) (c3_l_deed) [13]) (aNil)))) (r1_l_deed)
def c4_l_deed : ME := eN (fCall 2 F_l_pick) (aCons (eVar 0) (aCons (eVar 7) (aNil)))
def r3_l_deed : MS := sRet (eN dTup (aCons (eC (.d (.str "glue"))) (aCons (e1 dToTup (eVar 9)) (aCons (eN (fCall 2 F_l_pick) (aCons (eVar 0) (aCons (eC (.d (.str "- 1"))) (aNil)))) (aCons (e2 dIx (e2 dIx (eVar 2) (e1 dNeg (eC (.d (.int 1))))) (eC (.d (.int 0)))) (aNil))))))
def r4_l_deed : MS := sSeq (sDrop (eM isLst dAppend (eVar 2) (aCons (eN dTup (aCons (eM isLst dPop (eVar 1) aNil) (aCons (eC (.d (.str "text"))) (aNil)))) (aNil)))) (r3_l_deed)
def r5_l_deed : MS := sSeq (sSet 9 (eLc dList (iRng rng1 (aCons (eVar 8) (aNil))) (gN 12) (tYesM) (c4_l_deed) [12])) (r4_l_deed)
def r6_l_deed : MS := sSeq (sSet 8 (e2 dAdd (eC (.d (.int 1))) (eN (fCall 2 F_l_take) (aCons (eVar 0) (aCons (e2 dIx (eN dList (aCons (eC (.d (.int 4))) (aCons (eC (.d (.int 2))) (aCons (eC (.d (.int 2))) (aNil))))) (e2 dSub (eN dLen (aCons (eVar 7) (aNil))) (eC (.d (.int 1))))) (aNil)))))) (r5_l_deed)
def r7_l_deed : MS := sRet (eN dTup (aCons (eC (.d (.str "read"))) (aCons (eVar 5) (aCons (eN (fCall 1 F_l_form) (aCons (eVar 0) (aNil))) (aCons (e2 dIx (e2 dIx (eVar 2) (e1 dNeg (eC (.d (.int 1))))) (eC (.d (.int 0)))) (aNil))))))
def r8_l_deed : MS := sRet (eIf (tV (e2 (dEq false) (eVar 4) (eC (.d (.int 5))))) (eN (fCall 2 F_l_put) (aCons (eVar 0) (aCons (eVar 2) (aNil)))) (eN (fCall 3 F_l_wish) (aCons (eVar 0) (aCons (eVar 4) (aCons (eVar 2) (aNil))))))
def r9_l_deed : MS := sSeq (sIf (tV (e2 dGt (eVar 4) (eC (.d (.int 9))))) (sRet (eN dTup (aCons (eC (.d (.str "fill"))) (aCons (e2 dIx (eN (fCall 2 F_l_pick) (aCons (eVar 0) (aCons (eVar 2) (aNil)))) (eC (.d (.int 0)))) (aCons (eN dTup (aNil)) (aNil)))))) (sNext)) (r8_l_deed)
def r10_l_deed : MS := sSeq (sIf (tV (e2 dLt (eVar 4) (eC (.d (.int 5))))) (sSeq (sDrop (eM isLst dAppend (eVar 2) (aCons (eN dTup (aCons (eM isLst dPop (eVar 1) aNil) (aCons (eC (.d (.str "number"))) (aNil)))) (aNil)))) (r7_l_deed)) (sNext)) (r9_l_deed)
def r11_l_deed : MS := sSeq (sIf (tV (e2 (dEq false) (eVar 4) (eC (.d (.int 2))))) (sRet (eN (fCall 2 F_l_spell) (aCons (eVar 0) (aCons (eVar 5) (aNil))))) (sNext)) (r10_l_deed)
def r12_l_deed : MS := sSeq (sIf (tV (e2 (dEq false) (eVar 4) (eC (.d (.int 1))))) (sSeq (sSet 7 (eSl (eVar 3) (oNone) (oSome (e2 dAdd (eC (.d (.int 1))) (eN (fCall 2 F_l_take) (aCons (eVar 0) (aCons (eC (.d (.int 3))) (aNil)))))))) (r6_l_deed)) (sNext)) (r11_l_deed)
def r13_l_deed : MS := sSeq (sIf (tV (e2 (dEq false) (eVar 4) (eC (.d (.int 0))))) (sSeq (sSet 6 (eLc dList (iRng rng1 (aCons (e2 dAdd (eC (.d (.int 2))) (eN (fCall 2 F_l_take) (aCons (eVar 0) (aCons (eC (.d (.int 2))) (aNil))))) (aNil))) (gN 12) (tYesM) (c2_l_deed) [12])) (r2_l_deed)) (sNext)) (r12_l_deed)
def r14_l_deed : MS := sSeq (sIf (tAndM (tV (e2 dGt (eN dLen (aCons (eVar 2) (aNil))) (eC (.d (.int 6))))) (tV (e2 dLt (eVar 4) (eC (.d (.int 5)))))) (sSet 4 (e2 dAdd (eC (.d (.int 8))) (eVar 4))) (sNext)) (r13_l_deed)
def r15_l_deed : MS := sSeq (sPar 4 5 (aCons (eN (fCall 2 F_l_take) (aCons (eVar 0) (aCons (eC (.d (.int 13))) (aNil)))) (aCons (eN (fCall 2 F_l_pick) (aCons (eVar 0) (aCons (eVar 3) (aNil)))) (aNil)))) (r14_l_deed)
def B_l_deed : MS := sSeq (sSet 3 (eLcC dList (eVar 2) (gT 2 (gsCons (gN 10) (gsCons (gN 11) (gsNil)))) (t1_l_deed) (c1_l_deed) [10, 11] 1000)) (r15_l_deed)
def F_l_deed : OpN := runB 14 B_l_deed
abbrev s_l_touches : Stmt := top 18
abbrev N_l_touches : List Str := ["_law_step", "_law_word"]
def r1_l_touches : MS := sRet (eN dList (aCons (eIf (tV (e2 (dEq false) (eVar 1) (eC (.d (.str "before"))))) (eN dList (aCons (e2 dIx (eVar 0) (eC (.d (.int 2)))) (aCons (e2 dIx (eVar 0) (eC (.d (.int 3)))) (aNil)))) (eN dList (aCons (e2 dIx (eVar 0) (eC (.d (.int 2)))) (aNil)))) (aCons (eN dList (aCons (eC (.d (.str "!"))) (aNil))) (aNil))))
def r2_l_touches : MS := sSeq (sIf (tV (e2 (dEq false) (eVar 1) (eC (.d (.str "fill"))))) (sRet (eN dList (aCons (e2 dAdd (eN dList (aCons (e2 dIx (eVar 0) (eC (.d (.int 2)))) (aCons (eC (.d (.str "!"))) (aNil)))) (eN (dToList dList) (aCons (e2 dIx (eVar 0) (eC (.d (.int 3)))) (aNil)))) (aCons (eN dList (aCons (e2 dIx (eVar 0) (eC (.d (.int 2)))) (aNil))) (aNil))))) (sNext)) (r1_l_touches)
def r3_l_touches : MS := sSeq (sIf (tV (e2 (dIn false) (eVar 1) (eN dTup (aCons (eC (.d (.str "spell"))) (aCons (eC (.d (.str "put"))) (aNil)))))) (sRet (eN dList (aCons (eN dList (aCons (e2 dIx (eVar 0) (eC (.d (.int 2)))) (aNil))) (aCons (eN dList (aCons (e2 dIx (eVar 0) (eC (.d (.int 2)))) (aNil))) (aNil))))) (sNext)) (r2_l_touches)
def r4_l_touches : MS := sSeq (sIf (tV (e2 (dEq false) (eVar 1) (eC (.d (.str "read"))))) (sRet (eN dList (aCons (eN dList (aCons (e2 dIx (eVar 0) (eC (.d (.int 2)))) (aNil))) (aCons (eN dList (aCons (e2 dIx (eVar 0) (eC (.d (.int 4)))) (aCons (eC (.d (.str "!"))) (aNil)))) (aNil))))) (sNext)) (r3_l_touches)
def r5_l_touches : MS := sSeq (sIf (tV (e2 (dEq false) (eVar 1) (eC (.d (.str "glue"))))) (sRet (eN dList (aCons (eN (dToList dList) (aCons (e2 dIx (eVar 0) (eC (.d (.int 2)))) (aNil))) (aCons (eN dList (aCons (e2 dIx (eVar 0) (eC (.d (.int 4)))) (aNil))) (aNil))))) (sNext)) (r4_l_touches)
def r6_l_touches : MS := sSeq (sIf (tV (e2 (dEq false) (eVar 1) (eC (.d (.str "cut"))))) (sRet (eN dList (aCons (eN dList (aCons (e2 dIx (eVar 0) (eC (.d (.int 2)))) (aNil))) (aCons (e2 dAdd (eN (dToList dList) (aCons (e2 dIx (eVar 0) (eC (.d (.int 4)))) (aNil))) (eN dList (aCons (eC (.d (.str "!"))) (aNil)))) (aNil))))) (sNext)) (r5_l_touches)
def B_l_touches : MS := sSeq (sSet 1 (e2 dIx (eVar 0) (eC (.d (.int 1))))) (r6_l_touches)
def F_l_touches : OpN := runB 2 B_l_touches
abbrev s_l_apart : Stmt := top 19
abbrev N_l_apart : List Str := ["_law_step", "_law_later", "_law_mine", "_law_its", "_law_what"]
def c1_l_apart : ME := eOr (e2 (dIn false) (eVar 4) (e2 dIx (eVar 3) (eC (.d (.int 0))))) (eAnd (e2 (dIn false) (eVar 4) (e2 dIx (eVar 3) (eC (.d (.int 1))))) (e2 (dEq true) (eVar 4) (eC (.d (.str "!")))))
def c2_l_apart : ME := e2 (dIn false) (eVar 4) (e2 dIx (eVar 2) (eC (.d (.int 0))))
def r1_l_apart : MS := sRet (eNot (eN (dAll fun ks => ks.any id) (aCons (eLc dList (iSeq (e2 dIx (eVar 3) (eC (.d (.int 1))))) (gN 4) (tYesM) (c2_l_apart) [4]) (aNil))))
def r2_l_apart : MS := sSeq (sIf (tV (eN (dAll fun ks => ks.any id) (aCons (eLc dList (iSeq (e2 dIx (eVar 2) (eC (.d (.int 1))))) (gN 4) (tYesM) (c1_l_apart) [4]) (aNil)))) (sRet (eC (.d (.bool false)))) (sNext)) (r1_l_apart)
def B_l_apart : MS := sSeq (sAsg (eN dTup (aCons (eN (fCall 1 F_l_touches) (aCons (eVar 0) (aNil))) (aCons (eN (fCall 1 F_l_touches) (aCons (eVar 1) (aNil))) (aNil)))) (gT 2 (gsCons (gN 2) (gsCons (gN 3) (gsNil))))) (r2_l_apart)
def F_l_apart : OpN := runB 5 B_l_apart
abbrev s_l_behinds : Stmt := top 20
abbrev N_l_behinds : List Str := ["_law_steps", "_law_found", "_law_k", "_law_step", "_law_rest", "_law_later"]
def c1_l_behinds : ME := eVar 5
def t1_l_behinds : MT := tNotM (tV (eN (fCall 2 F_l_apart) (aCons (eVar 3) (aCons (eVar 5) (aNil)))))
def c2_l_behinds : ME := eN dTup (aCons (e2 dIx (eVar 3) (eC (.d (.int 0)))) (aCons (e2 dIx (eVar 5) (eC (.d (.int 0)))) (aNil)))
def r1_l_behinds : MS := sDrop (eM isLst dExtend (eVar 1) (aCons (eLc cList (iSeq (eVar 4)) (gN 5) (tYesM) (c2_l_behinds) [5]) (aNil)))
def w1_l_behinds : MS := sSeq (sSet 4 (eLc dList (iSeq (eSl (eVar 0) (oSome (e2 dAdd (eVar 2) (eC (.d (.int 1))))) (oNone))) (gN 5) (t1_l_behinds) (c1_l_behinds) [5])) (r1_l_behinds)
def r2_l_behinds : MS := sRet (e1 dToTup (eN dSort (aCons (eVar 1) (aNil))))
def r3_l_behinds : MS := sSeq (sForE (eVar 0) (gT 2 (gsCons (gN 2) (gsCons (gN 3) (gsNil)))) (w1_l_behinds) 1000) (r2_l_behinds)
def B_l_behinds : MS := sSeq (sSet 1 (eN cList (aNil))) (r3_l_behinds)
def F_l_behinds : OpN := runB 6 B_l_behinds
abbrev s_l_plan : Stmt := top 21
abbrev N_l_plan : List Str := ["_law_box_here", "_law_most", "_law_names", "_law_calls", "_law_columns", "_law_known", "_law_steps", "_law_shape_here", "_law_k", "_law_its", "_law_column"]
def c1_l_plan : ME := eM isLst dPop (eVar 2) aNil
def c2_l_plan : ME := eN dTup (aCons (eVar 10) (aCons (eC (.d (.str "text"))) (aNil)))
def w1_l_plan : MS := sDrop (eM isLst dAppend (eVar 6) (aCons (e2 dAdd (eN dTup (aCons (e2 dIx (eVar 3) (eVar 8)) (aNil))) (eN (fCall 3 F_l_deed) (aCons (eVar 0) (aCons (eVar 2) (aCons (eVar 5) (aNil)))))) (aNil)))
def r1_l_plan : MS := sRet (eN dTup (aCons (eN dTup (aCons (eN dTup (aCons (e2 dIx (eVar 3) (eC (.d (.int 10)))) (aCons (eVar 7) (aNil)))) (aNil))) (aCons (eN dTup (aCons (eVar 9) (aNil))) (aNil))))
def r2_l_plan : MS := sSeq (sSet 9 (eN dTup (aCons (e2 dIx (eVar 3) (eC (.d (.int 11)))) (aCons (eN dTup (aCons (eC (.d (.str "of"))) (aCons (e2 dIx (eVar 3) (eC (.d (.int 10)))) (aNil)))) (aCons (e1 dToTup (eVar 6)) (aCons (eN (fCall 1 F_l_behinds) (aCons (eVar 6) (aNil))) (aNil))))))) (r1_l_plan)
def r3_l_plan : MS := sSeq (sFor (iRng rng1 (aCons (eN (fCall 2 F_l_take) (aCons (eVar 0) (aCons (e2 dAdd (eVar 1) (eC (.d (.int 1)))) (aNil)))) (aNil))) (gN 8) (w1_l_plan)) (r2_l_plan)
def r4_l_plan : MS := sSeq (sSet 7 (eN (fCall 2 F_l_shape) (aCons (eVar 0) (aCons (eVar 4) (aNil))))) (r3_l_plan)
def r5_l_plan : MS := sSeq (sPar 5 6 (aCons (eLc cList (iSeq (eVar 4)) (gN 10) (tYesM) (c2_l_plan) [10]) (aCons (eN cList (aNil)) (aNil)))) (r4_l_plan)
def r6_l_plan : MS := sSeq (sSet 4 (eLc dList (iRng rng1 (aCons (e2 dAdd (eC (.d (.int 1))) (eN (fCall 2 F_l_take) (aCons (eVar 0) (aCons (eC (.d (.int 3))) (aNil))))) (aNil))) (gN 8) (tYesM) (c1_l_plan) [8])) (r5_l_plan)
def B_l_plan : MS := sSeq (sAsgT 2 (aCons (eN (fCall 2 F_l_words) (aCons (eVar 0) (aCons (eC (.d (.int 24))) (aNil)))) (aCons (eN (fCall 2 F_l_words) (aCons (eVar 0) (aCons (eC (.d (.int 12))) (aNil)))) (aNil))) (gsCons (gN 2) (gsCons (gN 3) (gsNil)))) (r6_l_plan)
def F_l_plan : OpN := runB 11 B_l_plan
abbrev s_l_more_step : Stmt := top 22
abbrev N_l_more_step : List Str := ["_law_box_here", "_law_plan_here", "_law_name", "_law_origin", "_law_steps", "_law_behinds_here", "_law_columns", "_law_lot", "_law_column", "_law_rest", "_law_step", "_law_more", "_law_later", "_law_its", "_law_ahead"]
def c1_l_more_step : ME := eVar 13
def t1_l_more_step : MT := tV (e2 (dEq true) (eVar 13) (eVar 8))
def c2_l_more_step : ME := eN dTup (aCons (e2 dIx (eVar 14) (eC (.d (.int 0)))) (aCons (e2 dIx (eVar 10) (eC (.d (.int 0)))) (aNil)))
def r1_l_more_step : MS := sRet (eN dTup (aCons (e2 dIx (eVar 1) (eC (.d (.int 0)))) (aCons (eN dTup (aCons (eN dTup (aCons (eVar 2) (aCons (eVar 3) (aCons (eVar 11) (aCons (e1 dToTup (eN dSort (aCons (e2 dAdd (eN (dToList dList) (aCons (eVar 5) (aNil))) (eVar 12)) (aNil)))) (aNil)))))) (aNil))) (aNil))))
def r2_l_more_step : MS := sSeq (sSet 12 (eLc dList (iSeq (eVar 4)) (gN 14) (tYesM) (c2_l_more_step) [14])) (r1_l_more_step)
def r3_l_more_step : MS := sSeq (sSet 11 (e2 dAdd (eVar 4) (eN dTup (aCons (eVar 10) (aNil))))) (r2_l_more_step)
def r4_l_more_step : MS := sSeq (sIf (tV (e2 dGt (eVar 7) (eC (.d (.int 1))))) (sSet 10 (e2 dAdd (eN dTup (aCons (eC (.d (.str "zzzzzzzz"))) (aNil))) (e2 dIx (eN dList (aCons (eN dTup (aCons (eC (.d (.str "given"))) (aCons (eVar 8) (aNil)))) (aCons (eN dTup (aCons (eC (.d (.str "fill"))) (aCons (eVar 8) (aCons (eN dTup (aNil)) (aNil))))) (aNil)))) (e2 dSub (eVar 7) (eC (.d (.int 2))))))) (sNext)) (r3_l_more_step)
def r5_l_more_step : MS := sSeq (sIf (tV (e2 (dEq false) (eVar 7) (eC (.d (.int 1))))) (sSet 10 (eN dTup (aCons (eC (.d (.str "zzzzzzzz"))) (aCons (eC (.d (.str "fill"))) (aCons (eVar 8) (aCons (e1 dToTup (eSl (eVar 9) (oNone) (oSome (e2 dAdd (eC (.d (.int 1))) (eN (fCall 2 F_l_take) (aCons (eVar 0) (aCons (eC (.d (.int 2))) (aNil)))))))) (aNil))))))) (sNext)) (r4_l_more_step)
def r6_l_more_step : MS := sSeq (sSet 10 (eN dTup (aCons (eC (.d (.str "zzzzzzzz"))) (aCons (eC (.d (.str "unlike"))) (aCons (e2 dAdd (eN dTup (aCons (eVar 8) (aNil))) (e1 dToTup (eSl (eVar 9) (oNone) (oSome (eN (fCall 2 F_l_take) (aCons (eVar 0) (aCons (eC (.d (.int 2))) (aNil)))))))) (aNil)))))) (r5_l_more_step)
def r7_l_more_step : MS := sSeq (sSet 9 (eLc dList (iSeq (eVar 6)) (gN 13) (t1_l_more_step) (c1_l_more_step) [13])) (r6_l_more_step)
def r8_l_more_step : MS := sSeq (sAsg (eN dTup (aCons (eN (fCall 2 F_l_take) (aCons (eVar 0) (aCons (eC (.d (.int 4))) (aNil)))) (aCons (eN (fCall 2 F_l_pick) (aCons (eVar 0) (aCons (eVar 6) (aNil)))) (aNil)))) (gT 2 (gsCons (gN 7) (gsCons (gN 8) (gsNil))))) (r7_l_more_step)
def r9_l_more_step : MS := sSeq (sSet 6 (e2 dIx (e2 dIx (e2 dIx (e2 dIx (eVar 1) (eC (.d (.int 0)))) (eC (.d (.int 0)))) (eC (.d (.int 1)))) (e1 dNeg (eC (.d (.int 1)))))) (r8_l_more_step)
def B_l_more_step : MS := sSeq (sAsg (e2 dIx (e2 dIx (eVar 1) (eC (.d (.int 1)))) (eC (.d (.int 0)))) (gT 4 (gsCons (gN 2) (gsCons (gN 3) (gsCons (gN 4) (gsCons (gN 5) (gsNil))))))) (r9_l_more_step)
def F_l_more_step : OpN := runB 15 B_l_more_step
abbrev s_l_more_table : Stmt := top 23
abbrev N_l_more_table : List Str := ["_law_box_here", "_law_plan_here", "_law_name", "_law_origin", "_law_steps", "_law_behinds_here", "_law_column", "_law_some"]
def r1_l_more_table : MS := sRet (eN dTup (aCons (e2 dIx (eVar 1) (eC (.d (.int 0)))) (aCons (e2 dAdd (e2 dIx (eVar 1) (eC (.d (.int 1)))) (eN dTup (aCons (eN dTup (aCons (eC (.d (.str "zzzzzzzz"))) (aCons (eN (fCall 2 F_l_pick) (aCons (eVar 0) (aCons (eVar 7) (aNil)))) (aCons (eN dTup (aNil)) (aCons (eN dTup (aNil)) (aNil)))))) (aNil)))) (aNil))))
def r2_l_more_table : MS := sSeq (sDrop (eM isLst dAppend (eVar 7) (aCons (eN dTup (aCons (eC (.d (.str "long"))) (aCons (eVar 2) (aCons (eN dTup (aCons (eVar 6) (aNil))) (aCons (eC (.d (.str "zzzzzzza"))) (aCons (eC (.d (.str "zzzzzzzb"))) (aNil))))))) (aNil)))) (r1_l_more_table)
def r3_l_more_table : MS := sSeq (sSet 7 (eN cList (aCons (eVar 3) (aCons (eN dTup (aCons (eC (.d (.str "group"))) (aCons (eVar 2) (aCons (eN dTup (aCons (eVar 6) (aNil))) (aCons (eN dTup (aCons (eN dTup (aCons (eC (.d (.str "zzzzzzza"))) (aCons (eC (.d (.str "count"))) (aCons (eC (.d .none)) (aNil))))) (aNil))) (aNil)))))) (aNil))))) (r2_l_more_table)
def r4_l_more_table : MS := sSeq (sSet 6 (e2 dIx (e2 dIx (e2 dIx (e2 dIx (e2 dIx (eVar 1) (eC (.d (.int 0)))) (eC (.d (.int 0)))) (eC (.d (.int 1)))) (e1 dNeg (eC (.d (.int 1))))) (eC (.d (.int 0))))) (r3_l_more_table)
def B_l_more_table : MS := sSeq (sAsg (e2 dIx (e2 dIx (eVar 1) (eC (.d (.int 1)))) (eC (.d (.int 0)))) (gT 4 (gsCons (gN 2) (gsCons (gN 3) (gsCons (gN 4) (gsCons (gN 5) (gsNil))))))) (r4_l_more_table)
def F_l_more_table : OpN := runB 8 B_l_more_table
abbrev s_l_more_source : Stmt := top 24
abbrev N_l_more_source : List Str := ["_law_box_here", "_law_plan_here", "_law_more"]
def r1_l_more_source : MS := sRet (eN dTup (aCons (eIf (tV (e2 (dEq false) (eN (fCall 2 F_l_take) (aCons (eVar 0) (aCons (eC (.d (.int 2))) (aNil)))) (eC (.d (.int 0))))) (e2 dAdd (eN dTup (aCons (eVar 2) (aNil))) (e2 dIx (eVar 1) (eC (.d (.int 0))))) (e2 dAdd (e2 dIx (eVar 1) (eC (.d (.int 0)))) (eN dTup (aCons (eVar 2) (aNil))))) (aCons (e2 dIx (eVar 1) (eC (.d (.int 1)))) (aNil))))
def B_l_more_source : MS := sSeq (sSet 2 (eN dTup (aCons (eC (.d (.str "zzzzzzzs"))) (aCons (eN (fCall 2 F_l_shape) (aCons (eVar 0) (aCons (eN dList (aCons (eC (.d (.str "zza"))) (aCons (eC (.d (.str "zzb"))) (aNil)))) (aNil)))) (aNil))))) (r1_l_more_source)
def F_l_more_source : OpN := runB 3 B_l_more_source
abbrev s_l_goes : Stmt := top 25
abbrev N_l_goes : List Str := ["_law_plan_here", "_law_step"]
def w1_l_goes : MS := sIf (tOrM (tV (e2 (dIn false) (e2 dIx (eVar 1) (eC (.d (.int 1)))) (eN dTup (aCons (eC (.d (.str "unlike"))) (aCons (eC (.d (.str "look"))) (aNil)))))) (tAndM (tV (e2 (dEq false) (e2 dIx (eVar 1) (eC (.d (.int 1)))) (eC (.d (.str "fill"))))) (tV (e2 (dEq true) (e2 dIx (eVar 1) (eC (.d (.int 3)))) (eN dTup (aNil)))))) (sRet (eC (.d (.bool false)))) (sNext)
def r1_l_goes : MS := sRet (eC (.d (.bool true)))
def r2_l_goes : MS := sSeq (sFor (iSeq (e2 dIx (e2 dIx (e2 dIx (eVar 0) (eC (.d (.int 1)))) (eC (.d (.int 0)))) (eC (.d (.int 2))))) (gN 1) (w1_l_goes)) (r1_l_goes)
def B_l_goes : MS := sSeq (sIf (tOrM (tV (e2 dGt (eN dLen (aCons (e2 dIx (eVar 0) (eC (.d (.int 1)))) (aNil))) (eC (.d (.int 1))))) (tV (e2 (dEq true) (e2 dIx (e2 dIx (e2 dIx (e2 dIx (eVar 0) (eC (.d (.int 1)))) (eC (.d (.int 0)))) (eC (.d (.int 1)))) (eC (.d (.int 0)))) (eC (.d (.str "of")))))) (sRet (eC (.d (.bool false)))) (sNext)) (r2_l_goes)
def F_l_goes : OpN := runB 2 B_l_goes
abbrev s_goes_by_rows : Stmt := top 4
abbrev N_goes_by_rows : List Str := ["program", "sources", "tables", "steps", "step"]
def c1_goes_by_rows : ME := eOr (e2 (dIn false) (e2 dIx (eVar 4) (eC (.d (.int 1)))) (eC (.d (.tuple [.str "unlike", .str "look"])))) (eAnd (e2 (dEq false) (e2 dIx (eVar 4) (eC (.d (.int 1)))) (eC (.d (.str "fill")))) (e2 (dEq true) (e2 dIx (eVar 4) (eC (.d (.int 3)))) (eN dTup (aNil))))
def r1_goes_by_rows : MS := sRet (eNot (eN (dAll fun ks => ks.any id) (aCons (eLc dList (iSeq (eVar 3)) (gN 4) (tYesM) (c1_goes_by_rows) [4]) (aNil))))
def r2_goes_by_rows : MS := sSeq (sSet 3 (e2 dIx (e2 dIx (eVar 2) (eC (.d (.int 0)))) (eC (.d (.int 2))))) (r1_goes_by_rows)
def r3_goes_by_rows : MS := sSeq (sIf (tOrM (tV (e2 (dEq true) (eN dLen (aCons (eVar 2) (aNil))) (eC (.d (.int 1))))) (tV (e2 (dEq true) (e2 dIx (e2 dIx (e2 dIx (eVar 2) (eC (.d (.int 0)))) (eC (.d (.int 1)))) (eC (.d (.int 0)))) (eC (.d (.str "of")))))) (sRet (eC (.d (.bool false)))) (sNext)) (r2_goes_by_rows)
def B_goes_by_rows : MS := sSeq (sAsg (eVar 0) (gT 2 (gsCons (gN 1) (gsCons (gN 2) (gsNil))))) (r3_goes_by_rows)
def F_goes_by_rows : OpN := runB 5 B_goes_by_rows
abbrev s_l_right : Stmt := top 26
abbrev N_l_right : List Str := ["_law_plan_here", "_law_kept", "_law_due", "_law_told"]
def r1_l_right : MS := sRet (eAnd (e2 (dEq false) (eN dRepr (aCons (eVar 3) (aNil))) (eN dRepr (aCons (eN dList (aCons (eVar 2) (aCons (eVar 2) (aCons (eVar 2) (aNil))))) (aNil)))) (e2 (dEq false) (eN dRepr (aCons (eVar 0) (aNil))) (eVar 1)))
def r2_l_right : MS := sSeq (sSet 3 (eN dList (aCons (eN (fCall 1 F_goes_by_rows) (aCons (eVar 0) (aNil))) (aCons (eCallK 1 1 [0] F_goes_by_rows aNil (aCons (eVar 0) (aNil))) (aCons (eN (fCall 1 F_goes_by_rows) (aCons (eVar 0) (aNil))) (aNil)))))) (r1_l_right)
def B_l_right : MS := sSeq (sPar 1 2 (aCons (eN dRepr (aCons (eVar 0) (aNil))) (aCons (eN (fCall 1 F_l_goes) (aCons (eVar 0) (aNil))) (aNil)))) (r2_l_right)
def F_l_right : OpN := runB 4 B_l_right
abbrev s_law : Stmt := top 27
abbrev N_law : List Str := ["_law_script", "_law_k", "_law_box_here", "_law_turn", "_law_plan_here", "_law_some", "_law_its"]
def c1_law : ME := eN (fCall 1 F_l_right) (aCons (eVar 6) (aNil))
def r1_law : MS := sIf (tNotM (tV (eN (dAll fun ks => ks.all id) (aCons (eLc dList (iSeq (eVar 5)) (gN 6) (tYesM) (c1_law) [6]) (aNil))))) (sRet (eC (.d (.bool false)))) (sNext)
def r2_law : MS := sSeq (sSet 5 (e2 dAdd (eVar 5) (eN dList (aCons (eN (fCall 2 F_l_more_source) (aCons (eVar 2) (aCons (eVar 4) (aNil)))) (aCons (eN (fCall 2 F_l_more_source) (aCons (eVar 2) (aCons (e2 dIx (eVar 5) (eC (.d (.int 1)))) (aNil)))) (aNil)))))) (r1_law)
def r3_law : MS := sSeq (sSet 5 (e2 dAdd (eVar 5) (eN dList (aCons (eN (fCall 2 F_l_more_table) (aCons (eVar 2) (aCons (eVar 4) (aNil)))) (aCons (eN (fCall 2 F_l_more_table) (aCons (eVar 2) (aCons (e2 dIx (eVar 5) (eC (.d (.int 1)))) (aNil)))) (aNil)))))) (r2_law)
def r4_law : MS := sSeq (sSet 5 (eN dList (aCons (eVar 4) (aCons (eN (fCall 2 F_l_more_step) (aCons (eVar 2) (aCons (eVar 4) (aNil)))) (aCons (eN (fCall 2 F_l_more_step) (aCons (eVar 2) (aCons (eVar 4) (aNil)))) (aNil)))))) (r3_law)
def w1_law : MS := sSeq (sSet 4 (eN (fCall 2 F_l_plan) (aCons (eVar 2) (aCons (eC (.d (.int 6))) (aNil))))) (r4_law)
def r5_law : MS := sFor (iRng rng1 (aCons (eC (.d (.int 4))) (aNil))) (gN 3) (w1_law)
def w2_law : MS := sSeq (sSet 2 (eN (fCall 2 F_l_box) (aCons (eVar 0) (aCons (eVar 1) (aNil))))) (r5_law)
def r6_law : MS := sRet (eC (.d (.bool true)))
def B_law : MS := sSeq (sFor (iRng rng1 (aCons (e2 dAdd (eC (.d (.int 1))) (eN dLen (aCons (eSl (eVar 0) (oNone) (oSome (eC (.d (.int 4))))) (aNil)))) (aNil))) (gN 1) (w2_law)) (r6_law)
def F_law : OpN := runB 7 B_law
/-! ### 2. Each def keeps its data form -/
abbrev GG (K : PySem.W.Frag) : GT := ⟨K, fun _ => none⟩
structure Tx (K : PySem.W.Frag) (mg : Str → Option Value) : Prop where
  b_abs : mg "abs" = none
  b_all : mg "all" = none
  b_any : mg "any" = none
  b_enumerate : mg "enumerate" = none
  b_int : mg "int" = none
  b_len : mg "len" = none
  b_list : mg "list" = none
  b_range : mg "range" = none
  b_repr : mg "repr" = none
  b_set : mg "set" = none
  b_sorted : mg "sorted" = none
  b_tuple : mg "tuple" = none
  c_FILL : ∃ t, mg "FILL" = some (.str "fill" t)
  c_OF : ∃ t, mg "OF" = some (.str "of" t)
  c_WIDE_STEPS : ∃ a, mg "WIDE_STEPS" = some (.ref a) ∧ ∀ I : Hp, Rp K I (.ref a) (.tuple [.str "unlike", .str "look"])
section
variable {P : Program} {w : World} {K : PySem.W.Frag} {mg : Str → Option Value} {base : Heap}
theorem sc_l_box : FnScope N_l_box ["_law_script", "_law_k"] (defScope s_l_box) := ⟨rfl, rfl, rfl, by decide +kernel, rfl, by decide +kernel, by decide +kernel⟩
theorem ok_l_box {f : Addr} {fd : FuncData} (F : Fun K "_law_box" "_law_box" s_l_box f fd) (T : Tx K mg) : FnG P w K mg base 1 f fd ["_law_script", "_law_k"] (spD (GG K) 2 F_l_box) := by
  have sc := sc_l_box
  refine fn_okG (G := GG K) F sc fun cdv A outer s H E g hr tk po => ?_
  exact dss_cons (ds_set (i := 2) sc.nd (de_int)) (dss_cons (ds_if (dt_cmp op_ltA ok_cmp (de_var 1) (de_callB call_len ok_len (by rfl) T.b_len (by decide +kernel) (da_cons (de_var 0) (da_nil)))) (dss_one (ds_set (i := 2) sc.nd (de_ix ix_seq ok_ix (de_var 0) (de_var 1)))) (dss_nil)) (dss_cons (ds_set (i := 3) sc.nd (de_op op_mod ok_mod (de_op op_addA ok_add (de_op op_addA ok_add (de_op op_mod ok_mod (de_var 2) (de_int)) (de_op op_mulA ok_mulA (de_op op_mulA ok_mulA (de_int) (de_var 1)) (de_var 1))) (de_int)) (de_int))) (dss_one (ds_ret (de_lstC (da_cons (de_op op_mulA ok_mulA (de_callB call_abs ok_abs (by rfl) T.b_abs (by decide +kernel) (da_cons (de_var 2) (da_nil))) (de_callTy call_intA ok_int (by rfl) T.b_int (by decide +kernel) (da_cons (de_cmp op_geA ok_cmp (de_callB call_abs ok_abs (by rfl) T.b_abs (by decide +kernel) (da_cons (de_var 2) (da_nil))) (de_op op_pow ok_pow (de_int) (de_int))) (da_nil)))) (da_cons (de_var 3) (da_cons (de_int) (da_nil)))))))))
theorem sc_l_take : FnScope N_l_take ["_law_box_here", "_law_many"] (defScope s_l_take) := ⟨rfl, rfl, rfl, by decide +kernel, rfl, by decide +kernel, by decide +kernel⟩
theorem ok_l_take {f : Addr} {fd : FuncData} (F : Fun K "_law_take" "_law_take" s_l_take f fd) (T : Tx K mg) : FnG P w K mg base 1 f fd ["_law_box_here", "_law_many"] (spD (GG K) 2 F_l_take) := by
  have sc := sc_l_take
  refine fn_okG (G := GG K) F sc fun cdv A outer s H E g hr tk po => ?_
  exact dss_cons (ds_if (dt_cmp op_gtA ok_cmp (de_ix ix_seq ok_ix (de_var 0) (de_int)) (de_int)) (dss_cons (ds_set (i := 2) sc.nd (de_op op_mod ok_mod (de_ix ix_seq ok_ix (de_var 0) (de_int)) (de_var 1))) (dss_cons (ds_setIx (de_op op_fdivW ok_div (de_ix ix_seq ok_ix (de_var 0) (de_int)) (de_var 1)) (de_var 0) (de_int)) (dss_one (ds_ret (de_var 2))))) (dss_nil)) (dss_cons (ds_setIx (de_op op_addA ok_add (de_ix ix_seq ok_ix (de_var 0) (de_int)) (de_int)) (de_var 0) (de_int)) (dss_cons (ds_set (i := 3) sc.nd (de_op op_mod ok_mod (de_op op_mulA ok_mulA (de_op op_addA ok_add (de_op op_addA ok_add (de_ix ix_seq ok_ix (de_var 0) (de_int)) (de_op op_mulA ok_mulA (de_op op_mulA ok_mulA (de_int) (de_ix ix_seq ok_ix (de_var 0) (de_int))) (de_ix ix_seq ok_ix (de_var 0) (de_int)))) (de_int)) (de_int)) (de_int))) (dss_cons (ds_set (i := 3) sc.nd (de_op op_mod ok_mod (de_op op_mulA ok_mulA (de_var 3) (de_op op_addA ok_add (de_op op_mod ok_mod (de_var 3) (de_int)) (de_op op_mulA ok_mulA (de_int) (de_ix ix_seq ok_ix (de_var 0) (de_int))))) (de_int))) (dss_one (ds_ret (de_op op_mod ok_mod (de_op op_addA ok_add (de_op op_fdivW ok_div (de_var 3) (de_int)) (de_op op_fdivW ok_div (de_var 3) (de_int))) (de_var 1)))))))
theorem sc_l_pick : FnScope N_l_pick ["_law_box_here", "_law_some"] (defScope s_l_pick) := ⟨rfl, rfl, rfl, by decide +kernel, rfl, by decide +kernel, by decide +kernel⟩
theorem ok_l_pick {f : Addr} {fd : FuncData} (F : Fun K "_law_pick" "_law_pick" s_l_pick f fd) (T : Tx K mg) (C_l_take : Cal P w (GG K) mg base "_law_take" 1 ["_law_box_here", "_law_many"] [] F_l_take) : FnG P w K mg base 2 f fd ["_law_box_here", "_law_some"] (spD (GG K) 2 F_l_pick) := by
  have sc := sc_l_pick
  refine fn_okG (G := GG K) F sc fun cdv A outer s H E g hr tk po => ?_
  exact dss_one (ds_ret (de_ix ix_seq ok_ix (de_var 1) (de_calC rfl C_l_take (by exact g) (by exact hr.mono (by decide)) tk (by rfl) (da_cons (de_var 0) (da_cons (de_callB call_len ok_len (by rfl) T.b_len (by decide +kernel) (da_cons (de_var 1) (da_nil))) (da_nil))))))
theorem sc_l_words : FnScope N_l_words ["_law_box_here", "_law_many"] (defScope s_l_words) := ⟨rfl, rfl, rfl, by decide +kernel, rfl, by decide +kernel, by decide +kernel⟩
theorem ok_l_words {f : Addr} {fd : FuncData} (F : Fun K "_law_words" "_law_words" s_l_words f fd) (T : Tx K mg) (C_l_pick : Cal P w (GG K) mg base "_law_pick" 2 ["_law_box_here", "_law_some"] [] F_l_pick) (C_l_take : Cal P w (GG K) mg base "_law_take" 1 ["_law_box_here", "_law_many"] [] F_l_take) : FnG P w K mg base 3 f fd ["_law_box_here", "_law_many"] (spD (GG K) 2 F_l_words) := by
  have sc := sc_l_words
  refine fn_okG (G := GG K) F sc fun cdv A outer s H E g hr tk po => ?_
  exact dss_cons (ds_set (i := 2) sc.nd (de_str)) (dss_cons (ds_set (i := 3) sc.nd (de_calC rfl C_l_pick (by exact g) (by exact hr.mono (by decide)) tk (by rfl) (da_cons (de_var 0) (da_cons (de_lst (da_cons (de_str) (da_cons (de_str) (da_cons (de_str) (da_cons (de_str) (da_cons (de_str) (da_cons (de_str) (da_cons (de_str) (da_cons (de_str) (da_nil)))))))))) (da_nil))))) (dss_cons (ds_asg (de_tup (da_cons (de_calC rfl C_l_take (by exact g) (by exact hr.mono (by decide)) tk (by rfl) (da_cons (de_var 0) (da_cons (de_int) (da_nil)))) (da_cons (de_calC rfl C_l_pick (by exact g) (by exact hr.mono (by decide)) tk (by rfl) (da_cons (de_var 0) (da_cons (de_lst (da_cons (de_int) (da_cons (de_int) (da_cons (de_int) (da_cons (de_int) (da_nil)))))) (da_nil)))) (da_nil)))) (dg_tup rfl rfl (dgs_cons (dg_name (i := 4) sc.nd) (dgs_cons (dg_name (i := 5) sc.nd) (dgs_nil))))) (dss_cons (ds_set (i := 6) sc.nd (de_op op_mulA ok_mulA (de_str) (de_callTy call_intA ok_int (by rfl) T.b_int (by decide +kernel) (da_cons (de_and (de_cmp op_ltA ok_cmp (de_callB call_len ok_len (by rfl) T.b_len (by decide +kernel) (da_cons (de_var 3) (da_nil))) (de_int)) (de_one (de_cmp (op_eqA (by exact hr.units)) ok_eq (de_calC rfl C_l_take (by exact g) (by exact hr.mono (by decide)) tk (by rfl) (da_cons (de_var 0) (da_cons (de_int) (da_nil)))) (de_int)))) (da_nil))))) (dss_one (ds_ret (de_lc [("_law_k", 7)] fin_cell rfl sc.nd (di_range1 (by rfl) T.b_range (da_cons (de_var 1) (da_nil))) (blkOk_by (N := N_l_words) (sc := defScope s_l_words) (by decide +kernel)) (fun _ _ _ _ _ => dg_name (i := 7) sc.nd) (fun _ _ _ _ _ => dts_nil) (fun _ _ _ _ _ => de_op op_addA ok_add (de_op op_addA ok_add (de_var 3) (de_ix ix_seq ok_ix (de_var 2) (de_op op_mod ok_mod (de_op op_addA ok_add (de_var 4) (de_op op_mulA ok_mulA (de_var 5) (de_var 7))) (de_int)))) (de_var 6))))))))
theorem sc_l_shape : FnScope N_l_shape ["_law_box_here", "_law_names"] (defScope s_l_shape) := ⟨rfl, rfl, rfl, by decide +kernel, rfl, by decide +kernel, by decide +kernel⟩
theorem ok_l_shape {f : Addr} {fd : FuncData} (F : Fun K "_law_shape" "_law_shape" s_l_shape f fd) (T : Tx K mg) (C_l_take : Cal P w (GG K) mg base "_law_take" 1 ["_law_box_here", "_law_many"] [] F_l_take) (C_l_pick : Cal P w (GG K) mg base "_law_pick" 2 ["_law_box_here", "_law_some"] [] F_l_pick) : FnG P w K mg base 3 f fd ["_law_box_here", "_law_names"] (spD (GG K) 2 F_l_shape) := by
  have sc := sc_l_shape
  refine fn_okG (G := GG K) F sc fun cdv A outer s H E g hr tk po => ?_
  exact dss_cons (ds_set (i := 2) sc.nd (de_calC rfl C_l_take (by exact g) (by exact hr.mono (by decide)) tk (by rfl) (da_cons (de_var 0) (da_cons (de_int) (da_nil))))) (dss_cons (ds_if (dt_cmp op_ltA ok_cmp (de_var 2) (de_int)) (dss_cons (ds_par (i := 3) (j := 4) rfl sc.nd (da_cons (de_calC rfl C_l_pick (by exact g) (by exact hr.mono (by decide)) tk (by rfl) (da_cons (de_var 0) (da_cons (de_str) (da_nil)))) (da_cons (de_calC rfl C_l_pick (by exact g) (by exact hr.mono (by decide)) tk (by rfl) (da_cons (de_var 0) (da_cons (de_str) (da_nil)))) (da_nil)))) (dss_one (ds_ret (de_tup (da_cons (de_str) (da_cons (de_var 3) (da_cons (de_var 4) (da_cons (de_tupleOf rfl (by rfl) T.b_tuple (de_var 1)) (da_nil))))))))) (dss_nil)) (dss_cons (ds_if (dt_cmp (op_eqA (by exact hr.units)) ok_eq (de_var 2) (de_int)) (dss_one (ds_ret (de_tup (da_cons (de_str) (da_cons (de_tupleOf rfl (by rfl) T.b_tuple (de_lc [("_law_name", 5)] fin_list rfl sc.nd (di_seq rfl (de_var 1)) (blkOk_by (N := N_l_shape) (sc := defScope s_l_shape) (by decide +kernel)) (fun _ _ _ _ _ => dg_name (i := 5) sc.nd) (fun _ _ _ _ _ => dts_nil) (fun _ _ _ _ _ => de_op op_addA ok_add (de_int) (de_calC rfl C_l_take (by exact g) (by exact hr.mono (by decide)) takes0 (by rfl) (da_cons (de_var 0) (da_cons (de_int) (da_nil))))))) (da_cons (de_tupleOf rfl (by rfl) T.b_tuple (de_var 1)) (da_nil))))))) (dss_nil)) (dss_one (ds_ret (de_tup (da_cons (de_str) (da_cons (de_calC rfl C_l_pick (by exact g) (by exact hr.mono (by decide)) tk (by rfl) (da_cons (de_var 0) (da_cons (de_str) (da_nil)))) (da_cons (de_tupleOf rfl (by rfl) T.b_tuple (de_var 1)) (da_nil)))))))))
theorem sc_l_cells : FnScope N_l_cells [] (defScope s_l_cells) := ⟨rfl, rfl, rfl, by decide +kernel, rfl, by decide +kernel, by decide +kernel⟩
theorem ok_l_cells {f : Addr} {fd : FuncData} (F : Fun K "_law_cells" "_law_cells" s_l_cells f fd) (T : Tx K mg) : FnG P w K mg base 1 f fd [] (spD (GG K) 0 F_l_cells) := by
  have sc := sc_l_cells
  refine fn_okG (G := GG K) F sc fun cdv A outer s H E g hr tk po => ?_
  exact dss_one (ds_ret (de_lst (da_cons (de_str) (da_cons (de_str) (da_cons (de_str) (da_cons (de_str) (da_cons (de_str) (da_cons (de_str) (da_cons (de_str) (da_cons (de_str) (da_cons (de_str) (da_cons (de_str) (da_cons (de_str) (da_cons (de_str) (da_nil)))))))))))))))
theorem sc_l_spell : FnScope N_l_spell ["_law_box_here", "_law_column"] (defScope s_l_spell) := ⟨rfl, rfl, rfl, by decide +kernel, rfl, by decide +kernel, by decide +kernel⟩
theorem ok_l_spell {f : Addr} {fd : FuncData} (F : Fun K "_law_spell" "_law_spell" s_l_spell f fd) (T : Tx K mg) (C_l_take : Cal P w (GG K) mg base "_law_take" 1 ["_law_box_here", "_law_many"] [] F_l_take) (C_l_pick : Cal P w (GG K) mg base "_law_pick" 2 ["_law_box_here", "_law_some"] [] F_l_pick) (C_l_cells : Cal P w (GG K) mg base "_law_cells" 1 [] [] F_l_cells) : FnG P w K mg base 3 f fd ["_law_box_here", "_law_column"] (spD (GG K) 2 F_l_spell) := by
  have sc := sc_l_spell
  refine fn_okG (G := GG K) F sc fun cdv A outer s H E g hr tk po => ?_
  exact dss_cons (ds_setLc (i := 2) [("_law_k", 4)] fin_list rfl sc.nd (di_range1 (by rfl) T.b_range (da_cons (de_op op_addA ok_add (de_int) (de_calC rfl C_l_take (by exact g) (by exact hr.mono (by decide)) tk (by rfl) (da_cons (de_var 0) (da_cons (de_int) (da_nil))))) (da_nil))) (blkOk_by (N := N_l_spell) (sc := defScope s_l_spell) (by decide +kernel)) (fun _ _ _ _ _ => dg_name (i := 4) sc.nd) (fun _ _ _ _ _ => dts_nil) (fun _ _ _ _ _ => de_calC rfl C_l_pick (by exact g) (by exact hr.mono (by decide)) takes0 (by rfl) (da_cons (de_var 0) (da_cons (de_calC0 rfl C_l_cells (by exact g) (by exact hr.mono (by decide)) takes0 (by rfl)) (da_nil))))) (dss_cons (ds_setLc (i := 3) [("_law_mine", 5)] fin_list rfl sc.nd (di_seq rfl (de_sortSet rfl (by rfl) T.b_sorted (by rfl) T.b_set (by exact hr.units) (de_var 2))) (blkOk_by (N := N_l_spell) (sc := defScope s_l_spell) (by decide +kernel)) (fun _ _ _ _ _ => dg_name (i := 5) sc.nd) (fun _ _ _ _ _ => dts_nil) (fun _ _ _ _ _ => de_tup (da_cons (de_var 5) (da_cons (de_calC rfl C_l_pick (by exact g) (by exact hr.mono (by decide)) takes0 (by rfl) (da_cons (de_var 0) (da_cons (de_lst (da_cons (de_non) (da_cons (de_str) (da_cons (de_str) (da_cons (de_str) (da_nil)))))) (da_nil)))) (da_nil))))) (dss_one (ds_ret (de_tup (da_cons (de_str) (da_cons (de_var 1) (da_cons (de_tupleOf rfl (by rfl) T.b_tuple (de_var 3)) (da_nil))))))))
theorem sc_l_form : FnScope N_l_form ["_law_box_here"] (defScope s_l_form) := ⟨rfl, rfl, rfl, by decide +kernel, rfl, by decide +kernel, by decide +kernel⟩
theorem ok_l_form {f : Addr} {fd : FuncData} (F : Fun K "_law_form" "_law_form" s_l_form f fd) (T : Tx K mg) (C_l_take : Cal P w (GG K) mg base "_law_take" 1 ["_law_box_here", "_law_many"] [] F_l_take) : FnG P w K mg base 2 f fd ["_law_box_here"] (spD (GG K) 1 F_l_form) := by
  have sc := sc_l_form
  refine fn_okG (G := GG K) F sc fun cdv A outer s H E g hr tk po => ?_
  exact dss_cons (ds_set (i := 1) sc.nd (de_calC rfl C_l_take (by exact g) (by exact hr.mono (by decide)) tk (by rfl) (da_cons (de_var 0) (da_cons (de_int) (da_nil))))) (dss_cons (ds_if (dt_cmp op_ltA ok_cmp (de_var 1) (de_int)) (dss_one (ds_ret (de_tup (da_cons (de_str) (da_nil))))) (dss_nil)) (dss_one (ds_ret (de_ifExp (dt_cmp op_ltA ok_cmp (de_var 1) (de_int)) (de_tup (da_cons (de_str) (da_cons (de_op op_sub ok_sub (de_var 1) (de_int)) (da_nil)))) (de_tup (da_cons (de_str) (da_cons (de_ix ix_seq ok_ix (de_lst (da_cons (de_str) (da_cons (de_str) (da_cons (de_str) (da_nil))))) (de_op op_sub ok_sub (de_var 1) (de_int))) (da_nil))))))))
theorem sc_l_worth : FnScope N_l_worth ["_law_box_here", "_law_kind"] (defScope s_l_worth) := ⟨rfl, rfl, rfl, by decide +kernel, rfl, by decide +kernel, by decide +kernel⟩
theorem ok_l_worth {f : Addr} {fd : FuncData} (F : Fun K "_law_worth" "_law_worth" s_l_worth f fd) (T : Tx K mg) (C_l_pick : Cal P w (GG K) mg base "_law_pick" 2 ["_law_box_here", "_law_some"] [] F_l_pick) (C_l_cells : Cal P w (GG K) mg base "_law_cells" 1 [] [] F_l_cells) (C_l_take : Cal P w (GG K) mg base "_law_take" 1 ["_law_box_here", "_law_many"] [] F_l_take) : FnG P w K mg base 3 f fd ["_law_box_here", "_law_kind"] (spD (GG K) 2 F_l_worth) := by
  have sc := sc_l_worth
  refine fn_okG (G := GG K) F sc fun cdv A outer s H E g hr tk po => ?_
  exact dss_cons (ds_if (dt_cmp (op_eqA (by exact hr.units)) ok_eq (de_var 1) (de_str)) (dss_one (ds_ret (de_calC rfl C_l_pick (by exact g) (by exact hr.mono (by decide)) tk (by rfl) (da_cons (de_var 0) (da_cons (de_calC0 rfl C_l_cells (by exact g) (by exact hr.mono (by decide)) tk (by rfl)) (da_nil)))))) (dss_nil)) (dss_one (ds_ret (de_calC rfl C_l_pick (by exact g) (by exact hr.mono (by decide)) tk (by rfl) (da_cons (de_var 0) (da_cons (de_lst (da_cons (de_int) (da_cons (de_int) (da_cons (de_un un_neg ok_neg (de_int)) (da_cons (de_int) (da_cons (de_int) (da_cons (de_int) (da_cons (de_int) (da_cons (de_calC rfl C_l_take (by exact g) (by exact hr.mono (by decide)) tk (by rfl) (da_cons (de_var 0) (da_cons (de_int) (da_nil)))) (da_nil)))))))))) (da_nil))))))
theorem sc_l_put : FnScope N_l_put ["_law_box_here", "_law_known"] (defScope s_l_put) := ⟨rfl, rfl, rfl, by decide +kernel, rfl, by decide +kernel, by decide +kernel⟩
theorem ok_l_put {f : Addr} {fd : FuncData} (F : Fun K "_law_put" "_law_put" s_l_put f fd) (T : Tx K mg) (C_l_pick : Cal P w (GG K) mg base "_law_pick" 2 ["_law_box_here", "_law_some"] [] F_l_pick) (C_l_worth : Cal P w (GG K) mg base "_law_worth" 3 ["_law_box_here", "_law_kind"] [] F_l_worth) : FnG P w K mg base 4 f fd ["_law_box_here", "_law_known"] (spD (GG K) 2 F_l_put) := by
  have sc := sc_l_put
  refine fn_okG (G := GG K) F sc fun cdv A outer s H E g hr tk po => ?_
  exact dss_cons (ds_asg (de_calC rfl C_l_pick (by exact g) (by exact hr.mono (by decide)) tk (by rfl) (da_cons (de_var 0) (da_cons (de_var 1) (da_nil)))) (dg_tup rfl rfl (dgs_cons (dg_name (i := 2) sc.nd) (dgs_cons (dg_name (i := 3) sc.nd) (dgs_nil))))) (dss_one (ds_ret (de_tup (da_cons (de_str) (da_cons (de_var 2) (da_cons (de_calC rfl C_l_worth (by exact g) (by exact hr.mono (by decide)) tk (by rfl) (da_cons (de_var 0) (da_cons (de_var 3) (da_nil)))) (da_nil)))))))
theorem sc_l_wish : FnScope N_l_wish ["_law_box_here", "_law_lot", "_law_known"] (defScope s_l_wish) := ⟨rfl, rfl, rfl, by decide +kernel, rfl, by decide +kernel, by decide +kernel⟩
theorem ok_l_wish {f : Addr} {fd : FuncData} (F : Fun K "_law_wish" "_law_wish" s_l_wish f fd) (T : Tx K mg) (C_l_pick : Cal P w (GG K) mg base "_law_pick" 2 ["_law_box_here", "_law_some"] [] F_l_pick) (C_l_worth : Cal P w (GG K) mg base "_law_worth" 3 ["_law_box_here", "_law_kind"] [] F_l_worth) (C_l_take : Cal P w (GG K) mg base "_law_take" 1 ["_law_box_here", "_law_many"] [] F_l_take) : FnG P w K mg base 4 f fd ["_law_box_here", "_law_lot", "_law_known"] (spD (GG K) 3 F_l_wish) := by
  have sc := sc_l_wish
  refine fn_okG (G := GG K) F sc fun cdv A outer s H E g hr tk po => ?_
  exact dss_cons (ds_asg (de_calC rfl C_l_pick (by exact g) (by exact hr.mono (by decide)) tk (by rfl) (da_cons (de_var 0) (da_cons (de_var 2) (da_nil)))) (dg_tup rfl rfl (dgs_cons (dg_name (i := 3) sc.nd) (dgs_cons (dg_name (i := 4) sc.nd) (dgs_nil))))) (dss_cons (ds_setLcC (i := 5) [("_law_name", 7), ("_law_s", 8)] 1000 fin_list rfl sc.nd rfl (de_var 2) (blkOk_by (N := N_l_wish) (sc := defScope s_l_wish) (by decide +kernel)) (fun _ _ _ _ _ => dg_tup rfl rfl (dgs_cons (dg_name (i := 7) sc.nd) (dgs_cons (dg_name (i := 8) sc.nd) (dgs_nil)))) (fun _ _ _ _ _ => dts_one (dw_pt (dw_and (dt_cmp (op_eqA (by exact hr.units)) ok_eq (de_var 8) (de_var 4)) (dw_and1 (dt_cmp (op_neA (by exact hr.units)) ok_ne (de_var 7) (de_var 3)))))) (fun _ _ _ _ _ => de_var 7)) (dss_cons (ds_if (dt_cmp (op_eqA (by exact hr.units)) ok_eq (de_var 1) (de_int)) (dss_cons (ds_set (i := 6) sc.nd (de_callB (cr_sortD (by exact hr.units)) ok_sortD (by rfl) T.b_sorted (by decide +kernel) (da_cons (de_lst (da_cons (de_calC rfl C_l_worth (by exact g) (by exact hr.mono (by decide)) tk (by rfl) (da_cons (de_var 0) (da_cons (de_var 4) (da_nil)))) (da_cons (de_calC rfl C_l_worth (by exact g) (by exact hr.mono (by decide)) tk (by rfl) (da_cons (de_var 0) (da_cons (de_var 4) (da_nil)))) (da_nil)))) (da_nil)))) (dss_one (ds_ret (de_tup (da_cons (de_str) (da_cons (de_var 3) (da_cons (de_ix ix_seq ok_ix (de_var 6) (de_int)) (da_cons (de_ix ix_seq ok_ix (de_var 6) (de_int)) (da_nil))))))))) (dss_nil)) (dss_cons (ds_if (dt_cmp (op_eqA (by exact hr.units)) ok_eq (de_var 1) (de_int)) (dss_cons (ds_setLc (i := 6) [("_law_k", 9)] fin_list rfl sc.nd (di_range1 (by rfl) T.b_range (da_cons (de_op op_addA ok_add (de_int) (de_calC rfl C_l_take (by exact g) (by exact hr.mono (by decide)) tk (by rfl) (da_cons (de_var 0) (da_cons (de_int) (da_nil))))) (da_nil))) (blkOk_by (N := N_l_wish) (sc := defScope s_l_wish) (by decide +kernel)) (fun _ _ _ _ _ => dg_name (i := 9) sc.nd) (fun _ _ _ _ _ => dts_nil) (fun _ _ _ _ _ => de_calC rfl C_l_worth (by exact g) (by exact hr.mono (by decide)) takes0 (by rfl) (da_cons (de_var 0) (da_cons (de_var 4) (da_nil))))) (dss_one (ds_ret (de_tup (da_cons (de_str) (da_cons (de_var 3) (da_cons (de_tupleOf rfl (by rfl) T.b_tuple (de_sortSet rfl (by rfl) T.b_sorted (by rfl) T.b_set (by exact hr.units) (de_var 6))) (da_nil)))))))) (dss_nil)) (dss_cons (ds_if (dw_pt (dw_and (dt_cmp (op_eqA (by exact hr.units)) ok_eq (de_var 1) (de_int)) (dw_and1 (dt_cmp (op_neA (by exact hr.units)) ok_ne (de_var 5) (de_lst (da_nil)))))) (dss_one (ds_ret (de_tup (da_cons (de_str) (da_cons (de_var 3) (da_cons (de_calC rfl C_l_pick (by exact g) (by exact hr.mono (by decide)) tk (by rfl) (da_cons (de_var 0) (da_cons (de_var 5) (da_nil)))) (da_nil))))))) (dss_nil)) (dss_one (ds_ret (de_tup (da_cons (de_str) (da_cons (de_var 3) (da_nil))))))))))
theorem sc_l_deed : FnScope N_l_deed ["_law_box_here", "_law_names", "_law_known"] (defScope s_l_deed) := ⟨rfl, rfl, rfl, by decide +kernel, rfl, by decide +kernel, by decide +kernel⟩
theorem ok_l_deed {f : Addr} {fd : FuncData} (F : Fun K "_law_deed" "_law_deed" s_l_deed f fd) (T : Tx K mg) (C_l_take : Cal P w (GG K) mg base "_law_take" 1 ["_law_box_here", "_law_many"] [] F_l_take) (C_l_pick : Cal P w (GG K) mg base "_law_pick" 2 ["_law_box_here", "_law_some"] [] F_l_pick) (C_l_spell : Cal P w (GG K) mg base "_law_spell" 3 ["_law_box_here", "_law_column"] [] F_l_spell) (C_l_form : Cal P w (GG K) mg base "_law_form" 2 ["_law_box_here"] [] F_l_form) (C_l_put : Cal P w (GG K) mg base "_law_put" 4 ["_law_box_here", "_law_known"] [] F_l_put) (C_l_wish : Cal P w (GG K) mg base "_law_wish" 4 ["_law_box_here", "_law_lot", "_law_known"] [] F_l_wish) : FnG P w K mg base 5 f fd ["_law_box_here", "_law_names", "_law_known"] (spD (GG K) 3 F_l_deed) := by
  have sc := sc_l_deed
  refine fn_okG (G := GG K) F sc fun cdv A outer s H E g hr tk po => ?_
  exact dss_cons (ds_setLcC (i := 3) [("_law_name", 10), ("_law_kind", 11)] 1000 fin_list rfl sc.nd rfl (de_var 2) (blkOk_by (N := N_l_deed) (sc := defScope s_l_deed) (by decide +kernel)) (fun _ _ _ _ _ => dg_tup rfl rfl (dgs_cons (dg_name (i := 10) sc.nd) (dgs_cons (dg_name (i := 11) sc.nd) (dgs_nil)))) (fun _ _ _ _ _ => dts_one (dt_cmp (op_eqA (by exact hr.units)) ok_eq (de_var 11) (de_str))) (fun _ _ _ _ _ => de_var 10)) (dss_cons (ds_par (i := 4) (j := 5) rfl sc.nd (da_cons (de_calC rfl C_l_take (by exact g) (by exact hr.mono (by decide)) tk (by rfl) (da_cons (de_var 0) (da_cons (de_int) (da_nil)))) (da_cons (de_calC rfl C_l_pick (by exact g) (by exact hr.mono (by decide)) tk (by rfl) (da_cons (de_var 0) (da_cons (de_var 3) (da_nil)))) (da_nil)))) (dss_cons (ds_if (dw_pt (dw_and (dt_cmp op_gtA ok_cmp (de_callB call_len ok_len (by rfl) T.b_len (by decide +kernel) (da_cons (de_var 2) (da_nil))) (de_int)) (dw_and1 (dt_cmp op_ltA ok_cmp (de_var 4) (de_int))))) (dss_one (ds_set (i := 4) sc.nd (de_op op_addA ok_add (de_int) (de_var 4)))) (dss_nil)) (dss_cons (ds_if (dt_cmp (op_eqA (by exact hr.units)) ok_eq (de_var 4) (de_int)) (dss_cons (ds_setLc (i := 6) [("_law_k", 12)] fin_list rfl sc.nd (di_range1 (by rfl) T.b_range (da_cons (de_op op_addA ok_add (de_int) (de_calC rfl C_l_take (by exact g) (by exact hr.mono (by decide)) tk (by rfl) (da_cons (de_var 0) (da_cons (de_int) (da_nil))))) (da_nil))) (blkOk_by (N := N_l_deed) (sc := defScope s_l_deed) (by decide +kernel)) (fun _ _ _ _ _ => dg_name (i := 12) sc.nd) (fun _ _ _ _ _ => dts_nil) (fun _ _ _ _ _ => de_bm0 PySem.F.plainAttrs_list PySem.F.slot_list_pop PySem.F.type_list_pop mt_pop ok_pop ty_lst rfl (de_var 1))) (dss_cons (ds_expr (de_bm PySem.F.plainAttrs_list PySem.F.slot_list_extend PySem.F.type_list_extend mt_extend ok_extend ty_lst rfl (de_var 2) (da_cons (de_lc [("_law_new", 13)] fin_cell rfl sc.nd (di_seq rfl (de_var 6)) (blkOk_by (N := N_l_deed) (sc := defScope s_l_deed) (by decide +kernel)) (fun _ _ _ _ _ => dg_name (i := 13) sc.nd) (fun _ _ _ _ _ => dts_nil) (fun _ _ _ _ _ => de_tup (da_cons (de_var 13) (da_cons (de_str) (da_nil))))) (da_nil)))) (dss_one (ds_ret (de_tup (da_cons (de_str) (da_cons (de_var 5) (da_cons (de_calC rfl C_l_pick (by exact g) (by exact hr.mono (by decide)) tk (by rfl) (da_cons (de_var 0) (da_cons (de_str) (da_nil)))) (da_cons (de_tupleOf rfl (by rfl) T.b_tuple (de_var 6)) (da_nil)))))))))) (dss_nil)) (dss_cons (ds_if (dt_cmp (op_eqA (by exact hr.units)) ok_eq (de_var 4) (de_int)) (dss_cons (ds_set (i := 7) sc.nd (de_slice rfl (de_var 3) (do_none) (do_some (de_op op_addA ok_add (de_int) (de_calC rfl C_l_take (by exact g) (by exact hr.mono (by decide)) tk (by rfl) (da_cons (de_var 0) (da_cons (de_int) (da_nil)))))))) (dss_cons (ds_set (i := 8) sc.nd (de_op op_addA ok_add (de_int) (de_calC rfl C_l_take (by exact g) (by exact hr.mono (by decide)) tk (by rfl) (da_cons (de_var 0) (da_cons (de_ix ix_seq ok_ix (de_lst (da_cons (de_int) (da_cons (de_int) (da_cons (de_int) (da_nil))))) (de_op op_sub ok_sub (de_callB call_len ok_len (by rfl) T.b_len (by decide +kernel) (da_cons (de_var 7) (da_nil))) (de_int))) (da_nil)))))) (dss_cons (ds_setLc (i := 9) [("_law_k", 12)] fin_list rfl sc.nd (di_range1 (by rfl) T.b_range (da_cons (de_var 8) (da_nil))) (blkOk_by (N := N_l_deed) (sc := defScope s_l_deed) (by decide +kernel)) (fun _ _ _ _ _ => dg_name (i := 12) sc.nd) (fun _ _ _ _ _ => dts_nil) (fun _ _ _ _ _ => de_calC rfl C_l_pick (by exact g) (by exact hr.mono (by decide)) takes0 (by rfl) (da_cons (de_var 0) (da_cons (de_var 7) (da_nil))))) (dss_cons (ds_expr (de_bm PySem.F.plainAttrs_list PySem.F.slot_list_append PySem.F.type_list_append mt_append ok_append ty_lst rfl (de_var 2) (da_cons (de_tup (da_cons (de_bm0 PySem.F.plainAttrs_list PySem.F.slot_list_pop PySem.F.type_list_pop mt_pop ok_pop ty_lst rfl (de_var 1)) (da_cons (de_str) (da_nil)))) (da_nil)))) (dss_one (ds_ret (de_tup (da_cons (de_str) (da_cons (de_tupleOf rfl (by rfl) T.b_tuple (de_var 9)) (da_cons (de_calC rfl C_l_pick (by exact g) (by exact hr.mono (by decide)) tk (by rfl) (da_cons (de_var 0) (da_cons (de_str) (da_nil)))) (da_cons (de_ix ix_seq ok_ix (de_ix ix_seq ok_ix (de_var 2) (de_un un_neg ok_neg (de_int))) (de_int)) (da_nil)))))))))))) (dss_nil)) (dss_cons (ds_if (dt_cmp (op_eqA (by exact hr.units)) ok_eq (de_var 4) (de_int)) (dss_one (ds_ret (de_calC rfl C_l_spell (by exact g) (by exact hr.mono (by decide)) tk (by rfl) (da_cons (de_var 0) (da_cons (de_var 5) (da_nil)))))) (dss_nil)) (dss_cons (ds_if (dt_cmp op_ltA ok_cmp (de_var 4) (de_int)) (dss_cons (ds_expr (de_bm PySem.F.plainAttrs_list PySem.F.slot_list_append PySem.F.type_list_append mt_append ok_append ty_lst rfl (de_var 2) (da_cons (de_tup (da_cons (de_bm0 PySem.F.plainAttrs_list PySem.F.slot_list_pop PySem.F.type_list_pop mt_pop ok_pop ty_lst rfl (de_var 1)) (da_cons (de_str) (da_nil)))) (da_nil)))) (dss_one (ds_ret (de_tup (da_cons (de_str) (da_cons (de_var 5) (da_cons (de_calC rfl C_l_form (by exact g) (by exact hr.mono (by decide)) tk (by rfl) (da_cons (de_var 0) (da_nil))) (da_cons (de_ix ix_seq ok_ix (de_ix ix_seq ok_ix (de_var 2) (de_un un_neg ok_neg (de_int))) (de_int)) (da_nil))))))))) (dss_nil)) (dss_cons (ds_if (dt_cmp op_gtA ok_cmp (de_var 4) (de_int)) (dss_one (ds_ret (de_tup (da_cons (de_str) (da_cons (de_ix ix_seq ok_ix (de_calC rfl C_l_pick (by exact g) (by exact hr.mono (by decide)) tk (by rfl) (da_cons (de_var 0) (da_cons (de_var 2) (da_nil)))) (de_int)) (da_cons (de_tup (da_nil)) (da_nil))))))) (dss_nil)) (dss_one (ds_ret (de_ifExp (dt_cmp (op_eqA (by exact hr.units)) ok_eq (de_var 4) (de_int)) (de_calC rfl C_l_put (by exact g) (by exact hr.mono (by decide)) tk (by rfl) (da_cons (de_var 0) (da_cons (de_var 2) (da_nil)))) (de_calC rfl C_l_wish (by exact g) (by exact hr.mono (by decide)) tk (by rfl) (da_cons (de_var 0) (da_cons (de_var 4) (da_cons (de_var 2) (da_nil)))))))))))))))
theorem sc_l_touches : FnScope N_l_touches ["_law_step"] (defScope s_l_touches) := ⟨rfl, rfl, rfl, by decide +kernel, rfl, by decide +kernel, by decide +kernel⟩
theorem ok_l_touches {f : Addr} {fd : FuncData} (F : Fun K "_law_touches" "_law_touches" s_l_touches f fd) (T : Tx K mg) : FnG P w K mg base 1 f fd ["_law_step"] (spD (GG K) 1 F_l_touches) := by
  have sc := sc_l_touches
  refine fn_okG (G := GG K) F sc fun cdv A outer s H E g hr tk po => ?_
  exact dss_cons (ds_set (i := 1) sc.nd (de_ix ix_seq ok_ix (de_var 0) (de_int))) (dss_cons (ds_if (dt_cmp (op_eqA (by exact hr.units)) ok_eq (de_var 1) (de_str)) (dss_one (ds_ret (de_lst (da_cons (de_lst (da_cons (de_ix ix_seq ok_ix (de_var 0) (de_int)) (da_nil))) (da_cons (de_op op_addA ok_add (de_callTy call_listOf ok_listOf (by rfl) T.b_list (by decide +kernel) (da_cons (de_ix ix_seq ok_ix (de_var 0) (de_int)) (da_nil))) (de_lst (da_cons (de_str) (da_nil)))) (da_nil)))))) (dss_nil)) (dss_cons (ds_if (dt_cmp (op_eqA (by exact hr.units)) ok_eq (de_var 1) (de_str)) (dss_one (ds_ret (de_lst (da_cons (de_callTy call_listOf ok_listOf (by rfl) T.b_list (by decide +kernel) (da_cons (de_ix ix_seq ok_ix (de_var 0) (de_int)) (da_nil))) (da_cons (de_lst (da_cons (de_ix ix_seq ok_ix (de_var 0) (de_int)) (da_nil))) (da_nil)))))) (dss_nil)) (dss_cons (ds_if (dt_cmp (op_eqA (by exact hr.units)) ok_eq (de_var 1) (de_str)) (dss_one (ds_ret (de_lst (da_cons (de_lst (da_cons (de_ix ix_seq ok_ix (de_var 0) (de_int)) (da_nil))) (da_cons (de_lst (da_cons (de_ix ix_seq ok_ix (de_var 0) (de_int)) (da_cons (de_str) (da_nil)))) (da_nil)))))) (dss_nil)) (dss_cons (ds_if (dt_cmp op_inA ok_in (de_var 1) (de_tup (da_cons (de_str) (da_cons (de_str) (da_nil))))) (dss_one (ds_ret (de_lst (da_cons (de_lst (da_cons (de_ix ix_seq ok_ix (de_var 0) (de_int)) (da_nil))) (da_cons (de_lst (da_cons (de_ix ix_seq ok_ix (de_var 0) (de_int)) (da_nil))) (da_nil)))))) (dss_nil)) (dss_cons (ds_if (dt_cmp (op_eqA (by exact hr.units)) ok_eq (de_var 1) (de_str)) (dss_one (ds_ret (de_lst (da_cons (de_op op_addA ok_add (de_lst (da_cons (de_ix ix_seq ok_ix (de_var 0) (de_int)) (da_cons (de_str) (da_nil)))) (de_callTy call_listOf ok_listOf (by rfl) T.b_list (by decide +kernel) (da_cons (de_ix ix_seq ok_ix (de_var 0) (de_int)) (da_nil)))) (da_cons (de_lst (da_cons (de_ix ix_seq ok_ix (de_var 0) (de_int)) (da_nil))) (da_nil)))))) (dss_nil)) (dss_one (ds_ret (de_lst (da_cons (de_ifExp (dt_cmp (op_eqA (by exact hr.units)) ok_eq (de_var 1) (de_str)) (de_lst (da_cons (de_ix ix_seq ok_ix (de_var 0) (de_int)) (da_cons (de_ix ix_seq ok_ix (de_var 0) (de_int)) (da_nil)))) (de_lst (da_cons (de_ix ix_seq ok_ix (de_var 0) (de_int)) (da_nil)))) (da_cons (de_lst (da_cons (de_str) (da_nil))) (da_nil)))))))))))
theorem sc_l_apart : FnScope N_l_apart ["_law_step", "_law_later"] (defScope s_l_apart) := ⟨rfl, rfl, rfl, by decide +kernel, rfl, by decide +kernel, by decide +kernel⟩
theorem ok_l_apart {f : Addr} {fd : FuncData} (F : Fun K "_law_apart" "_law_apart" s_l_apart f fd) (T : Tx K mg) (C_l_touches : Cal P w (GG K) mg base "_law_touches" 1 ["_law_step"] [] F_l_touches) : FnG P w K mg base 2 f fd ["_law_step", "_law_later"] (spD (GG K) 2 F_l_apart) := by
  have sc := sc_l_apart
  refine fn_okG (G := GG K) F sc fun cdv A outer s H E g hr tk po => ?_
  exact dss_cons (ds_asg (de_tup (da_cons (de_calC rfl C_l_touches (by exact g) (by exact hr.mono (by decide)) tk (by rfl) (da_cons (de_var 0) (da_nil))) (da_cons (de_calC rfl C_l_touches (by exact g) (by exact hr.mono (by decide)) tk (by rfl) (da_cons (de_var 1) (da_nil))) (da_nil)))) (dg_tup rfl rfl (dgs_cons (dg_name (i := 2) sc.nd) (dgs_cons (dg_name (i := 3) sc.nd) (dgs_nil))))) (dss_cons (ds_if (dt_val (de_callB (cr_any rfl) ok_any (by rfl) T.b_any (by decide +kernel) (da_cons (de_lc [("_law_what", 4)] fin_list rfl sc.nd (di_seq rfl (de_ix ix_seq ok_ix (de_var 2) (de_int))) (blkOk_by (N := N_l_apart) (sc := defScope s_l_apart) (by decide +kernel)) (fun _ _ _ _ _ => dg_name (i := 4) sc.nd) (fun _ _ _ _ _ => dts_nil) (fun _ _ _ _ _ => de_or (de_cmp op_inA ok_in (de_var 4) (de_ix ix_seq ok_ix (de_var 3) (de_int))) (de_one (de_and (de_cmp op_inA ok_in (de_var 4) (de_ix ix_seq ok_ix (de_var 3) (de_int))) (de_one (de_cmp (op_neA (by exact hr.units)) ok_ne (de_var 4) (de_str))))))) (da_nil)))) (dss_one (ds_ret (de_bl))) (dss_nil)) (dss_one (ds_ret (de_not (de_callB (cr_any rfl) ok_any (by rfl) T.b_any (by decide +kernel) (da_cons (de_lc [("_law_what", 4)] fin_list rfl sc.nd (di_seq rfl (de_ix ix_seq ok_ix (de_var 3) (de_int))) (blkOk_by (N := N_l_apart) (sc := defScope s_l_apart) (by decide +kernel)) (fun _ _ _ _ _ => dg_name (i := 4) sc.nd) (fun _ _ _ _ _ => dts_nil) (fun _ _ _ _ _ => de_cmp op_inA ok_in (de_var 4) (de_ix ix_seq ok_ix (de_var 2) (de_int)))) (da_nil)))))))
theorem sc_l_behinds : FnScope N_l_behinds ["_law_steps"] (defScope s_l_behinds) := ⟨rfl, rfl, rfl, by decide +kernel, rfl, by decide +kernel, by decide +kernel⟩
theorem ok_l_behinds {f : Addr} {fd : FuncData} (F : Fun K "_law_behinds" "_law_behinds" s_l_behinds f fd) (T : Tx K mg) (C_l_apart : Cal P w (GG K) mg base "_law_apart" 2 ["_law_step", "_law_later"] [] F_l_apart) : FnG P w K mg base 3 f fd ["_law_steps"] (spD (GG K) 1 F_l_behinds) := by
  have sc := sc_l_behinds
  refine fn_okG (G := GG K) F sc fun cdv A outer s H E g hr tk po => ?_
  exact dss_cons (ds_set (i := 1) sc.nd (de_lstC (da_nil))) (dss_cons (ds_forE 1000 po rfl rfl (by rfl) T.b_enumerate (de_var 0) (dg_tup rfl rfl (dgs_cons (dg_name (i := 2) sc.nd) (dgs_cons (dg_name (i := 3) sc.nd) (dgs_nil)))) (dss_cons (ds_setLc (i := 4) [("_law_later", 5)] fin_list rfl sc.nd (di_seq rfl (de_slice rfl (de_var 0) (do_some (de_op op_addA ok_add (de_var 2) (de_int))) (do_none))) (blkOk_by (N := N_l_behinds) (sc := defScope s_l_behinds) (by decide +kernel)) (fun _ _ _ _ _ => dg_name (i := 5) sc.nd) (fun _ _ _ _ _ => dts_one (dt_not (dt_val (de_calC rfl C_l_apart (by exact g) (by exact hr.mono (by decide)) takes0 (by rfl) (da_cons (de_var 3) (da_cons (de_var 5) (da_nil))))))) (fun _ _ _ _ _ => de_var 5)) (dss_one (ds_expr (de_bm PySem.F.plainAttrs_list PySem.F.slot_list_extend PySem.F.type_list_extend mt_extend ok_extend ty_lst rfl (de_var 1) (da_cons (de_lc [("_law_later", 5)] fin_cell rfl sc.nd (di_seq rfl (de_var 4)) (blkOk_by (N := N_l_behinds) (sc := defScope s_l_behinds) (by decide +kernel)) (fun _ _ _ _ _ => dg_name (i := 5) sc.nd) (fun _ _ _ _ _ => dts_nil) (fun _ _ _ _ _ => de_tup (da_cons (de_ix ix_seq ok_ix (de_var 3) (de_int)) (da_cons (de_ix ix_seq ok_ix (de_var 5) (de_int)) (da_nil))))) (da_nil))))))) (dss_one (ds_ret (de_tupleOf rfl (by rfl) T.b_tuple (de_callB (cr_sortD (by exact hr.units)) ok_sortD (by rfl) T.b_sorted (by decide +kernel) (da_cons (de_var 1) (da_nil)))))))
theorem sc_l_plan : FnScope N_l_plan ["_law_box_here", "_law_most"] (defScope s_l_plan) := ⟨rfl, rfl, rfl, by decide +kernel, rfl, by decide +kernel, by decide +kernel⟩
theorem ok_l_plan {f : Addr} {fd : FuncData} (F : Fun K "_law_plan" "_law_plan" s_l_plan f fd) (T : Tx K mg) (C_l_words : Cal P w (GG K) mg base "_law_words" 3 ["_law_box_here", "_law_many"] [] F_l_words) (C_l_take : Cal P w (GG K) mg base "_law_take" 1 ["_law_box_here", "_law_many"] [] F_l_take) (C_l_shape : Cal P w (GG K) mg base "_law_shape" 3 ["_law_box_here", "_law_names"] [] F_l_shape) (C_l_deed : Cal P w (GG K) mg base "_law_deed" 5 ["_law_box_here", "_law_names", "_law_known"] [] F_l_deed) (C_l_behinds : Cal P w (GG K) mg base "_law_behinds" 3 ["_law_steps"] [] F_l_behinds) : FnG P w K mg base 6 f fd ["_law_box_here", "_law_most"] (spD (GG K) 2 F_l_plan) := by
  have sc := sc_l_plan
  refine fn_okG (G := GG K) F sc fun cdv A outer s H E g hr tk po => ?_
  exact dss_cons (ds_asgT rfl rfl (da_cons (de_calC rfl C_l_words (by exact g) (by exact hr.mono (by decide)) tk (by rfl) (da_cons (de_var 0) (da_cons (de_int) (da_nil)))) (da_cons (de_calC rfl C_l_words (by exact g) (by exact hr.mono (by decide)) tk (by rfl) (da_cons (de_var 0) (da_cons (de_int) (da_nil)))) (da_nil))) (dgs_cons (dg_name (i := 2) sc.nd) (dgs_cons (dg_name (i := 3) sc.nd) (dgs_nil)))) (dss_cons (ds_setLc (i := 4) [("_law_k", 8)] fin_list rfl sc.nd (di_range1 (by rfl) T.b_range (da_cons (de_op op_addA ok_add (de_int) (de_calC rfl C_l_take (by exact g) (by exact hr.mono (by decide)) tk (by rfl) (da_cons (de_var 0) (da_cons (de_int) (da_nil))))) (da_nil))) (blkOk_by (N := N_l_plan) (sc := defScope s_l_plan) (by decide +kernel)) (fun _ _ _ _ _ => dg_name (i := 8) sc.nd) (fun _ _ _ _ _ => dts_nil) (fun _ _ _ _ _ => de_bm0 PySem.F.plainAttrs_list PySem.F.slot_list_pop PySem.F.type_list_pop mt_pop ok_pop ty_lst rfl (de_var 2))) (dss_cons (ds_par (i := 5) (j := 6) rfl sc.nd (da_cons (de_lc [("_law_column", 10)] fin_cell rfl sc.nd (di_seq rfl (de_var 4)) (blkOk_by (N := N_l_plan) (sc := defScope s_l_plan) (by decide +kernel)) (fun _ _ _ _ _ => dg_name (i := 10) sc.nd) (fun _ _ _ _ _ => dts_nil) (fun _ _ _ _ _ => de_tup (da_cons (de_var 10) (da_cons (de_str) (da_nil))))) (da_cons (de_lstC (da_nil)) (da_nil)))) (dss_cons (ds_set (i := 7) sc.nd (de_calC rfl C_l_shape (by exact g) (by exact hr.mono (by decide)) tk (by rfl) (da_cons (de_var 0) (da_cons (de_var 4) (da_nil))))) (dss_cons (ds_for po rfl (di_range1 (by rfl) T.b_range (da_cons (de_calC rfl C_l_take (by exact g) (by exact hr.mono (by decide)) tk (by rfl) (da_cons (de_var 0) (da_cons (de_op op_addA ok_add (de_var 1) (de_int)) (da_nil)))) (da_nil))) (dg_name (i := 8) sc.nd) (dss_one (ds_expr (de_bm PySem.F.plainAttrs_list PySem.F.slot_list_append PySem.F.type_list_append mt_append ok_append ty_lst rfl (de_var 6) (da_cons (de_op op_addA ok_add (de_tup (da_cons (de_ix ix_seq ok_ix (de_var 3) (de_var 8)) (da_nil))) (de_calC rfl C_l_deed (by exact g) (by exact hr.mono (by decide)) tk (by rfl) (da_cons (de_var 0) (da_cons (de_var 2) (da_cons (de_var 5) (da_nil)))))) (da_nil)))))) (dss_cons (ds_set (i := 9) sc.nd (de_tup (da_cons (de_ix ix_seq ok_ix (de_var 3) (de_int)) (da_cons (de_tup (da_cons (de_str) (da_cons (de_ix ix_seq ok_ix (de_var 3) (de_int)) (da_nil)))) (da_cons (de_tupleOf rfl (by rfl) T.b_tuple (de_var 6)) (da_cons (de_calC rfl C_l_behinds (by exact g) (by exact hr.mono (by decide)) tk (by rfl) (da_cons (de_var 6) (da_nil))) (da_nil))))))) (dss_one (ds_ret (de_tup (da_cons (de_tup (da_cons (de_tup (da_cons (de_ix ix_seq ok_ix (de_var 3) (de_int)) (da_cons (de_var 7) (da_nil)))) (da_nil))) (da_cons (de_tup (da_cons (de_var 9) (da_nil))) (da_nil)))))))))))
theorem sc_l_more_step : FnScope N_l_more_step ["_law_box_here", "_law_plan_here"] (defScope s_l_more_step) := ⟨rfl, rfl, rfl, by decide +kernel, rfl, by decide +kernel, by decide +kernel⟩
theorem ok_l_more_step {f : Addr} {fd : FuncData} (F : Fun K "_law_more_step" "_law_more_step" s_l_more_step f fd) (T : Tx K mg) (C_l_take : Cal P w (GG K) mg base "_law_take" 1 ["_law_box_here", "_law_many"] [] F_l_take) (C_l_pick : Cal P w (GG K) mg base "_law_pick" 2 ["_law_box_here", "_law_some"] [] F_l_pick) : FnG P w K mg base 3 f fd ["_law_box_here", "_law_plan_here"] (spD (GG K) 2 F_l_more_step) := by
  have sc := sc_l_more_step
  refine fn_okG (G := GG K) F sc fun cdv A outer s H E g hr tk po => ?_
  exact dss_cons (ds_asg (de_ix ix_seq ok_ix (de_ix ix_seq ok_ix (de_var 1) (de_int)) (de_int)) (dg_tup rfl rfl (dgs_cons (dg_name (i := 2) sc.nd) (dgs_cons (dg_name (i := 3) sc.nd) (dgs_cons (dg_name (i := 4) sc.nd) (dgs_cons (dg_name (i := 5) sc.nd) (dgs_nil))))))) (dss_cons (ds_set (i := 6) sc.nd (de_ix ix_seq ok_ix (de_ix ix_seq ok_ix (de_ix ix_seq ok_ix (de_ix ix_seq ok_ix (de_var 1) (de_int)) (de_int)) (de_int)) (de_un un_neg ok_neg (de_int)))) (dss_cons (ds_asg (de_tup (da_cons (de_calC rfl C_l_take (by exact g) (by exact hr.mono (by decide)) tk (by rfl) (da_cons (de_var 0) (da_cons (de_int) (da_nil)))) (da_cons (de_calC rfl C_l_pick (by exact g) (by exact hr.mono (by decide)) tk (by rfl) (da_cons (de_var 0) (da_cons (de_var 6) (da_nil)))) (da_nil)))) (dg_tup rfl rfl (dgs_cons (dg_name (i := 7) sc.nd) (dgs_cons (dg_name (i := 8) sc.nd) (dgs_nil))))) (dss_cons (ds_setLc (i := 9) [("_law_its", 13)] fin_list rfl sc.nd (di_seq rfl (de_var 6)) (blkOk_by (N := N_l_more_step) (sc := defScope s_l_more_step) (by decide +kernel)) (fun _ _ _ _ _ => dg_name (i := 13) sc.nd) (fun _ _ _ _ _ => dts_one (dt_cmp (op_neA (by exact hr.units)) ok_ne (de_var 13) (de_var 8))) (fun _ _ _ _ _ => de_var 13)) (dss_cons (ds_set (i := 10) sc.nd (de_tup (da_cons (de_str) (da_cons (de_str) (da_cons (de_op op_addA ok_add (de_tup (da_cons (de_var 8) (da_nil))) (de_tupleOf rfl (by rfl) T.b_tuple (de_slice rfl (de_var 9) (do_none) (do_some (de_calC rfl C_l_take (by exact g) (by exact hr.mono (by decide)) tk (by rfl) (da_cons (de_var 0) (da_cons (de_int) (da_nil)))))))) (da_nil)))))) (dss_cons (ds_if (dt_cmp (op_eqA (by exact hr.units)) ok_eq (de_var 7) (de_int)) (dss_one (ds_set (i := 10) sc.nd (de_tup (da_cons (de_str) (da_cons (de_str) (da_cons (de_var 8) (da_cons (de_tupleOf rfl (by rfl) T.b_tuple (de_slice rfl (de_var 9) (do_none) (do_some (de_op op_addA ok_add (de_int) (de_calC rfl C_l_take (by exact g) (by exact hr.mono (by decide)) tk (by rfl) (da_cons (de_var 0) (da_cons (de_int) (da_nil)))))))) (da_nil)))))))) (dss_nil)) (dss_cons (ds_if (dt_cmp op_gtA ok_cmp (de_var 7) (de_int)) (dss_one (ds_set (i := 10) sc.nd (de_op op_addA ok_add (de_tup (da_cons (de_str) (da_nil))) (de_ix ix_seq ok_ix (de_lst (da_cons (de_tup (da_cons (de_str) (da_cons (de_var 8) (da_nil)))) (da_cons (de_tup (da_cons (de_str) (da_cons (de_var 8) (da_cons (de_tup (da_nil)) (da_nil))))) (da_nil)))) (de_op op_sub ok_sub (de_var 7) (de_int)))))) (dss_nil)) (dss_cons (ds_set (i := 11) sc.nd (de_op op_addA ok_add (de_var 4) (de_tup (da_cons (de_var 10) (da_nil))))) (dss_cons (ds_setLc (i := 12) [("_law_ahead", 14)] fin_list rfl sc.nd (di_seq rfl (de_var 4)) (blkOk_by (N := N_l_more_step) (sc := defScope s_l_more_step) (by decide +kernel)) (fun _ _ _ _ _ => dg_name (i := 14) sc.nd) (fun _ _ _ _ _ => dts_nil) (fun _ _ _ _ _ => de_tup (da_cons (de_ix ix_seq ok_ix (de_var 14) (de_int)) (da_cons (de_ix ix_seq ok_ix (de_var 10) (de_int)) (da_nil))))) (dss_one (ds_ret (de_tup (da_cons (de_ix ix_seq ok_ix (de_var 1) (de_int)) (da_cons (de_tup (da_cons (de_tup (da_cons (de_var 2) (da_cons (de_var 3) (da_cons (de_var 11) (da_cons (de_tupleOf rfl (by rfl) T.b_tuple (de_callB (cr_sortD (by exact hr.units)) ok_sortD (by rfl) T.b_sorted (by decide +kernel) (da_cons (de_op op_addA ok_add (de_callTy call_listOf ok_listOf (by rfl) T.b_list (by decide +kernel) (da_cons (de_var 5) (da_nil))) (de_var 12)) (da_nil)))) (da_nil)))))) (da_nil))) (da_nil))))))))))))))
theorem sc_l_more_table : FnScope N_l_more_table ["_law_box_here", "_law_plan_here"] (defScope s_l_more_table) := ⟨rfl, rfl, rfl, by decide +kernel, rfl, by decide +kernel, by decide +kernel⟩
theorem ok_l_more_table {f : Addr} {fd : FuncData} (F : Fun K "_law_more_table" "_law_more_table" s_l_more_table f fd) (T : Tx K mg) (C_l_pick : Cal P w (GG K) mg base "_law_pick" 2 ["_law_box_here", "_law_some"] [] F_l_pick) : FnG P w K mg base 3 f fd ["_law_box_here", "_law_plan_here"] (spD (GG K) 2 F_l_more_table) := by
  have sc := sc_l_more_table
  refine fn_okG (G := GG K) F sc fun cdv A outer s H E g hr tk po => ?_
  exact dss_cons (ds_asg (de_ix ix_seq ok_ix (de_ix ix_seq ok_ix (de_var 1) (de_int)) (de_int)) (dg_tup rfl rfl (dgs_cons (dg_name (i := 2) sc.nd) (dgs_cons (dg_name (i := 3) sc.nd) (dgs_cons (dg_name (i := 4) sc.nd) (dgs_cons (dg_name (i := 5) sc.nd) (dgs_nil))))))) (dss_cons (ds_set (i := 6) sc.nd (de_ix ix_seq ok_ix (de_ix ix_seq ok_ix (de_ix ix_seq ok_ix (de_ix ix_seq ok_ix (de_ix ix_seq ok_ix (de_var 1) (de_int)) (de_int)) (de_int)) (de_un un_neg ok_neg (de_int))) (de_int))) (dss_cons (ds_set (i := 7) sc.nd (de_lstC (da_cons (de_var 3) (da_cons (de_tup (da_cons (de_str) (da_cons (de_var 2) (da_cons (de_tup (da_cons (de_var 6) (da_nil))) (da_cons (de_tup (da_cons (de_tup (da_cons (de_str) (da_cons (de_str) (da_cons (de_non) (da_nil))))) (da_nil))) (da_nil)))))) (da_nil))))) (dss_cons (ds_expr (de_bm PySem.F.plainAttrs_list PySem.F.slot_list_append PySem.F.type_list_append mt_append ok_append ty_lst rfl (de_var 7) (da_cons (de_tup (da_cons (de_str) (da_cons (de_var 2) (da_cons (de_tup (da_cons (de_var 6) (da_nil))) (da_cons (de_str) (da_cons (de_str) (da_nil))))))) (da_nil)))) (dss_one (ds_ret (de_tup (da_cons (de_ix ix_seq ok_ix (de_var 1) (de_int)) (da_cons (de_op op_addA ok_add (de_ix ix_seq ok_ix (de_var 1) (de_int)) (de_tup (da_cons (de_tup (da_cons (de_str) (da_cons (de_calC rfl C_l_pick (by exact g) (by exact hr.mono (by decide)) tk (by rfl) (da_cons (de_var 0) (da_cons (de_var 7) (da_nil)))) (da_cons (de_tup (da_nil)) (da_cons (de_tup (da_nil)) (da_nil)))))) (da_nil)))) (da_nil)))))))))
theorem sc_l_more_source : FnScope N_l_more_source ["_law_box_here", "_law_plan_here"] (defScope s_l_more_source) := ⟨rfl, rfl, rfl, by decide +kernel, rfl, by decide +kernel, by decide +kernel⟩
theorem ok_l_more_source {f : Addr} {fd : FuncData} (F : Fun K "_law_more_source" "_law_more_source" s_l_more_source f fd) (T : Tx K mg) (C_l_shape : Cal P w (GG K) mg base "_law_shape" 3 ["_law_box_here", "_law_names"] [] F_l_shape) (C_l_take : Cal P w (GG K) mg base "_law_take" 1 ["_law_box_here", "_law_many"] [] F_l_take) : FnG P w K mg base 4 f fd ["_law_box_here", "_law_plan_here"] (spD (GG K) 2 F_l_more_source) := by
  have sc := sc_l_more_source
  refine fn_okG (G := GG K) F sc fun cdv A outer s H E g hr tk po => ?_
  exact dss_cons (ds_set (i := 2) sc.nd (de_tup (da_cons (de_str) (da_cons (de_calC rfl C_l_shape (by exact g) (by exact hr.mono (by decide)) tk (by rfl) (da_cons (de_var 0) (da_cons (de_lst (da_cons (de_str) (da_cons (de_str) (da_nil)))) (da_nil)))) (da_nil))))) (dss_one (ds_ret (de_tup (da_cons (de_ifExp (dt_cmp (op_eqA (by exact hr.units)) ok_eq (de_calC rfl C_l_take (by exact g) (by exact hr.mono (by decide)) tk (by rfl) (da_cons (de_var 0) (da_cons (de_int) (da_nil)))) (de_int)) (de_op op_addA ok_add (de_tup (da_cons (de_var 2) (da_nil))) (de_ix ix_seq ok_ix (de_var 1) (de_int))) (de_op op_addA ok_add (de_ix ix_seq ok_ix (de_var 1) (de_int)) (de_tup (da_cons (de_var 2) (da_nil))))) (da_cons (de_ix ix_seq ok_ix (de_var 1) (de_int)) (da_nil))))))
theorem sc_l_goes : FnScope N_l_goes ["_law_plan_here"] (defScope s_l_goes) := ⟨rfl, rfl, rfl, by decide +kernel, rfl, by decide +kernel, by decide +kernel⟩
theorem ok_l_goes {f : Addr} {fd : FuncData} (F : Fun K "_law_goes" "_law_goes" s_l_goes f fd) (T : Tx K mg) : FnG P w K mg base 1 f fd ["_law_plan_here"] (spD (GG K) 1 F_l_goes) := by
  have sc := sc_l_goes
  refine fn_okG (G := GG K) F sc fun cdv A outer s H E g hr tk po => ?_
  exact dss_cons (ds_if (dw_pt (dw_or (dt_cmp op_gtA ok_cmp (de_callB call_len ok_len (by rfl) T.b_len (by decide +kernel) (da_cons (de_ix ix_seq ok_ix (de_var 0) (de_int)) (da_nil))) (de_int)) (dw_or1 (dt_cmp (op_neA (by exact hr.units)) ok_ne (de_ix ix_seq ok_ix (de_ix ix_seq ok_ix (de_ix ix_seq ok_ix (de_ix ix_seq ok_ix (de_var 0) (de_int)) (de_int)) (de_int)) (de_int)) (de_str))))) (dss_one (ds_ret (de_bl))) (dss_nil)) (dss_cons (ds_for po rfl (di_seq rfl (de_ix ix_seq ok_ix (de_ix ix_seq ok_ix (de_ix ix_seq ok_ix (de_var 0) (de_int)) (de_int)) (de_int))) (dg_name (i := 1) sc.nd) (dss_one (ds_if (dw_pt (dw_or (dt_cmp op_inA ok_in (de_ix ix_seq ok_ix (de_var 1) (de_int)) (de_tup (da_cons (de_str) (da_cons (de_str) (da_nil))))) (dw_or1 (dw_pt (dw_and (dt_cmp (op_eqA (by exact hr.units)) ok_eq (de_ix ix_seq ok_ix (de_var 1) (de_int)) (de_str)) (dw_and1 (dt_cmp (op_neA (by exact hr.units)) ok_ne (de_ix ix_seq ok_ix (de_var 1) (de_int)) (de_tup (da_nil))))))))) (dss_one (ds_ret (de_bl))) (dss_nil)))) (dss_one (ds_ret (de_bl))))
theorem sc_goes_by_rows : FnScope N_goes_by_rows ["program"] (defScope s_goes_by_rows) := ⟨rfl, rfl, rfl, by decide +kernel, rfl, by decide +kernel, by decide +kernel⟩
theorem ok_goes_by_rows {f : Addr} {fd : FuncData} (F : Fun K "goes_by_rows" "goes_by_rows" s_goes_by_rows f fd) (T : Tx K mg) : FnG P w K mg base 1 f fd ["program"] (spD (GG K) 1 F_goes_by_rows) := by
  have sc := sc_goes_by_rows
  obtain ⟨t_FILL, c_FILL⟩ := T.c_FILL
  obtain ⟨t_OF, c_OF⟩ := T.c_OF
  obtain ⟨a_WIDE_STEPS, c_WIDE_STEPS, r_WIDE_STEPS⟩ := T.c_WIDE_STEPS
  refine fn_okG (G := GG K) F sc fun cdv A outer s H E g hr tk po => ?_
  exact dss_cons (ds_asg (de_var 0) (dg_tup rfl rfl (dgs_cons (dg_name (i := 1) sc.nd) (dgs_cons (dg_name (i := 2) sc.nd) (dgs_nil))))) (dss_cons (ds_if (dw_pt (dw_or (dt_cmp (op_neA (by exact hr.units)) ok_ne (de_callB call_len ok_len (by rfl) T.b_len (by decide +kernel) (da_cons (de_var 2) (da_nil))) (de_int)) (dw_or1 (dt_cmp (op_neA (by exact hr.units)) ok_ne (de_ix ix_seq ok_ix (de_ix ix_seq ok_ix (de_ix ix_seq ok_ix (de_var 2) (de_int)) (de_int)) (de_int)) (de_glob (v := V.str "of") (by rfl) c_OF (by exact ⟨_, rfl⟩) (fun _ => Rp.str _)))))) (dss_one (ds_ret (de_bl))) (dss_nil)) (dss_cons (ds_set (i := 3) sc.nd (de_ix ix_seq ok_ix (de_ix ix_seq ok_ix (de_var 2) (de_int)) (de_int))) (dss_one (ds_ret (de_not (de_callB (cr_any rfl) ok_any (by rfl) T.b_any (by decide +kernel) (da_cons (de_lc [("step", 4)] fin_list rfl sc.nd (di_seq rfl (de_var 3)) (blkOk_by (N := N_goes_by_rows) (sc := defScope s_goes_by_rows) (by decide +kernel)) (fun _ _ _ _ _ => dg_name (i := 4) sc.nd) (fun _ _ _ _ _ => dts_nil) (fun _ _ _ _ _ => de_or (de_cmp op_inA ok_in (de_ix ix_seq ok_ix (de_var 4) (de_int)) (de_glob (v := V.ref a_WIDE_STEPS) (by rfl) c_WIDE_STEPS rfl (fun w => r_WIDE_STEPS w.I))) (de_one (de_and (de_cmp (op_eqA (by exact hr.units)) ok_eq (de_ix ix_seq ok_ix (de_var 4) (de_int)) (de_glob (v := V.str "fill") (by rfl) c_FILL (by exact ⟨_, rfl⟩) (fun _ => Rp.str _))) (de_one (de_cmp (op_neA (by exact hr.units)) ok_ne (de_ix ix_seq ok_ix (de_var 4) (de_int)) (de_tup (da_nil)))))))) (da_nil))))))))
theorem sc_l_right : FnScope N_l_right ["_law_plan_here"] (defScope s_l_right) := ⟨rfl, rfl, rfl, by decide +kernel, rfl, by decide +kernel, by decide +kernel⟩
theorem ok_l_right {f : Addr} {fd : FuncData} (F : Fun K "_law_right" "_law_right" s_l_right f fd) (T : Tx K mg) (C_l_goes : Cal P w (GG K) mg base "_law_goes" 1 ["_law_plan_here"] [] F_l_goes) (C_goes_by_rows : Cal P w (GG K) mg base "goes_by_rows" 1 ["program"] [(["program"], [0])] F_goes_by_rows) : FnG P w K mg base 2 f fd ["_law_plan_here"] (spD (GG K) 1 F_l_right) := by
  have sc := sc_l_right
  refine fn_okG (G := GG K) F sc fun cdv A outer s H E g hr tk po => ?_
  exact dss_cons (ds_par (i := 1) (j := 2) rfl sc.nd (da_cons (de_callB (call_reprA (by exact g) (by exact hr.units)) ok_repr (by rfl) T.b_repr (by decide +kernel) (da_cons (de_var 0) (da_nil))) (da_cons (de_calC rfl C_l_goes (by exact g) (by exact hr.mono (by decide)) tk (by rfl) (da_cons (de_var 0) (da_nil))) (da_nil)))) (dss_cons (ds_set (i := 3) sc.nd (de_lst (da_cons (de_calC rfl C_goes_by_rows (by exact g) (by exact hr.mono (by decide)) tk (by rfl) (da_cons (de_var 0) (da_nil))) (da_cons (de_calK ["program"] [0] rfl C_goes_by_rows (by exact g) (by exact hr.mono (by decide)) tk (by rfl) (dk_cons (de_var 0) (dk_nil)) (by simp)) (da_cons (de_calC rfl C_goes_by_rows (by exact g) (by exact hr.mono (by decide)) tk (by rfl) (da_cons (de_var 0) (da_nil))) (da_nil)))))) (dss_one (ds_ret (de_and (de_cmp (op_eqA (by exact hr.units)) ok_eq (de_callB (call_reprA (by exact g) (by exact hr.units)) ok_repr (by rfl) T.b_repr (by decide +kernel) (da_cons (de_var 3) (da_nil))) (de_callB (call_reprA (by exact g) (by exact hr.units)) ok_repr (by rfl) T.b_repr (by decide +kernel) (da_cons (de_lst (da_cons (de_var 2) (da_cons (de_var 2) (da_cons (de_var 2) (da_nil))))) (da_nil)))) (de_one (de_cmp (op_eqA (by exact hr.units)) ok_eq (de_callB (call_reprA (by exact g) (by exact hr.units)) ok_repr (by rfl) T.b_repr (by decide +kernel) (da_cons (de_var 0) (da_nil))) (de_var 1)))))))
theorem sc_law : FnScope N_law ["_law_script"] (defScope s_law) := ⟨rfl, rfl, rfl, by decide +kernel, rfl, by decide +kernel, by decide +kernel⟩
theorem ok_law {f : Addr} {fd : FuncData} (F : Fun K "law" "law" s_law f fd) (T : Tx K mg) (C_l_box : Cal P w (GG K) mg base "_law_box" 1 ["_law_script", "_law_k"] [] F_l_box) (C_l_plan : Cal P w (GG K) mg base "_law_plan" 6 ["_law_box_here", "_law_most"] [] F_l_plan) (C_l_more_step : Cal P w (GG K) mg base "_law_more_step" 3 ["_law_box_here", "_law_plan_here"] [] F_l_more_step) (C_l_more_table : Cal P w (GG K) mg base "_law_more_table" 3 ["_law_box_here", "_law_plan_here"] [] F_l_more_table) (C_l_more_source : Cal P w (GG K) mg base "_law_more_source" 4 ["_law_box_here", "_law_plan_here"] [] F_l_more_source) (C_l_right : Cal P w (GG K) mg base "_law_right" 2 ["_law_plan_here"] [] F_l_right) : FnG P w K mg base 7 f fd ["_law_script"] (spD (GG K) 1 F_law) := by
  have sc := sc_law
  refine fn_okG (G := GG K) F sc fun cdv A outer s H E g hr tk po => ?_
  exact dss_cons (ds_for po rfl (di_range1 (by rfl) T.b_range (da_cons (de_op op_addA ok_add (de_int) (de_callB call_len ok_len (by rfl) T.b_len (by decide +kernel) (da_cons (de_slice rfl (de_var 0) (do_none) (do_some (de_int))) (da_nil)))) (da_nil))) (dg_name (i := 1) sc.nd) (dss_cons (ds_set (i := 2) sc.nd (de_calC rfl C_l_box (by exact g) (by exact hr.mono (by decide)) tk (by rfl) (da_cons (de_var 0) (da_cons (de_var 1) (da_nil))))) (dss_one (ds_for po rfl (di_range1 (by rfl) T.b_range (da_cons (de_int) (da_nil))) (dg_name (i := 3) sc.nd) (dss_cons (ds_set (i := 4) sc.nd (de_calC rfl C_l_plan (by exact g) (by exact hr.mono (by decide)) tk (by rfl) (da_cons (de_var 2) (da_cons (de_int) (da_nil))))) (dss_cons (ds_set (i := 5) sc.nd (de_lst (da_cons (de_var 4) (da_cons (de_calC rfl C_l_more_step (by exact g) (by exact hr.mono (by decide)) tk (by rfl) (da_cons (de_var 2) (da_cons (de_var 4) (da_nil)))) (da_cons (de_calC rfl C_l_more_step (by exact g) (by exact hr.mono (by decide)) tk (by rfl) (da_cons (de_var 2) (da_cons (de_var 4) (da_nil)))) (da_nil)))))) (dss_cons (ds_set (i := 5) sc.nd (de_op op_addA ok_add (de_var 5) (de_lst (da_cons (de_calC rfl C_l_more_table (by exact g) (by exact hr.mono (by decide)) tk (by rfl) (da_cons (de_var 2) (da_cons (de_var 4) (da_nil)))) (da_cons (de_calC rfl C_l_more_table (by exact g) (by exact hr.mono (by decide)) tk (by rfl) (da_cons (de_var 2) (da_cons (de_ix ix_seq ok_ix (de_var 5) (de_int)) (da_nil)))) (da_nil)))))) (dss_cons (ds_set (i := 5) sc.nd (de_op op_addA ok_add (de_var 5) (de_lst (da_cons (de_calC rfl C_l_more_source (by exact g) (by exact hr.mono (by decide)) tk (by rfl) (da_cons (de_var 2) (da_cons (de_var 4) (da_nil)))) (da_cons (de_calC rfl C_l_more_source (by exact g) (by exact hr.mono (by decide)) tk (by rfl) (da_cons (de_var 2) (da_cons (de_ix ix_seq ok_ix (de_var 5) (de_int)) (da_nil)))) (da_nil)))))) (dss_one (ds_if (dt_not (dt_val (de_callB (cr_all rfl) ok_all (by rfl) T.b_all (by decide +kernel) (da_cons (de_lc [("_law_its", 6)] fin_list rfl sc.nd (di_seq rfl (de_var 5)) (blkOk_by (N := N_law) (sc := defScope s_law) (by decide +kernel)) (fun _ _ _ _ _ => dg_name (i := 6) sc.nd) (fun _ _ _ _ _ => dts_nil) (fun _ _ _ _ _ => de_calC rfl C_l_right (by exact g) (by exact hr.mono (by decide)) takes0 (by rfl) (da_cons (de_var 6) (da_nil)))) (da_nil))))) (dss_one (ds_ret (de_bl))) (dss_nil))))))))))) (dss_one (ds_ret (de_bl)))
end
end LW

namespace LW
open PySem PySem.Spec PyProof.Rows L2 DL
theorem ediv_le (a n : Int) (h0 : 0 ≤ a) (hn : 0 < n) : (a / n).natAbs ≤ a.natAbs := by
  have h1 : 0 ≤ a / n := Int.ediv_nonneg h0 (by omega)
  have h2 : a / n ≤ a := Int.ediv_le_self _ h0
  omega
/-- the box: three numbers in bounds; m: how many draws at most so far -/
def Bx (h m : Nat) (μ : Store) : Prop := ∃ a b c : Int, μ[h]? = some (.lst [.d (.int a), .d (.int b), .d (.int c)]) ∧ 0 ≤ a ∧ 0 ≤ b ∧ b < 2 ^ 62 ∧ 0 ≤ c ∧ c ≤ m
theorem Bx.mono {h m n : Nat} {μ : Store} (x : Bx h m μ) (l : m ≤ n) : Bx h n μ := by
  obtain ⟨a, b, c, e, h1, h3, h4, h5, h6⟩ := x
  exact ⟨a, b, c, e, h1, h3, h4, h5, by omega⟩
theorem w_take {h m : Nat} {μ : Store} {P : Dv → Store → Prop} (H : Bx h m μ) (hm : m ≤ 10 ^ 9) {n : Int} (h0 : 0 < n) (h1 : n < 2 ^ 60) (fin : ∀ (r : Nat) μ', (r : Int) < n → Bx h (m + 1) μ' → Oth h μ μ' → P (.d (.int r)) μ') : Wp (F_l_take [.c h, .d (.int n)] μ) P := by
  obtain ⟨a, b, c, e, a0, b0, b1, c0, c1⟩ := H
  have hh := lt_of_get e
  have i0 : L2.atI [Dv.d (.int a), Dv.d (.int b), Dv.d (.int c)] 0 = some (.d (.int a)) := rfl
  have i2 : L2.atI [Dv.d (.int a), Dv.d (.int b), Dv.d (.int c)] 2 = some (.d (.int c)) := rfl
  have nn : ∀ x : Int, ∃ r : Nat, x % n = (r : Int) ∧ (r : Int) < n := fun x => ⟨(x % n).toNat, (Int.toNat_of_nonneg (Int.emod_nonneg _ (by omega))).symm, by rw [Int.toNat_of_nonneg (Int.emod_nonneg _ (by omega))]; exact Int.emod_lt_of_pos _ h0⟩
  unfold F_l_take B_l_take
  apply Wp_run
  by_cases ha : 0 < a
  · obtain ⟨r, er, hr⟩ := nn a
    simp -implicitDefEqProofs (disch := first | (with_reducible assumption) | ((with_reducible show List.length _ = _); rfl) | (simp only [allD_cons, allD_nil, Option.map_some, Option.isSome_some]; done) | (simp only [List.length_cons, List.length_nil, List.length_map]; done) | ((with_reducible refine cMod_of ?_); omega) | ((with_reducible refine cDiv_of ?_ ?_) <;> omega) | ((with_reducible refine okR_of ?_ ?_) <;> omega) | omega | (simp only [List.length_take, List.length_drop, List.length_append, List.length_cons, List.length_nil, List.length_map, List.length_range, List.length_replicate]; omega)) [-sSeq_r, -sRet_r, -sDrop_r, -sSet_r, -sIf_r, -sPar_r, -sAsg_r, -sSetIx_r, -sFor_r, -gsCons_r, -gT_r, -e1_r, -e2_r, -tV_r, -tAndM_r, -tOrM_r, -tNotM_r, -eAnd_r, -eOr_r, -eNot_r, -eIf_r, -aCons_r, -eN_r, -fCall_r, -eCallK_r, -eM_r, -eSl_r, -oSome_r, -eIsN_r, -eLc_r, -iSeq_r, -iRng_r, r1_l_take, r2_l_take, r3_l_take, r4_l_take, r5_l_take, r6_l_take, dIx_c e i0, ha, dSetIx_c e (show L2.ixN _ 0 = some 0 from rfl), er]
    exact fin r _ hr ⟨a / n, b, c, by rw [List.getElem?_set_self hh], Int.ediv_nonneg a0 (by omega), b0, b1, c0, by omega⟩ (Oth.set _ _ _)
  · have e' : (μ.set h (.lst [.d (.int a), .d (.int b), .d (.int (c + 1))]))[h]? = some (.lst [.d (.int a), .d (.int b), .d (.int (c + 1))]) := by rw [List.getElem?_set_self hh]
    have i1' : L2.atI [Dv.d (.int a), Dv.d (.int b), Dv.d (.int (c + 1))] 1 = some (.d (.int b)) := rfl
    have i2' : L2.atI [Dv.d (.int a), Dv.d (.int b), Dv.d (.int (c + 1))] 2 = some (.d (.int (c + 1))) := rfl
    have cT : c + 1 < 2 ^ 40 := by omega
    have m1 : cMul 40009 (c + 1) = true := cMul_ok (a := 20) (b := 41) (by decide) (by omega) (by decide) (by decide) (by decide)
    have q1 : (40009 * (c + 1)).natAbs < 2 ^ 60 := by omega
    have m2 : cMul (40009 * (c + 1)) (c + 1) = true := cMul_ok (a := 60) (b := 41) q1 (by omega) (by decide) (by decide) (by decide)
    have q2 : (40009 * (c + 1) * (c + 1)).natAbs < 2 ^ 101 := by
      rw [Int.natAbs_mul]
      have : (c + 1).natAbs < 2 ^ 41 := by omega
      calc (40009 * (c + 1)).natAbs * (c + 1).natAbs < 2 ^ 60 * 2 ^ 41 := Nat.mul_lt_mul'' q1 this
        _ = 2 ^ 101 := by decide
    generalize hy : 40009 * (c + 1) * (c + 1) = y at q2
    have m3 : cMul (b + y + 101) 48271 = true := cMul_ok (a := 103) (b := 20) (by omega) (by decide) (by decide) (by decide) (by decide)
    generalize hx : (b + y + 101) * 48271 % 2305843009213693921 = x
    have x0 : 0 ≤ x ∧ x < 2305843009213693921 := by rw [← hx]; exact ⟨Int.emod_nonneg _ (by decide), Int.emod_lt_of_pos _ (by decide)⟩
    have m4 : cMul 99991 (c + 1) = true := cMul_ok (a := 40) (b := 41) (by decide) (by omega) (by decide) (by decide) (by decide)
    have x1 : 0 ≤ x % 1000003 ∧ x % 1000003 < 1000003 := ⟨Int.emod_nonneg _ (by decide), Int.emod_lt_of_pos _ (by decide)⟩
    have m5 : cMul x (x % 1000003 + 99991 * (c + 1)) = true := cMul_ok (a := 100) (b := 100) (by omega) (by omega) (by decide) (by decide) (by decide)
    generalize hz : x * (x % 1000003 + 99991 * (c + 1)) % 2305843009213693907 = z
    obtain ⟨r, er, hr⟩ := nn (z / 97 + z / 1000033)
    simp -implicitDefEqProofs (disch := first | (with_reducible assumption) | ((with_reducible show List.length _ = _); rfl) | (simp only [allD_cons, allD_nil, Option.map_some, Option.isSome_some]; done) | (simp only [List.length_cons, List.length_nil, List.length_map]; done) | ((with_reducible refine cMod_of ?_); omega) | ((with_reducible refine cDiv_of ?_ ?_) <;> omega) | ((with_reducible refine okR_of ?_ ?_) <;> omega) | omega | (simp only [List.length_take, List.length_drop, List.length_append, List.length_cons, List.length_nil, List.length_map, List.length_range, List.length_replicate]; omega)) [-sSeq_r, -sRet_r, -sDrop_r, -sSet_r, -sIf_r, -sPar_r, -sAsg_r, -sSetIx_r, -sFor_r, -gsCons_r, -gT_r, -e1_r, -e2_r, -tV_r, -tAndM_r, -tOrM_r, -tNotM_r, -eAnd_r, -eOr_r, -eNot_r, -eIf_r, -aCons_r, -eN_r, -fCall_r, -eCallK_r, -eM_r, -eSl_r, -oSome_r, -eIsN_r, -eLc_r, -iSeq_r, -iRng_r, r1_l_take, r2_l_take, r3_l_take, r4_l_take, r5_l_take, r6_l_take, dIx_c e i0, dIx_c e i2, ha, dSetIx_c e (show L2.ixN _ 2 = some 2 from rfl), dIx_c e' i1', dIx_c e' i2', hy, hx, hz, er]
    exact fin r _ hr ⟨a, b, c + 1, e', a0, b0, b1, by omega, by omega⟩ (Oth.set _ _ _)
end LW

namespace LW
open PySem PySem.Spec PyProof.Rows L2 DL
/-- what stood there before stands there still, but the box -/
def Ext (h : Nat) (μ μ' : Store) : Prop := μ.length ≤ μ'.length ∧ ∀ i, i < μ.length → i ≠ h → μ'[i]? = μ[i]?
theorem Ext.refl (h : Nat) (μ : Store) : Ext h μ μ := ⟨Nat.le_refl _, fun _ _ _ => rfl⟩
theorem Ext.trans {h : Nat} {a b c : Store} (x : Ext h a b) (y : Ext h b c) : Ext h a c := ⟨Nat.le_trans x.1 y.1, fun i hi hn => (y.2 i (Nat.lt_of_lt_of_le hi x.1) hn).trans (x.2 i hi hn)⟩
theorem Ext.oth {h : Nat} {a b : Store} (x : Oth h a b) : Ext h a b := ⟨Nat.le_of_eq x.1.symm, fun i _ hn => x.2 i hn⟩
theorem Ext.app (h : Nat) (a b : Store) : Ext h a (a ++ b) := ⟨by simp, fun i hi _ => List.getElem?_append_left hi⟩
theorem Ext.at {h n : Nat} {a b : Store} {c : Cell} (x : Ext h a b) (hn : n ≠ h) (e : a[n]? = some c) : b[n]? = some c := by
  rw [x.2 n (lt_of_get e) hn]
  exact e
/-- a text in bounds -/
def Sx (d : D) : Prop := ∃ l : List Nat, d = .str (T l) ∧ l.length ≤ 20 ∧ ∀ c ∈ l, c < 128
theorem Sx.sm {d : D} (h : Sx d) : Sm 0 202 d := by
  obtain ⟨l, rfl, h1, h2⟩ := h
  exact (Sm.str fun c hc => Nat.lt_trans (h2 c hc) (by decide)).mono (Nat.le_refl _) (by omega)
theorem Sx.of {l : List Nat} (h : (decide (l.length ≤ 20) && l.all fun c => decide (c < 128)) = true) : Sx (.str (T l)) := by
  simp only [Bool.and_eq_true, decide_eq_true_eq, List.all_eq_true] at h
  exact ⟨l, rfl, h.1, h.2⟩
theorem Sx.str {d : D} (h : Sx d) : ∃ x, d = .str x := by
  obtain ⟨l, rfl, _⟩ := h
  exact ⟨_, rfl⟩
section
variable {h m : Nat} {μ : Store} {P : Dv → Store → Prop}
theorem w_pick (H : Bx h m μ) (hm : m ≤ 10 ^ 9) {ds : List D} (h0 : 0 < ds.length) (h1 : ds.length < 10 ^ 6) (fin : ∀ c μ', c ∈ ds → Bx h (m + 1) μ' → Oth h μ μ' → P (.d c) μ') : Wp (F_l_pick [.c h, .d (.list ds)] μ) P := by
  unfold F_l_pick B_l_pick
  apply Wp_run
  simp -implicitDefEqProofs (disch := first | (with_reducible assumption) | ((with_reducible show List.length _ = _); rfl) | (simp only [allD_cons, allD_nil, Option.map_some, Option.isSome_some]; done) | (simp only [List.length_cons, List.length_nil, List.length_map]; done) | ((with_reducible refine cMod_of ?_); omega) | ((with_reducible refine cDiv_of ?_ ?_) <;> omega) | ((with_reducible refine okR_of ?_ ?_) <;> omega) | omega | (simp only [List.length_take, List.length_drop, List.length_append, List.length_cons, List.length_nil, List.length_map, List.length_range, List.length_replicate]; omega)) [-sSeq_r, -sRet_r, -sDrop_r, -sSet_r, -sIf_r, -sPar_r, -sAsg_r, -sSetIx_r, -sFor_r, -gsCons_r, -gT_r, -e1_r, -e2_r, -tV_r, -tAndM_r, -tOrM_r, -tNotM_r, -eAnd_r, -eOr_r, -eNot_r, -eIf_r, -aCons_r, -eN_r, -fCall_r, -eCallK_r, -eM_r, -eSl_r, -oSome_r, -eIsN_r, -eLc_r, -iSeq_r, -iRng_r, ]
  refine w_take H hm (by omega) (by omega) fun r μ' hr H' O => ?_
  have hi : r < ds.length := by omega
  simp -implicitDefEqProofs (disch := first | (with_reducible assumption) | ((with_reducible show List.length _ = _); rfl) | (simp only [allD_cons, allD_nil, Option.map_some, Option.isSome_some]; done) | (simp only [List.length_cons, List.length_nil, List.length_map]; done) | ((with_reducible refine cMod_of ?_); omega) | ((with_reducible refine cDiv_of ?_ ?_) <;> omega) | ((with_reducible refine okR_of ?_ ?_) <;> omega) | omega | (simp only [List.length_take, List.length_drop, List.length_append, List.length_cons, List.length_nil, List.length_map, List.length_range, List.length_replicate]; omega)) [-sSeq_r, -sRet_r, -sDrop_r, -sSet_r, -sIf_r, -sPar_r, -sAsg_r, -sSetIx_r, -sFor_r, -gsCons_r, -gT_r, -e1_r, -e2_r, -tV_r, -tAndM_r, -tOrM_r, -tNotM_r, -eAnd_r, -eOr_r, -eNot_r, -eIf_r, -aCons_r, -eN_r, -fCall_r, -eCallK_r, -eM_r, -eSl_r, -oSome_r, -eIsN_r, -eLc_r, -iSeq_r, -iRng_r, dIx_l (atI_nn (show ds[r]? = some ds[r] by simp [hi]))]
  exact fin _ μ' (List.getElem_mem hi) H' O
theorem w_pickS (H : Bx h m μ) (hm : m ≤ 10 ^ 9) {l : List Nat} (h0 : 0 < l.length) (h1 : l.length < 10 ^ 6) (fin : ∀ c μ', c ∈ l → Bx h (m + 1) μ' → Oth h μ μ' → P (.d (.str (T [c]))) μ') : Wp (F_l_pick [.c h, .d (.str (T l))] μ) P := by
  unfold F_l_pick B_l_pick
  apply Wp_run
  simp -implicitDefEqProofs (disch := first | (with_reducible assumption) | ((with_reducible show List.length _ = _); rfl) | (simp only [allD_cons, allD_nil, Option.map_some, Option.isSome_some]; done) | (simp only [List.length_cons, List.length_nil, List.length_map]; done) | ((with_reducible refine cMod_of ?_); omega) | ((with_reducible refine cDiv_of ?_ ?_) <;> omega) | ((with_reducible refine okR_of ?_ ?_) <;> omega) | omega | (simp only [List.length_take, List.length_drop, List.length_append, List.length_cons, List.length_nil, List.length_map, List.length_range, List.length_replicate]; omega)) [-sSeq_r, -sRet_r, -sDrop_r, -sSet_r, -sIf_r, -sPar_r, -sAsg_r, -sSetIx_r, -sFor_r, -gsCons_r, -gT_r, -e1_r, -e2_r, -tV_r, -tAndM_r, -tOrM_r, -tNotM_r, -eAnd_r, -eOr_r, -eNot_r, -eIf_r, -aCons_r, -eN_r, -fCall_r, -eCallK_r, -eM_r, -eSl_r, -oSome_r, -eIsN_r, -eLc_r, -iSeq_r, -iRng_r, ]
  refine w_take H hm (by omega) (by omega) fun r μ' hr H' O => ?_
  have hi : r < l.length := by omega
  simp -implicitDefEqProofs (disch := first | (with_reducible assumption) | ((with_reducible show List.length _ = _); rfl) | (simp only [allD_cons, allD_nil, Option.map_some, Option.isSome_some]; done) | (simp only [List.length_cons, List.length_nil, List.length_map]; done) | ((with_reducible refine cMod_of ?_); omega) | ((with_reducible refine cDiv_of ?_ ?_) <;> omega) | ((with_reducible refine okR_of ?_ ?_) <;> omega) | omega | (simp only [List.length_take, List.length_drop, List.length_append, List.length_cons, List.length_nil, List.length_map, List.length_range, List.length_replicate]; omega)) [-sSeq_r, -sRet_r, -sDrop_r, -sSet_r, -sIf_r, -sPar_r, -sAsg_r, -sSetIx_r, -sFor_r, -gsCons_r, -gT_r, -e1_r, -e2_r, -tV_r, -tAndM_r, -tOrM_r, -tNotM_r, -eAnd_r, -eOr_r, -eNot_r, -eIf_r, -aCons_r, -eN_r, -fCall_r, -eCallK_r, -eM_r, -eSl_r, -oSome_r, -eIsN_r, -eLc_r, -iSeq_r, -iRng_r, dIx_s (show l.length ≤ 16000000 by omega) (atI_nn (show l[r]? = some l[r] by simp [hi]))]
  exact fin _ μ' (List.getElem_mem hi) H' O
theorem dLen_c {n : Nat} {xs : List Dv} (e : μ[n]? = some (.lst xs)) : dLen [.c n] μ = .ok (.d (.int xs.length)) μ := by
  show (match itemsA (.c n) μ with | some xs => Out.ok (Dv.d (.int xs.length)) μ | none => .bad) = _
  have : itemsA (.c n) μ = some xs := by
    unfold itemsA itemsT items
    simp only [e]
  rw [this]
theorem w_pickC (H : Bx h m μ) (hm : m ≤ 10 ^ 9) {n : Nat} {ds : List D} (e : μ[n]? = some (.lst (ds.map .d))) (hn : n ≠ h) (h0 : 0 < ds.length) (h1 : ds.length < 10 ^ 6) (fin : ∀ c μ', c ∈ ds → Bx h (m + 1) μ' → Oth h μ μ' → P (.d c) μ') : Wp (F_l_pick [.c h, .c n] μ) P := by
  unfold F_l_pick B_l_pick
  apply Wp_run
  simp -implicitDefEqProofs (disch := first | (with_reducible assumption) | ((with_reducible show List.length _ = _); rfl) | (simp only [allD_cons, allD_nil, Option.map_some, Option.isSome_some]; done) | (simp only [List.length_cons, List.length_nil, List.length_map]; done) | ((with_reducible refine cMod_of ?_); omega) | ((with_reducible refine cDiv_of ?_ ?_) <;> omega) | ((with_reducible refine okR_of ?_ ?_) <;> omega) | omega | (simp only [List.length_take, List.length_drop, List.length_append, List.length_cons, List.length_nil, List.length_map, List.length_range, List.length_replicate]; omega)) [-sSeq_r, -sRet_r, -sDrop_r, -sSet_r, -sIf_r, -sPar_r, -sAsg_r, -sSetIx_r, -sFor_r, -gsCons_r, -gT_r, -e1_r, -e2_r, -tV_r, -tAndM_r, -tOrM_r, -tNotM_r, -eAnd_r, -eOr_r, -eNot_r, -eIf_r, -aCons_r, -eN_r, -fCall_r, -eCallK_r, -eM_r, -eSl_r, -oSome_r, -eIsN_r, -eLc_r, -iSeq_r, -iRng_r, dLen_c e]
  refine w_take H hm (by omega) (by omega) fun r μ' hr H' O => ?_
  have hi : r < ds.length := by omega
  have e' : μ'[n]? = some (.lst (ds.map .d)) := by rw [O.2 n hn]; exact e
  simp -implicitDefEqProofs (disch := first | (with_reducible assumption) | ((with_reducible show List.length _ = _); rfl) | (simp only [allD_cons, allD_nil, Option.map_some, Option.isSome_some]; done) | (simp only [List.length_cons, List.length_nil, List.length_map]; done) | ((with_reducible refine cMod_of ?_); omega) | ((with_reducible refine cDiv_of ?_ ?_) <;> omega) | ((with_reducible refine okR_of ?_ ?_) <;> omega) | omega | (simp only [List.length_take, List.length_drop, List.length_append, List.length_cons, List.length_nil, List.length_map, List.length_range, List.length_replicate]; omega)) [-sSeq_r, -sRet_r, -sDrop_r, -sSet_r, -sIf_r, -sPar_r, -sAsg_r, -sSetIx_r, -sFor_r, -gsCons_r, -gT_r, -e1_r, -e2_r, -tV_r, -tAndM_r, -tOrM_r, -tNotM_r, -eAnd_r, -eOr_r, -eNot_r, -eIf_r, -aCons_r, -eN_r, -fCall_r, -eCallK_r, -eM_r, -eSl_r, -oSome_r, -eIsN_r, -eLc_r, -iSeq_r, -iRng_r, dIx_c e' (atI_nn (show (ds.map Dv.d)[r]? = some (.d ds[r]) by simp [hi]))]
  exact fin _ μ' (List.getElem_mem hi) H' O
theorem w_words1 {μ4 : Store} {k f j : Nat} {l z : List Nat} {t : List Nat} (ht : t.length = 26) (ht2 : ∀ x ∈ t, x < 128) (hk : k ≤ 100) (hf : f < 26) (hj : j ≤ 25) (l1 : l.length ≤ 7) (l2 : ∀ x ∈ l, x < 128) (z1 : z.length ≤ 1) (z2 : ∀ x ∈ z, x < 128) (H4 : Bx h (m + 10) μ4) (E4 : Ext h μ μ4)
    (fin : ∀ n μ' (ds : List D), μ.length ≤ n → n ≠ h → ds.length = k → (∀ d ∈ ds, Sx d) → μ'[n]? = some (.lst (ds.map .d)) → Bx h (m + 10) μ' → Ext h μ μ' → P (.c n) μ') :
    Wp (r1_l_words [some (.c h), some (.d (.int k)), some (.d (.str (T t))), some (.d (.str (T l))), some (.d (.int f)), some (.d (.int j)), some (.d (.str (T z))), none] μ4) (finP P) := by
  simp -implicitDefEqProofs (disch := first | (with_reducible assumption) | ((with_reducible show List.length _ = _); rfl) | (simp only [allD_cons, allD_nil, Option.map_some, Option.isSome_some]; done) | (simp only [List.length_cons, List.length_nil, List.length_map]; done) | ((with_reducible refine cMod_of ?_); omega) | ((with_reducible refine cDiv_of ?_ ?_) <;> omega) | ((with_reducible refine okR_of ?_ ?_) <;> omega) | omega | (simp only [List.length_take, List.length_drop, List.length_append, List.length_cons, List.length_nil, List.length_map, List.length_range, List.length_replicate]; omega)) [-sSeq_r, -sRet_r, -sDrop_r, -sSet_r, -sIf_r, -sPar_r, -sAsg_r, -sSetIx_r, -sFor_r, -gsCons_r, -gT_r, -e1_r, -e2_r, -tV_r, -tAndM_r, -tOrM_r, -tNotM_r, -eAnd_r, -eOr_r, -eNot_r, -eIf_r, -aCons_r, -eN_r, -fCall_r, -eCallK_r, -eM_r, -eSl_r, -oSome_r, -eIsN_r, -eLc_r, -iSeq_r, -iRng_r, r1_l_words]
  refine Wp_lcF (by simp; omega) ?_
  refine Wp_lcM_y (fun _ μ' => μ' = μ4) (fun y => ∃ d, y = .d d ∧ Sx d) (i := 0) rfl (fun i b μ' hb e => ?_) fun ys μ' hl hy e => ?_
  · subst e
    obtain ⟨i', hi, rfl⟩ : ∃ i' : Nat, i' < k ∧ b = .d (.int i') := by
      rw [List.getElem?_map] at hb
      obtain ⟨x, hx, rfl⟩ := Option.map_eq_some_iff.mp hb
      have := List.mem_of_getElem? hx
      exact ⟨x, by simpa using this, rfl⟩
    have c1 : cMul (j : Int) (i' : Int) = true := cMul_ok (a := 10) (b := 10) (by omega) (by omega) (by decide) (by decide) (by decide)
    obtain ⟨q, eq, hq⟩ : ∃ q : Nat, ((f : Int) + (j : Int) * (i' : Int)) % 26 = (q : Int) ∧ q < 26 := ⟨(((f : Int) + (j : Int) * (i' : Int)) % 26).toNat, (Int.toNat_of_nonneg (Int.emod_nonneg _ (by decide))).symm, by omega⟩
    obtain ⟨c, hc⟩ : ∃ c, t[q]? = some c := ⟨_, List.getElem?_eq_getElem (by rw [ht]; exact hq)⟩
    have c2 : c < 128 := by
      exact ht2 _ (List.mem_of_getElem? hc)
    simp -implicitDefEqProofs (disch := first | (with_reducible assumption) | ((with_reducible show List.length _ = _); rfl) | (simp only [allD_cons, allD_nil, Option.map_some, Option.isSome_some]; done) | (simp only [List.length_cons, List.length_nil, List.length_map]; done) | ((with_reducible refine cMod_of ?_); omega) | ((with_reducible refine cDiv_of ?_ ?_) <;> omega) | ((with_reducible refine okR_of ?_ ?_) <;> omega) | omega | (simp only [List.length_take, List.length_drop, List.length_append, List.length_cons, List.length_nil, List.length_map, List.length_range, List.length_replicate]; omega)) [-sSeq_r, -sRet_r, -sDrop_r, -sSet_r, -sIf_r, -sPar_r, -sAsg_r, -sSetIx_r, -sFor_r, -gsCons_r, -gT_r, -e1_r, -e2_r, -tV_r, -tAndM_r, -tOrM_r, -tNotM_r, -eAnd_r, -eOr_r, -eNot_r, -eIf_r, -aCons_r, -eN_r, -fCall_r, -eCallK_r, -eM_r, -eSl_r, -oSome_r, -eIsN_r, -eLc_r, -iSeq_r, -iRng_r, wipeD, c1_l_words, ht, eq, dIx_s (show t.length ≤ 16000000 by omega) (atI_nn hc)]
    refine ⟨_, rfl, ?_, ?_⟩
    · simp; omega
    · intro x hx
      simp only [List.mem_append, List.mem_cons, List.not_mem_nil, or_false] at hx
      rcases hx with hx | hx | hx
      · exact l2 x hx
      · omega
      · exact z2 x hx
  · subst e
    obtain ⟨ds, rfl, hd⟩ : ∃ ds : List D, ys = ds.map .d ∧ ∀ d ∈ ds, Sx d := by
      clear hl
      induction ys with
      | nil => exact ⟨[], rfl, fun d h => by cases h⟩
      | cons y ys ih =>
        obtain ⟨d, rfl, hd⟩ := hy y List.mem_cons_self
        obtain ⟨ds, rfl, hds⟩ := ih fun z hz => hy z (List.mem_cons_of_mem _ hz)
        refine ⟨d :: ds, rfl, fun e he => ?_⟩
        rcases List.mem_cons.mp he with e2 | he
        · rw [e2]; exact hd
        · exact hds e he
    have hk2 : ds.length = k := by simpa using hl
    have hb := line_big
    show Wp (if (ds.map Dv.d).length ≤ sizeLine then Out.ok (Dv.c μ'.length) (μ' ++ [.lst (ds.map .d)]) else .bad) _
    rw [if_pos (by rw [List.length_map]; omega)]
    obtain ⟨a, b, c, e, r⟩ := H4
    have hh := lt_of_get e
    have q1 : (μ' ++ [Cell.lst (ds.map .d)])[μ'.length]? = some (.lst (ds.map .d)) := by simp
    have q2 : Bx h (m + 10) (μ' ++ [Cell.lst (ds.map .d)]) := ⟨a, b, c, by rw [List.getElem?_append_left hh]; exact e, r⟩
    exact .mk <| fin μ'.length (μ' ++ [Cell.lst (ds.map .d)]) ds E4.1 (by omega) hk2 hd q1 q2 (E4.trans (Ext.app h _ _))
/-- a new cell of texts, of this length -/
theorem w_words (H : Bx h m μ) (hm : m + 10 ≤ 10 ^ 9) {k : Nat} (hk : k ≤ 100) (fin : ∀ n μ' (ds : List D), μ.length ≤ n → n ≠ h → ds.length = k → (∀ d ∈ ds, Sx d) → μ'[n]? = some (.lst (ds.map .d)) → Bx h (m + 10) μ' → Ext h μ μ' → P (.c n) μ') : Wp (F_l_words [.c h, .d (.int k)] μ) P := by
  unfold F_l_words B_l_words
  apply Wp_run
  simp -implicitDefEqProofs (disch := first | (with_reducible assumption) | ((with_reducible show List.length _ = _); rfl) | (simp only [allD_cons, allD_nil, Option.map_some, Option.isSome_some]; done) | (simp only [List.length_cons, List.length_nil, List.length_map]; done) | ((with_reducible refine cMod_of ?_); omega) | ((with_reducible refine cDiv_of ?_ ?_) <;> omega) | ((with_reducible refine okR_of ?_ ?_) <;> omega) | omega | (simp only [List.length_take, List.length_drop, List.length_append, List.length_cons, List.length_nil, List.length_map, List.length_range, List.length_replicate]; omega)) [-sSeq_r, -sRet_r, -sDrop_r, -sSet_r, -sIf_r, -sPar_r, -sAsg_r, -sSetIx_r, -sFor_r, -gsCons_r, -gT_r, -e1_r, -e2_r, -tV_r, -tAndM_r, -tOrM_r, -tNotM_r, -eAnd_r, -eOr_r, -eNot_r, -eIf_r, -aCons_r, -eN_r, -fCall_r, -eCallK_r, -eM_r, -eSl_r, -oSome_r, -eIsN_r, -eLc_r, -iSeq_r, -iRng_r, r4_l_words]
  refine w_pick H (by omega) (by decide) (by decide) fun c μ1 hc H1 O1 => ?_
  have hs : ∃ l : List Nat, c = .str (T l) ∧ l.length ≤ 7 ∧ ∀ x ∈ l, x < 128 := by
    simp only [List.mem_cons, List.not_mem_nil, or_false] at hc
    rcases hc with rfl | rfl | rfl | rfl | rfl | rfl | rfl | rfl <;> exact ⟨_, rfl, by decide, by decide⟩
  obtain ⟨l, rfl, l1, l2⟩ := hs
  simp -implicitDefEqProofs (disch := first | (with_reducible assumption) | ((with_reducible show List.length _ = _); rfl) | (simp only [allD_cons, allD_nil, Option.map_some, Option.isSome_some]; done) | (simp only [List.length_cons, List.length_nil, List.length_map]; done) | ((with_reducible refine cMod_of ?_); omega) | ((with_reducible refine cDiv_of ?_ ?_) <;> omega) | ((with_reducible refine okR_of ?_ ?_) <;> omega) | omega | (simp only [List.length_take, List.length_drop, List.length_append, List.length_cons, List.length_nil, List.length_map, List.length_range, List.length_replicate]; omega)) [-sSeq_r, -sRet_r, -sDrop_r, -sSet_r, -sIf_r, -sPar_r, -sAsg_r, -sSetIx_r, -sFor_r, -gsCons_r, -gT_r, -e1_r, -e2_r, -tV_r, -tAndM_r, -tOrM_r, -tNotM_r, -eAnd_r, -eOr_r, -eNot_r, -eIf_r, -aCons_r, -eN_r, -fCall_r, -eCallK_r, -eM_r, -eSl_r, -oSome_r, -eIsN_r, -eLc_r, -iSeq_r, -iRng_r, r3_l_words]
  refine w_take H1 (by omega) (by decide) (by decide) fun f μ2 hf H2 O2 => ?_
  simp -implicitDefEqProofs (disch := first | (with_reducible assumption) | ((with_reducible show List.length _ = _); rfl) | (simp only [allD_cons, allD_nil, Option.map_some, Option.isSome_some]; done) | (simp only [List.length_cons, List.length_nil, List.length_map]; done) | ((with_reducible refine cMod_of ?_); omega) | ((with_reducible refine cDiv_of ?_ ?_) <;> omega) | ((with_reducible refine okR_of ?_ ?_) <;> omega) | omega | (simp only [List.length_take, List.length_drop, List.length_append, List.length_cons, List.length_nil, List.length_map, List.length_range, List.length_replicate]; omega)) [-sSeq_r, -sRet_r, -sDrop_r, -sSet_r, -sIf_r, -sPar_r, -sAsg_r, -sSetIx_r, -sFor_r, -gsCons_r, -gT_r, -e1_r, -e2_r, -tV_r, -tAndM_r, -tOrM_r, -tNotM_r, -eAnd_r, -eOr_r, -eNot_r, -eIf_r, -aCons_r, -eN_r, -fCall_r, -eCallK_r, -eM_r, -eSl_r, -oSome_r, -eIsN_r, -eLc_r, -iSeq_r, -iRng_r, ]
  refine w_pick H2 (by omega) (by decide) (by decide) fun b μ3 hb H3 O3 => ?_
  have hb2 : ∃ j : Nat, b = .int j ∧ j ≤ 25 := by
    simp only [List.mem_cons, List.not_mem_nil, or_false] at hb
    rcases hb with rfl | rfl | rfl | rfl
    · exact ⟨1, rfl, by decide⟩
    · exact ⟨5, rfl, by decide⟩
    · exact ⟨7, rfl, by decide⟩
    · exact ⟨25, rfl, by decide⟩
  obtain ⟨j, rfl, hj⟩ := hb2
  simp -implicitDefEqProofs (disch := first | (with_reducible assumption) | ((with_reducible show List.length _ = _); rfl) | (simp only [allD_cons, allD_nil, Option.map_some, Option.isSome_some]; done) | (simp only [List.length_cons, List.length_nil, List.length_map]; done) | ((with_reducible refine cMod_of ?_); omega) | ((with_reducible refine cDiv_of ?_ ?_) <;> omega) | ((with_reducible refine okR_of ?_ ?_) <;> omega) | omega | (simp only [List.length_take, List.length_drop, List.length_append, List.length_cons, List.length_nil, List.length_map, List.length_range, List.length_replicate]; omega)) [-sSeq_r, -sRet_r, -sDrop_r, -sSet_r, -sIf_r, -sPar_r, -sAsg_r, -sSetIx_r, -sFor_r, -gsCons_r, -gT_r, -e1_r, -e2_r, -tV_r, -tAndM_r, -tOrM_r, -tNotM_r, -eAnd_r, -eOr_r, -eNot_r, -eIf_r, -aCons_r, -eN_r, -fCall_r, -eCallK_r, -eM_r, -eSl_r, -oSome_r, -eIsN_r, -eLc_r, -iSeq_r, -iRng_r, r2_l_words]
  have O123 := (O1.trans O2).trans O3
  refine kEA_s (fun q => ?_) fun q => ?_
  · simp -implicitDefEqProofs (disch := first | (with_reducible assumption) | ((with_reducible show List.length _ = _); rfl) | (simp only [allD_cons, allD_nil, Option.map_some, Option.isSome_some]; done) | (simp only [List.length_cons, List.length_nil, List.length_map]; done) | ((with_reducible refine cMod_of ?_); omega) | ((with_reducible refine cDiv_of ?_ ?_) <;> omega) | ((with_reducible refine okR_of ?_ ?_) <;> omega) | omega | (simp only [List.length_take, List.length_drop, List.length_append, List.length_cons, List.length_nil, List.length_map, List.length_range, List.length_replicate]; omega)) [-sSeq_r, -sRet_r, -sDrop_r, -sSet_r, -sIf_r, -sPar_r, -sAsg_r, -sSetIx_r, -sFor_r, -gsCons_r, -gT_r, -e1_r, -e2_r, -tV_r, -tAndM_r, -tOrM_r, -tNotM_r, -eAnd_r, -eOr_r, -eNot_r, -eIf_r, -aCons_r, -eN_r, -fCall_r, -eCallK_r, -eM_r, -eSl_r, -oSome_r, -eIsN_r, -eLc_r, -iSeq_r, -iRng_r, ]
    refine w_take H3 (by omega) (by decide) (by decide) fun r μ4 hr H4 O4 => ?_
    simp -implicitDefEqProofs (disch := first | (with_reducible assumption) | ((with_reducible show List.length _ = _); rfl) | (simp only [allD_cons, allD_nil, Option.map_some, Option.isSome_some]; done) | (simp only [List.length_cons, List.length_nil, List.length_map]; done) | ((with_reducible refine cMod_of ?_); omega) | ((with_reducible refine cDiv_of ?_ ?_) <;> omega) | ((with_reducible refine okR_of ?_ ?_) <;> omega) | omega | (simp only [List.length_take, List.length_drop, List.length_append, List.length_cons, List.length_nil, List.length_map, List.length_range, List.length_replicate]; omega)) [-sSeq_r, -sRet_r, -sDrop_r, -sSet_r, -sIf_r, -sPar_r, -sAsg_r, -sSetIx_r, -sFor_r, -gsCons_r, -gT_r, -e1_r, -e2_r, -tV_r, -tAndM_r, -tOrM_r, -tNotM_r, -eAnd_r, -eOr_r, -eNot_r, -eIf_r, -aCons_r, -eN_r, -fCall_r, -eCallK_r, -eM_r, -eSl_r, -oSome_r, -eIsN_r, -eLc_r, -iSeq_r, -iRng_r, ]
    by_cases hz : r = 0
    · subst hz
      simp -implicitDefEqProofs (disch := first | (with_reducible assumption) | ((with_reducible show List.length _ = _); rfl) | (simp only [allD_cons, allD_nil, Option.map_some, Option.isSome_some]; done) | (simp only [List.length_cons, List.length_nil, List.length_map]; done) | ((with_reducible refine cMod_of ?_); omega) | ((with_reducible refine cDiv_of ?_ ?_) <;> omega) | ((with_reducible refine okR_of ?_ ?_) <;> omega) | omega | (simp only [List.length_take, List.length_drop, List.length_append, List.length_cons, List.length_nil, List.length_map, List.length_range, List.length_replicate]; omega)) [-sSeq_r, -sRet_r, -sDrop_r, -sSet_r, -sIf_r, -sPar_r, -sAsg_r, -sSetIx_r, -sFor_r, -gsCons_r, -gT_r, -e1_r, -e2_r, -tV_r, -tAndM_r, -tOrM_r, -tNotM_r, -eAnd_r, -eOr_r, -eNot_r, -eIf_r, -aCons_r, -eN_r, -fCall_r, -eCallK_r, -eM_r, -eSl_r, -oSome_r, -eIsN_r, -eLc_r, -iSeq_r, -iRng_r, dMulA_s1 (z := [122]) (by decide)]
      exact w_words1 (by decide) (by decide) hk (by omega) hj l1 l2 (by simp) (by simp) (H4.mono (by omega)) (.oth (O123.trans O4)) fin
    · simp -implicitDefEqProofs (disch := first | (with_reducible assumption) | ((with_reducible show List.length _ = _); rfl) | (simp only [allD_cons, allD_nil, Option.map_some, Option.isSome_some]; done) | (simp only [List.length_cons, List.length_nil, List.length_map]; done) | ((with_reducible refine cMod_of ?_); omega) | ((with_reducible refine cDiv_of ?_ ?_) <;> omega) | ((with_reducible refine okR_of ?_ ?_) <;> omega) | omega | (simp only [List.length_take, List.length_drop, List.length_append, List.length_cons, List.length_nil, List.length_map, List.length_range, List.length_replicate]; omega)) [-sSeq_r, -sRet_r, -sDrop_r, -sSet_r, -sIf_r, -sPar_r, -sAsg_r, -sSetIx_r, -sFor_r, -gsCons_r, -gT_r, -e1_r, -e2_r, -tV_r, -tAndM_r, -tOrM_r, -tNotM_r, -eAnd_r, -eOr_r, -eNot_r, -eIf_r, -aCons_r, -eN_r, -fCall_r, -eCallK_r, -eM_r, -eSl_r, -oSome_r, -eIsN_r, -eLc_r, -iSeq_r, -iRng_r, hz, dMulA_s0 (z := [122])]
      exact w_words1 (by decide) (by decide) hk (by omega) hj l1 l2 (by simp) (by simp) (H4.mono (by omega)) (.oth (O123.trans O4)) fin
  · simp -implicitDefEqProofs (disch := first | (with_reducible assumption) | ((with_reducible show List.length _ = _); rfl) | (simp only [allD_cons, allD_nil, Option.map_some, Option.isSome_some]; done) | (simp only [List.length_cons, List.length_nil, List.length_map]; done) | ((with_reducible refine cMod_of ?_); omega) | ((with_reducible refine cDiv_of ?_ ?_) <;> omega) | ((with_reducible refine okR_of ?_ ?_) <;> omega) | omega | (simp only [List.length_take, List.length_drop, List.length_append, List.length_cons, List.length_nil, List.length_map, List.length_range, List.length_replicate]; omega)) [-sSeq_r, -sRet_r, -sDrop_r, -sSet_r, -sIf_r, -sPar_r, -sAsg_r, -sSetIx_r, -sFor_r, -gsCons_r, -gT_r, -e1_r, -e2_r, -tV_r, -tAndM_r, -tOrM_r, -tNotM_r, -eAnd_r, -eOr_r, -eNot_r, -eIf_r, -aCons_r, -eN_r, -fCall_r, -eCallK_r, -eM_r, -eSl_r, -oSome_r, -eIsN_r, -eLc_r, -iSeq_r, -iRng_r, dMulA_s0 (z := [122])]
    exact w_words1 (by decide) (by decide) hk (by omega) hj l1 l2 (by simp) (by simp) (H3.mono (by omega)) (.oth O123) fin
end
end LW

namespace LW
open PySem PySem.Spec PyProof.Rows L2 DL
theorem all_d {R : D → Prop} : ∀ {ys : List Dv}, (∀ y ∈ ys, ∃ d, y = .d d ∧ R d) → ∃ ds : List D, ys = ds.map .d ∧ ∀ d ∈ ds, R d
  | [], _ => ⟨[], rfl, fun d h => by cases h⟩
  | y :: ys, h => by
    obtain ⟨d, rfl, hd⟩ := h y List.mem_cons_self
    obtain ⟨ds, rfl, hds⟩ := all_d (ys := ys) fun z hz => h z (List.mem_cons_of_mem _ hz)
    refine ⟨d :: ds, rfl, fun e he => ?_⟩
    rcases List.mem_cons.mp he with e2 | he
    · rw [e2]; exact hd
    · exact hds e he
theorem mem_rng {k j : Nat} {b : Dv} (h : ((List.range k).map fun (i : Nat) => Dv.d (.int i))[j]? = some b) : ∃ i : Nat, i < k ∧ b = .d (.int i) := by
  rw [List.getElem?_map] at h
  obtain ⟨x, hx, rfl⟩ := Option.map_eq_some_iff.mp h
  have := List.mem_of_getElem? hx
  exact ⟨x, by simpa using this, rfl⟩
theorem rng1_n {μ : Store} {k : Nat} (h : k ≤ 1000000) : rng1 [.d (.int k)] μ = .ok ((List.range k).map fun (i : Nat) => Dv.d (.int i)) μ := by
  have := rng1_r (μ := μ) (j := (k : Int)) (okR_of (by omega) (by omega))
  rw [Int.toNat_natCast] at this
  exact this
/-- a worth of a kind -/
def Wk (t : Bool) (d : D) : Prop := if t = true then Sx d else ∃ i : Int, d = .int i ∧ i.natAbs < 10 ^ 9
theorem Wk.sm {t : Bool} {d : D} (h : Wk t d) : Sm 0 202 d := by
  unfold Wk at h
  split at h
  · exact h.sm
  · obtain ⟨i, rfl, hi⟩ := h
    exact (Sm.int (by omega)).mono (Nat.le_refl _) (by decide)
def kindS (t : Bool) : D := if t = true then .str (T [116, 101, 120, 116]) else .str (T [110, 117, 109, 98, 101, 114])
section
variable {h m : Nat} {μ : Store} {P : Dv → Store → Prop}
theorem w_cells (fin : ∀ ds : List D, 0 < ds.length → ds.length ≤ 100 → (∀ d ∈ ds, Sx d) → P (.d (.list ds)) μ) : Wp (F_l_cells [] μ) P := by
  unfold F_l_cells B_l_cells
  apply Wp_run
  simp -implicitDefEqProofs (disch := first | (with_reducible assumption) | ((with_reducible show List.length _ = _); rfl) | (simp only [allD_cons, allD_nil, Option.map_some, Option.isSome_some]; done) | (simp only [List.length_cons, List.length_nil, List.length_map]; done) | ((with_reducible refine cMod_of ?_); omega) | ((with_reducible refine cDiv_of ?_ ?_) <;> omega) | ((with_reducible refine okR_of ?_ ?_) <;> omega) | omega | (simp only [List.length_take, List.length_drop, List.length_append, List.length_cons, List.length_nil, List.length_map, List.length_range, List.length_replicate]; omega)) [-sSeq_r, -sRet_r, -sDrop_r, -sSet_r, -sIf_r, -sPar_r, -sAsg_r, -sSetIx_r, -sFor_r, -gsCons_r, -gT_r, -e1_r, -e2_r, -tV_r, -tAndM_r, -tOrM_r, -tNotM_r, -eAnd_r, -eOr_r, -eNot_r, -eIf_r, -aCons_r, -eN_r, -fCall_r, -eCallK_r, -eM_r, -eSl_r, -oSome_r, -eIsN_r, -eLc_r, -iSeq_r, -iRng_r, ]
  refine fin _ (by decide) (by decide) fun d hd => ?_
  simp only [List.mem_cons, List.not_mem_nil, or_false] at hd
  rcases hd with rfl | rfl | rfl | rfl | rfl | rfl | rfl | rfl | rfl | rfl | rfl | rfl <;> exact Sx.of (by decide)
theorem w_worth (H : Bx h m μ) (hm : m + 5 ≤ 10 ^ 9) {t : Bool} (fin : ∀ d μ', Wk t d → Bx h (m + 5) μ' → Ext h μ μ' → P (.d d) μ') : Wp (F_l_worth [.c h, .d (kindS t)] μ) P := by
  unfold F_l_worth B_l_worth
  apply Wp_run
  cases t with
  | true =>
    simp -implicitDefEqProofs (disch := first | (with_reducible assumption) | ((with_reducible show List.length _ = _); rfl) | (simp only [allD_cons, allD_nil, Option.map_some, Option.isSome_some]; done) | (simp only [List.length_cons, List.length_nil, List.length_map]; done) | ((with_reducible refine cMod_of ?_); omega) | ((with_reducible refine cDiv_of ?_ ?_) <;> omega) | ((with_reducible refine okR_of ?_ ?_) <;> omega) | omega | (simp only [List.length_take, List.length_drop, List.length_append, List.length_cons, List.length_nil, List.length_map, List.length_range, List.length_replicate]; omega)) [-sSeq_r, -sRet_r, -sDrop_r, -sSet_r, -sIf_r, -sPar_r, -sAsg_r, -sSetIx_r, -sFor_r, -gsCons_r, -gT_r, -e1_r, -e2_r, -tV_r, -tAndM_r, -tOrM_r, -tNotM_r, -eAnd_r, -eOr_r, -eNot_r, -eIf_r, -aCons_r, -eN_r, -fCall_r, -eCallK_r, -eM_r, -eSl_r, -oSome_r, -eIsN_r, -eLc_r, -iSeq_r, -iRng_r, kindS]
    refine w_cells fun ds l0 l1 hd => ?_
    simp -implicitDefEqProofs (disch := first | (with_reducible assumption) | ((with_reducible show List.length _ = _); rfl) | (simp only [allD_cons, allD_nil, Option.map_some, Option.isSome_some]; done) | (simp only [List.length_cons, List.length_nil, List.length_map]; done) | ((with_reducible refine cMod_of ?_); omega) | ((with_reducible refine cDiv_of ?_ ?_) <;> omega) | ((with_reducible refine okR_of ?_ ?_) <;> omega) | omega | (simp only [List.length_take, List.length_drop, List.length_append, List.length_cons, List.length_nil, List.length_map, List.length_range, List.length_replicate]; omega)) [-sSeq_r, -sRet_r, -sDrop_r, -sSet_r, -sIf_r, -sPar_r, -sAsg_r, -sSetIx_r, -sFor_r, -gsCons_r, -gT_r, -e1_r, -e2_r, -tV_r, -tAndM_r, -tOrM_r, -tNotM_r, -eAnd_r, -eOr_r, -eNot_r, -eIf_r, -aCons_r, -eN_r, -fCall_r, -eCallK_r, -eM_r, -eSl_r, -oSome_r, -eIsN_r, -eLc_r, -iSeq_r, -iRng_r, ]
    refine w_pick H (by omega) l0 (by omega) fun c μ1 hc H1 O1 => ?_
    simp -implicitDefEqProofs (disch := first | (with_reducible assumption) | ((with_reducible show List.length _ = _); rfl) | (simp only [allD_cons, allD_nil, Option.map_some, Option.isSome_some]; done) | (simp only [List.length_cons, List.length_nil, List.length_map]; done) | ((with_reducible refine cMod_of ?_); omega) | ((with_reducible refine cDiv_of ?_ ?_) <;> omega) | ((with_reducible refine okR_of ?_ ?_) <;> omega) | omega | (simp only [List.length_take, List.length_drop, List.length_append, List.length_cons, List.length_nil, List.length_map, List.length_range, List.length_replicate]; omega)) [-sSeq_r, -sRet_r, -sDrop_r, -sSet_r, -sIf_r, -sPar_r, -sAsg_r, -sSetIx_r, -sFor_r, -gsCons_r, -gT_r, -e1_r, -e2_r, -tV_r, -tAndM_r, -tOrM_r, -tNotM_r, -eAnd_r, -eOr_r, -eNot_r, -eIf_r, -aCons_r, -eN_r, -fCall_r, -eCallK_r, -eM_r, -eSl_r, -oSome_r, -eIsN_r, -eLc_r, -iSeq_r, -iRng_r, ]
    exact fin c μ1 (hd c hc) (H1.mono (by omega)) (.oth O1)
  | false =>
    simp -implicitDefEqProofs (disch := first | (with_reducible assumption) | ((with_reducible show List.length _ = _); rfl) | (simp only [allD_cons, allD_nil, Option.map_some, Option.isSome_some]; done) | (simp only [List.length_cons, List.length_nil, List.length_map]; done) | ((with_reducible refine cMod_of ?_); omega) | ((with_reducible refine cDiv_of ?_ ?_) <;> omega) | ((with_reducible refine okR_of ?_ ?_) <;> omega) | omega | (simp only [List.length_take, List.length_drop, List.length_append, List.length_cons, List.length_nil, List.length_map, List.length_range, List.length_replicate]; omega)) [-sSeq_r, -sRet_r, -sDrop_r, -sSet_r, -sIf_r, -sPar_r, -sAsg_r, -sSetIx_r, -sFor_r, -gsCons_r, -gT_r, -e1_r, -e2_r, -tV_r, -tAndM_r, -tOrM_r, -tNotM_r, -eAnd_r, -eOr_r, -eNot_r, -eIf_r, -aCons_r, -eN_r, -fCall_r, -eCallK_r, -eM_r, -eSl_r, -oSome_r, -eIsN_r, -eLc_r, -iSeq_r, -iRng_r, kindS, r1_l_worth]
    refine w_take H (by omega) (by decide) (by decide) fun r μ1 hr H1 O1 => ?_
    simp -implicitDefEqProofs (disch := first | (with_reducible assumption) | ((with_reducible show List.length _ = _); rfl) | (simp only [allD_cons, allD_nil, Option.map_some, Option.isSome_some]; done) | (simp only [List.length_cons, List.length_nil, List.length_map]; done) | ((with_reducible refine cMod_of ?_); omega) | ((with_reducible refine cDiv_of ?_ ?_) <;> omega) | ((with_reducible refine okR_of ?_ ?_) <;> omega) | omega | (simp only [List.length_take, List.length_drop, List.length_append, List.length_cons, List.length_nil, List.length_map, List.length_range, List.length_replicate]; omega)) [-sSeq_r, -sRet_r, -sDrop_r, -sSet_r, -sIf_r, -sPar_r, -sAsg_r, -sSetIx_r, -sFor_r, -gsCons_r, -gT_r, -e1_r, -e2_r, -tV_r, -tAndM_r, -tOrM_r, -tNotM_r, -eAnd_r, -eOr_r, -eNot_r, -eIf_r, -aCons_r, -eN_r, -fCall_r, -eCallK_r, -eM_r, -eSl_r, -oSome_r, -eIsN_r, -eLc_r, -iSeq_r, -iRng_r, ]
    refine w_pick H1 (by omega) (by simp) (by simp) fun c μ2 hc H2 O2 => ?_
    simp -implicitDefEqProofs (disch := first | (with_reducible assumption) | ((with_reducible show List.length _ = _); rfl) | (simp only [allD_cons, allD_nil, Option.map_some, Option.isSome_some]; done) | (simp only [List.length_cons, List.length_nil, List.length_map]; done) | ((with_reducible refine cMod_of ?_); omega) | ((with_reducible refine cDiv_of ?_ ?_) <;> omega) | ((with_reducible refine okR_of ?_ ?_) <;> omega) | omega | (simp only [List.length_take, List.length_drop, List.length_append, List.length_cons, List.length_nil, List.length_map, List.length_range, List.length_replicate]; omega)) [-sSeq_r, -sRet_r, -sDrop_r, -sSet_r, -sIf_r, -sPar_r, -sAsg_r, -sSetIx_r, -sFor_r, -gsCons_r, -gT_r, -e1_r, -e2_r, -tV_r, -tAndM_r, -tOrM_r, -tNotM_r, -eAnd_r, -eOr_r, -eNot_r, -eIf_r, -aCons_r, -eN_r, -fCall_r, -eCallK_r, -eM_r, -eSl_r, -oSome_r, -eIsN_r, -eLc_r, -iSeq_r, -iRng_r, ]
    refine fin c μ2 ?_ (H2.mono (by omega)) (.oth (O1.trans O2))
    simp only [List.mem_cons, List.not_mem_nil, or_false] at hc
    rcases hc with rfl | rfl | rfl | rfl | rfl | rfl | rfl | rfl
    · exact ⟨_, rfl, by decide⟩
    · exact ⟨_, rfl, by decide⟩
    · exact ⟨_, rfl, by decide⟩
    · exact ⟨_, rfl, by decide⟩
    · exact ⟨_, rfl, by decide⟩
    · exact ⟨_, rfl, by decide⟩
    · exact ⟨_, rfl, by decide⟩
    · exact ⟨_, rfl, by omega⟩
/-- a form: a tuple of one or two small things -/
theorem w_form (H : Bx h m μ) (hm : m + 5 ≤ 10 ^ 9) (fin : ∀ f μ', Sm 1 1000 f → Bx h (m + 5) μ' → Ext h μ μ' → P (.d f) μ') : Wp (F_l_form [.c h] μ) P := by
  unfold F_l_form B_l_form
  apply Wp_run
  simp -implicitDefEqProofs (disch := first | (with_reducible assumption) | ((with_reducible show List.length _ = _); rfl) | (simp only [allD_cons, allD_nil, Option.map_some, Option.isSome_some]; done) | (simp only [List.length_cons, List.length_nil, List.length_map]; done) | ((with_reducible refine cMod_of ?_); omega) | ((with_reducible refine cDiv_of ?_ ?_) <;> omega) | ((with_reducible refine okR_of ?_ ?_) <;> omega) | omega | (simp only [List.length_take, List.length_drop, List.length_append, List.length_cons, List.length_nil, List.length_map, List.length_range, List.length_replicate]; omega)) [-sSeq_r, -sRet_r, -sDrop_r, -sSet_r, -sIf_r, -sPar_r, -sAsg_r, -sSetIx_r, -sFor_r, -gsCons_r, -gT_r, -e1_r, -e2_r, -tV_r, -tAndM_r, -tOrM_r, -tNotM_r, -eAnd_r, -eOr_r, -eNot_r, -eIf_r, -aCons_r, -eN_r, -fCall_r, -eCallK_r, -eM_r, -eSl_r, -oSome_r, -eIsN_r, -eLc_r, -iSeq_r, -iRng_r, ]
  refine w_take H (by omega) (by decide) (by decide) fun r μ1 hr H1 O1 => ?_
  simp -implicitDefEqProofs (disch := first | (with_reducible assumption) | ((with_reducible show List.length _ = _); rfl) | (simp only [allD_cons, allD_nil, Option.map_some, Option.isSome_some]; done) | (simp only [List.length_cons, List.length_nil, List.length_map]; done) | ((with_reducible refine cMod_of ?_); omega) | ((with_reducible refine cDiv_of ?_ ?_) <;> omega) | ((with_reducible refine okR_of ?_ ?_) <;> omega) | omega | (simp only [List.length_take, List.length_drop, List.length_append, List.length_cons, List.length_nil, List.length_map, List.length_range, List.length_replicate]; omega)) [-sSeq_r, -sRet_r, -sDrop_r, -sSet_r, -sIf_r, -sPar_r, -sAsg_r, -sSetIx_r, -sFor_r, -gsCons_r, -gT_r, -e1_r, -e2_r, -tV_r, -tAndM_r, -tOrM_r, -tNotM_r, -eAnd_r, -eOr_r, -eNot_r, -eIf_r, -aCons_r, -eN_r, -fCall_r, -eCallK_r, -eM_r, -eSl_r, -oSome_r, -eIsN_r, -eLc_r, -iSeq_r, -iRng_r, r2_l_form]
  have two : ∀ {a b : D}, Sm 0 202 a → Sm 0 202 b → Sm 1 1000 (.tuple [a, b]) := fun ha hb => (Sm.tup (n := 2) (c := 202) (k := 0) (fun d hd => by
    simp only [List.mem_cons, List.not_mem_nil, or_false] at hd
    rcases hd with rfl | rfl
    · exact ha
    · exact hb) (by simp)).mono (Nat.le_refl _) (by decide)
  refine kIf_s (fun q => ?_) fun q => ?_
  · simp -implicitDefEqProofs (disch := first | (with_reducible assumption) | ((with_reducible show List.length _ = _); rfl) | (simp only [allD_cons, allD_nil, Option.map_some, Option.isSome_some]; done) | (simp only [List.length_cons, List.length_nil, List.length_map]; done) | ((with_reducible refine cMod_of ?_); omega) | ((with_reducible refine cDiv_of ?_ ?_) <;> omega) | ((with_reducible refine okR_of ?_ ?_) <;> omega) | omega | (simp only [List.length_take, List.length_drop, List.length_append, List.length_cons, List.length_nil, List.length_map, List.length_range, List.length_replicate]; omega)) [-sSeq_r, -sRet_r, -sDrop_r, -sSet_r, -sIf_r, -sPar_r, -sAsg_r, -sSetIx_r, -sFor_r, -gsCons_r, -gT_r, -e1_r, -e2_r, -tV_r, -tAndM_r, -tOrM_r, -tNotM_r, -eAnd_r, -eOr_r, -eNot_r, -eIf_r, -aCons_r, -eN_r, -fCall_r, -eCallK_r, -eM_r, -eSl_r, -oSome_r, -eIsN_r, -eLc_r, -iSeq_r, -iRng_r, ]
    refine fin _ μ1 ((Sm.tup (n := 1) (c := 202) (k := 0) (fun d hd => ?_) (by simp)).mono (Nat.le_refl _) (by decide)) (H1.mono (by omega)) (.oth O1)
    simp only [List.mem_cons, List.not_mem_nil, or_false] at hd
    subst hd
    exact (Sx.of (by decide)).sm
  · simp -implicitDefEqProofs (disch := first | (with_reducible assumption) | ((with_reducible show List.length _ = _); rfl) | (simp only [allD_cons, allD_nil, Option.map_some, Option.isSome_some]; done) | (simp only [List.length_cons, List.length_nil, List.length_map]; done) | ((with_reducible refine cMod_of ?_); omega) | ((with_reducible refine cDiv_of ?_ ?_) <;> omega) | ((with_reducible refine okR_of ?_ ?_) <;> omega) | omega | (simp only [List.length_take, List.length_drop, List.length_append, List.length_cons, List.length_nil, List.length_map, List.length_range, List.length_replicate]; omega)) [-sSeq_r, -sRet_r, -sDrop_r, -sSet_r, -sIf_r, -sPar_r, -sAsg_r, -sSetIx_r, -sFor_r, -gsCons_r, -gT_r, -e1_r, -e2_r, -tV_r, -tAndM_r, -tOrM_r, -tNotM_r, -eAnd_r, -eOr_r, -eNot_r, -eIf_r, -aCons_r, -eN_r, -fCall_r, -eCallK_r, -eM_r, -eSl_r, -oSome_r, -eIsN_r, -eLc_r, -iSeq_r, -iRng_r, r1_l_form]
    refine kEI_s (fun q2 => ?_) fun q2 => ?_
    · simp -implicitDefEqProofs (disch := first | (with_reducible assumption) | ((with_reducible show List.length _ = _); rfl) | (simp only [allD_cons, allD_nil, Option.map_some, Option.isSome_some]; done) | (simp only [List.length_cons, List.length_nil, List.length_map]; done) | ((with_reducible refine cMod_of ?_); omega) | ((with_reducible refine cDiv_of ?_ ?_) <;> omega) | ((with_reducible refine okR_of ?_ ?_) <;> omega) | omega | (simp only [List.length_take, List.length_drop, List.length_append, List.length_cons, List.length_nil, List.length_map, List.length_range, List.length_replicate]; omega)) [-sSeq_r, -sRet_r, -sDrop_r, -sSet_r, -sIf_r, -sPar_r, -sAsg_r, -sSetIx_r, -sFor_r, -gsCons_r, -gT_r, -e1_r, -e2_r, -tV_r, -tAndM_r, -tOrM_r, -tNotM_r, -eAnd_r, -eOr_r, -eNot_r, -eIf_r, -aCons_r, -eN_r, -fCall_r, -eCallK_r, -eM_r, -eSl_r, -oSome_r, -eIsN_r, -eLc_r, -iSeq_r, -iRng_r, ]
      exact fin _ μ1 (two (Sx.of (by decide)).sm ((Sm.int (by omega)).mono (Nat.le_refl _) (by decide))) (H1.mono (by omega)) (.oth O1)
    · simp only [decide_eq_false_iff_not, Int.not_lt] at q q2
      obtain ⟨j, ej, hj⟩ : ∃ j : Nat, (r : Int) - 5 = (j : Int) ∧ j < 3 := ⟨r - 5, by omega, by omega⟩
      obtain ⟨c, hc⟩ : ∃ c, ([PyData.str (T [121, 109, 100]), PyData.str (T [100, 109, 121]), PyData.str (T [109, 100, 121])] : List D)[j]? = some c := ⟨_, List.getElem?_eq_getElem (by simpa using hj)⟩
      have hs : Sx c := by
        have := List.mem_of_getElem? hc
        simp only [List.mem_cons, List.not_mem_nil, or_false] at this
        rcases this with rfl | rfl | rfl <;> exact Sx.of (by decide)
      simp -implicitDefEqProofs (disch := first | (with_reducible assumption) | ((with_reducible show List.length _ = _); rfl) | (simp only [allD_cons, allD_nil, Option.map_some, Option.isSome_some]; done) | (simp only [List.length_cons, List.length_nil, List.length_map]; done) | ((with_reducible refine cMod_of ?_); omega) | ((with_reducible refine cDiv_of ?_ ?_) <;> omega) | ((with_reducible refine okR_of ?_ ?_) <;> omega) | omega | (simp only [List.length_take, List.length_drop, List.length_append, List.length_cons, List.length_nil, List.length_map, List.length_range, List.length_replicate]; omega)) [-sSeq_r, -sRet_r, -sDrop_r, -sSet_r, -sIf_r, -sPar_r, -sAsg_r, -sSetIx_r, -sFor_r, -gsCons_r, -gT_r, -e1_r, -e2_r, -tV_r, -tAndM_r, -tOrM_r, -tNotM_r, -eAnd_r, -eOr_r, -eNot_r, -eIf_r, -aCons_r, -eN_r, -fCall_r, -eCallK_r, -eM_r, -eSl_r, -oSome_r, -eIsN_r, -eLc_r, -iSeq_r, -iRng_r, ej, dIx_l (atI_nn hc)]
      exact fin _ μ1 (two (Sx.of (by decide)).sm hs.sm) (H1.mono (by omega)) (.oth O1)
end
end LW

namespace LW
open PySem PySem.Spec PyProof.Rows L2 DL
theorem sx_lay {d : D} (h : Sx d) : d.canLay0 = true ∧ d.depth = 0 := by
  obtain ⟨l, rfl, _, h2⟩ := h
  refine ⟨?_, rfl⟩
  show PyData.strOk (T l) = true
  unfold PyData.strOk
  simp only [T, Array.all_eq_true', List.mem_toArray]
  first
    | (intro c hc; have := h2 c hc; simp; omega)
    | (simp; intro c hc; have := h2 c hc; omega)
theorem sx_shaped : ∀ {ds : List D}, (∀ d ∈ ds, Sx d) → PyData.canLayAll0 ds = true ∧ PyData.depthAll ds = 0
  | [], _ => ⟨rfl, rfl⟩
  | d :: ds, h => by
    obtain ⟨a, b⟩ := sx_shaped (ds := ds) fun e he => h e (List.mem_cons_of_mem _ he)
    obtain ⟨c, e⟩ := sx_lay (h d List.mem_cons_self)
    refine ⟨?_, ?_⟩
    · rw [PyData.canLayAll0, a, c]; rfl
    · rw [PyData.depthAll, b, e]; rfl
theorem shaped_list {ds : List D} (h : ∀ d ∈ ds, Sx d) : SeqAt.shaped (.list ds) = true := by
  obtain ⟨a, b⟩ := sx_shaped h
  unfold SeqAt.shaped
  rw [PyData.canLay0, PyData.depth, a, b]
  rfl
theorem shaped_tup {ds : List D} (h : ∀ d ∈ ds, Sx d) : SeqAt.shaped (.tuple ds) = true := by
  obtain ⟨a, b⟩ := sx_shaped h
  unfold SeqAt.shaped
  rw [PyData.canLay0, PyData.depth, a, b]
  rfl
theorem dToTup_l {ds : List D} {μ : Store} (h : ds.length ≤ 16000000) : dToTup (.d (.list ds)) μ = .ok (.d (.tuple ds)) μ := by
  show dTup (ds.map .d) μ = _
  exact dTup_l h
theorem dToTup_t {ds : List D} {μ : Store} : dToTup (.d (.tuple ds)) μ = .ok (.d (.tuple ds)) μ := rfl
/-- two of one list -/
theorem two_of {ds : List D} (h : ds.length = 2) : ∃ x y, ds = [x, y] := by
  match ds, h with
  | [x, y], _ => exact ⟨x, y, rfl⟩
theorem atI0 {x : D} {r : List D} : L2.atI (x :: r) 0 = some x := atI_nn (k := 0) rfl
theorem atI1 {x y : D} {r : List D} : L2.atI (x :: y :: r) 1 = some y := atI_nn (k := 1) rfl
theorem atIlast {x : D} {r : List D} : L2.atI (r ++ [x]) (-1) = some x := by
  unfold L2.atI L2.ixN
  rw [if_neg (by decide), if_pos (by simp; omega)]
  have : (-1 + ((r ++ [x]).length : Int)).toNat = r.length := by simp; omega
  show (r ++ [x])[(-1 + ((r ++ [x]).length : Int)).toNat]? = some x
  rw [this]
  simp
/-- what a step may be, without its name -/
inductive Deed : List D → Prop
  | cut {c s : D} {ns : List D} : Sx c → Sx s → (∀ n ∈ ns, Sx n) → ns.length ≤ 10 → Deed [.str (T [99, 117, 116]), c, s, .tuple ns]
  | glue {s n : D} {cs : List D} : Sx s → Sx n → (∀ n ∈ cs, Sx n) → cs.length ≤ 10 → Deed [.str (T [103, 108, 117, 101]), .tuple cs, s, n]
  | spell {c p : D} : Sx c → Deed [.str (T [115, 112, 101, 108, 108]), c, p]
  | read {c f n : D} : Sx c → Sx n → Deed [.str (T [114, 101, 97, 100]), c, f, n]
  | fill {c : D} : Sx c → Deed [.str (T [102, 105, 108, 108]), c, .tuple []]
  | put {c w : D} : Sx c → Deed [.str (T [112, 117, 116]), c, w]
  | within {c a b : D} : Sx c → Deed [.str (T [119, 105, 116, 104, 105, 110]), c, a, b]
  | among {c w : D} : Sx c → Deed [.str (T [97, 109, 111, 110, 103]), c, w]
  | before {c e : D} : Sx c → Sx e → Deed [.str (T [98, 101, 102, 111, 114, 101]), c, e]
  | given {c : D} : Sx c → Deed [.str (T [103, 105, 118, 101, 110]), c]
def DeedOk (d : D) : Prop := ∃ ds : List D, d = .tuple ds ∧ Deed ds ∧ ds.length ≤ 5 ∧ ∀ e ∈ ds, Sm 2 2500 e
/-- a known column -/
def Kn (d : D) : Prop := ∃ nm t, Sx nm ∧ d = .tuple [nm, kindS t]
section
variable {h m : Nat} {μ : Store} {P : Dv → Store → Prop}
theorem Sx.s2 {d : D} (h : Sx d) : Sm 2 2500 d := h.sm.mono (by decide) (by decide)
theorem w_shape (H : Bx h m μ) (hm : m + 10 ≤ 10 ^ 9) {ns : List D} (hn : ∀ d ∈ ns, Sx d) (hl : ns.length ≤ 6) (fin : ∀ pre μ', Sm 2 8000 (.tuple (pre ++ [.tuple ns])) → Bx h (m + 10) μ' → Ext h μ μ' → P (.d (.tuple (pre ++ [.tuple ns]))) μ') : Wp (F_l_shape [.c h, .d (.list ns)] μ) P := by
  have sn : Sm 1 1300 (.tuple ns) := (Sm.tup (n := 6) (c := 202) (k := 0) (fun d hd => (hn d hd).sm) hl).mono (Nat.le_refl _) (by decide)
  have big : ∀ pre : List D, pre.length ≤ 3 → (∀ d ∈ pre, Sm 1 1300 d) → Sm 2 8000 (.tuple (pre ++ [.tuple ns])) := fun pre l p => (Sm.tup (n := 4) (c := 1300) (k := 1) (fun d hd => by
    rcases List.mem_append.mp hd with hd | hd
    · exact p d hd
    · rw [List.mem_singleton.mp hd]; exact sn) (by simp; omega)).mono (Nat.le_refl _) (by decide)
  have at1 : ∀ {d : D}, Sx d → Sm 1 1300 d := fun hd => hd.sm.mono (by decide) (by decide)
  unfold F_l_shape B_l_shape
  apply Wp_run
  simp -implicitDefEqProofs (disch := first | (with_reducible assumption) | ((with_reducible show List.length _ = _); rfl) | (simp only [allD_cons, allD_nil, Option.map_some, Option.isSome_some]; done) | (simp only [List.length_cons, List.length_nil, List.length_map]; done) | ((with_reducible refine cMod_of ?_); omega) | ((with_reducible refine cDiv_of ?_ ?_) <;> omega) | ((with_reducible refine okR_of ?_ ?_) <;> omega) | omega | (simp only [List.length_take, List.length_drop, List.length_append, List.length_cons, List.length_nil, List.length_map, List.length_range, List.length_replicate]; omega)) [-sSeq_r, -sRet_r, -sDrop_r, -sSet_r, -sIf_r, -sPar_r, -sAsg_r, -sSetIx_r, -sFor_r, -gsCons_r, -gT_r, -e1_r, -e2_r, -tV_r, -tAndM_r, -tOrM_r, -tNotM_r, -eAnd_r, -eOr_r, -eNot_r, -eIf_r, -aCons_r, -eN_r, -fCall_r, -eCallK_r, -eM_r, -eSl_r, -oSome_r, -eIsN_r, -eLc_r, -iSeq_r, -iRng_r, ]
  refine w_take H (by omega) (by decide) (by decide) fun r μ1 hr H1 O1 => ?_
  simp -implicitDefEqProofs (disch := first | (with_reducible assumption) | ((with_reducible show List.length _ = _); rfl) | (simp only [allD_cons, allD_nil, Option.map_some, Option.isSome_some]; done) | (simp only [List.length_cons, List.length_nil, List.length_map]; done) | ((with_reducible refine cMod_of ?_); omega) | ((with_reducible refine cDiv_of ?_ ?_) <;> omega) | ((with_reducible refine okR_of ?_ ?_) <;> omega) | omega | (simp only [List.length_take, List.length_drop, List.length_append, List.length_cons, List.length_nil, List.length_map, List.length_range, List.length_replicate]; omega)) [-sSeq_r, -sRet_r, -sDrop_r, -sSet_r, -sIf_r, -sPar_r, -sAsg_r, -sSetIx_r, -sFor_r, -gsCons_r, -gT_r, -e1_r, -e2_r, -tV_r, -tAndM_r, -tOrM_r, -tNotM_r, -eAnd_r, -eOr_r, -eNot_r, -eIf_r, -aCons_r, -eN_r, -fCall_r, -eCallK_r, -eM_r, -eSl_r, -oSome_r, -eIsN_r, -eLc_r, -iSeq_r, -iRng_r, r4_l_shape]
  refine kIf_s (fun q => ?_) fun q => ?_
  · simp -implicitDefEqProofs (disch := first | (with_reducible assumption) | ((with_reducible show List.length _ = _); rfl) | (simp only [allD_cons, allD_nil, Option.map_some, Option.isSome_some]; done) | (simp only [List.length_cons, List.length_nil, List.length_map]; done) | ((with_reducible refine cMod_of ?_); omega) | ((with_reducible refine cDiv_of ?_ ?_) <;> omega) | ((with_reducible refine okR_of ?_ ?_) <;> omega) | omega | (simp only [List.length_take, List.length_drop, List.length_append, List.length_cons, List.length_nil, List.length_map, List.length_range, List.length_replicate]; omega)) [-sSeq_r, -sRet_r, -sDrop_r, -sSet_r, -sIf_r, -sPar_r, -sAsg_r, -sSetIx_r, -sFor_r, -gsCons_r, -gT_r, -e1_r, -e2_r, -tV_r, -tAndM_r, -tOrM_r, -tNotM_r, -eAnd_r, -eOr_r, -eNot_r, -eIf_r, -aCons_r, -eN_r, -fCall_r, -eCallK_r, -eM_r, -eSl_r, -oSome_r, -eIsN_r, -eLc_r, -iSeq_r, -iRng_r, ]
    refine w_pickS H1 (by omega) (by decide) (by decide) fun c μ2 hc H2 O2 => ?_
    simp -implicitDefEqProofs (disch := first | (with_reducible assumption) | ((with_reducible show List.length _ = _); rfl) | (simp only [allD_cons, allD_nil, Option.map_some, Option.isSome_some]; done) | (simp only [List.length_cons, List.length_nil, List.length_map]; done) | ((with_reducible refine cMod_of ?_); omega) | ((with_reducible refine cDiv_of ?_ ?_) <;> omega) | ((with_reducible refine okR_of ?_ ?_) <;> omega) | omega | (simp only [List.length_take, List.length_drop, List.length_append, List.length_cons, List.length_nil, List.length_map, List.length_range, List.length_replicate]; omega)) [-sSeq_r, -sRet_r, -sDrop_r, -sSet_r, -sIf_r, -sPar_r, -sAsg_r, -sSetIx_r, -sFor_r, -gsCons_r, -gT_r, -e1_r, -e2_r, -tV_r, -tAndM_r, -tOrM_r, -tNotM_r, -eAnd_r, -eOr_r, -eNot_r, -eIf_r, -aCons_r, -eN_r, -fCall_r, -eCallK_r, -eM_r, -eSl_r, -oSome_r, -eIsN_r, -eLc_r, -iSeq_r, -iRng_r, ]
    refine w_pickS H2 (by omega) (by decide) (by decide) fun e μ3 he H3 O3 => ?_
    have hc2 : c < 128 := by simp at hc; omega
    have he2 : e < 128 := by simp at he; omega
    simp -implicitDefEqProofs (disch := first | (with_reducible assumption) | ((with_reducible show List.length _ = _); rfl) | (simp only [allD_cons, allD_nil, Option.map_some, Option.isSome_some]; done) | (simp only [List.length_cons, List.length_nil, List.length_map]; done) | ((with_reducible refine cMod_of ?_); omega) | ((with_reducible refine cDiv_of ?_ ?_) <;> omega) | ((with_reducible refine okR_of ?_ ?_) <;> omega) | omega | (simp only [List.length_take, List.length_drop, List.length_append, List.length_cons, List.length_nil, List.length_map, List.length_range, List.length_replicate]; omega)) [-sSeq_r, -sRet_r, -sDrop_r, -sSet_r, -sIf_r, -sPar_r, -sAsg_r, -sSetIx_r, -sFor_r, -gsCons_r, -gT_r, -e1_r, -e2_r, -tV_r, -tAndM_r, -tOrM_r, -tNotM_r, -eAnd_r, -eOr_r, -eNot_r, -eIf_r, -aCons_r, -eN_r, -fCall_r, -eCallK_r, -eM_r, -eSl_r, -oSome_r, -eIsN_r, -eLc_r, -iSeq_r, -iRng_r, r1_l_shape, dToTup_l]
    refine fin [_, _, _] μ3 (big _ (by simp) fun d hd => ?_) (H3.mono (by omega)) (.oth ((O1.trans O2).trans O3))
    simp only [List.mem_cons, List.not_mem_nil, or_false] at hd
    rcases hd with rfl | rfl | rfl
    · exact at1 (Sx.of (by decide))
    · exact at1 ⟨[c], rfl, by simp, by simpa using hc2⟩
    · exact at1 ⟨[e], rfl, by simp, by simpa using he2⟩
  · simp -implicitDefEqProofs (disch := first | (with_reducible assumption) | ((with_reducible show List.length _ = _); rfl) | (simp only [allD_cons, allD_nil, Option.map_some, Option.isSome_some]; done) | (simp only [List.length_cons, List.length_nil, List.length_map]; done) | ((with_reducible refine cMod_of ?_); omega) | ((with_reducible refine cDiv_of ?_ ?_) <;> omega) | ((with_reducible refine okR_of ?_ ?_) <;> omega) | omega | (simp only [List.length_take, List.length_drop, List.length_append, List.length_cons, List.length_nil, List.length_map, List.length_range, List.length_replicate]; omega)) [-sSeq_r, -sRet_r, -sDrop_r, -sSet_r, -sIf_r, -sPar_r, -sAsg_r, -sSetIx_r, -sFor_r, -gsCons_r, -gT_r, -e1_r, -e2_r, -tV_r, -tAndM_r, -tOrM_r, -tNotM_r, -eAnd_r, -eOr_r, -eNot_r, -eIf_r, -aCons_r, -eN_r, -fCall_r, -eCallK_r, -eM_r, -eSl_r, -oSome_r, -eIsN_r, -eLc_r, -iSeq_r, -iRng_r, r3_l_shape]
    refine kIf_s (fun q2 => ?_) fun q2 => ?_
    · simp -implicitDefEqProofs (disch := first | (with_reducible assumption) | ((with_reducible show List.length _ = _); rfl) | (simp only [allD_cons, allD_nil, Option.map_some, Option.isSome_some]; done) | (simp only [List.length_cons, List.length_nil, List.length_map]; done) | ((with_reducible refine cMod_of ?_); omega) | ((with_reducible refine cDiv_of ?_ ?_) <;> omega) | ((with_reducible refine okR_of ?_ ?_) <;> omega) | omega | (simp only [List.length_take, List.length_drop, List.length_append, List.length_cons, List.length_nil, List.length_map, List.length_range, List.length_replicate]; omega)) [-sSeq_r, -sRet_r, -sDrop_r, -sSet_r, -sIf_r, -sPar_r, -sAsg_r, -sSetIx_r, -sFor_r, -gsCons_r, -gT_r, -e1_r, -e2_r, -tV_r, -tAndM_r, -tOrM_r, -tNotM_r, -eAnd_r, -eOr_r, -eNot_r, -eIf_r, -aCons_r, -eN_r, -fCall_r, -eCallK_r, -eM_r, -eSl_r, -oSome_r, -eIsN_r, -eLc_r, -iSeq_r, -iRng_r, ]
      refine Wp_lcF (by rw [List.length_map]; omega) ?_
      refine Wp_lcM_y (fun j μ' => Bx h (m + 1 + j) μ' ∧ Oth h μ μ') (fun y => ∃ d, y = .d d ∧ ∃ i : Int, d = .int i ∧ i.natAbs < 100) (i := 0) ⟨H1, O1⟩ (fun j b μ' hb I => ?_) fun ys μ' hl2 hy I => ?_
      · have hj : j < 6 := by
          have := (List.getElem?_eq_some_iff.mp hb).1
          rw [List.length_map] at this
          omega
        simp -implicitDefEqProofs (disch := first | (with_reducible assumption) | ((with_reducible show List.length _ = _); rfl) | (simp only [allD_cons, allD_nil, Option.map_some, Option.isSome_some]; done) | (simp only [List.length_cons, List.length_nil, List.length_map]; done) | ((with_reducible refine cMod_of ?_); omega) | ((with_reducible refine cDiv_of ?_ ?_) <;> omega) | ((with_reducible refine okR_of ?_ ?_) <;> omega) | omega | (simp only [List.length_take, List.length_drop, List.length_append, List.length_cons, List.length_nil, List.length_map, List.length_range, List.length_replicate]; omega)) [-sSeq_r, -sRet_r, -sDrop_r, -sSet_r, -sIf_r, -sPar_r, -sAsg_r, -sSetIx_r, -sFor_r, -gsCons_r, -gT_r, -e1_r, -e2_r, -tV_r, -tAndM_r, -tOrM_r, -tNotM_r, -eAnd_r, -eOr_r, -eNot_r, -eIf_r, -aCons_r, -eN_r, -fCall_r, -eCallK_r, -eM_r, -eSl_r, -oSome_r, -eIsN_r, -eLc_r, -iSeq_r, -iRng_r, c1_l_shape, wipeD]
        refine w_take I.1 (by omega) (by decide) (by decide) fun s μ2 hs H2 O2 => ?_
        simp -implicitDefEqProofs (disch := first | (with_reducible assumption) | ((with_reducible show List.length _ = _); rfl) | (simp only [allD_cons, allD_nil, Option.map_some, Option.isSome_some]; done) | (simp only [List.length_cons, List.length_nil, List.length_map]; done) | ((with_reducible refine cMod_of ?_); omega) | ((with_reducible refine cDiv_of ?_ ?_) <;> omega) | ((with_reducible refine okR_of ?_ ?_) <;> omega) | omega | (simp only [List.length_take, List.length_drop, List.length_append, List.length_cons, List.length_nil, List.length_map, List.length_range, List.length_replicate]; omega)) [-sSeq_r, -sRet_r, -sDrop_r, -sSet_r, -sIf_r, -sPar_r, -sAsg_r, -sSetIx_r, -sFor_r, -gsCons_r, -gT_r, -e1_r, -e2_r, -tV_r, -tAndM_r, -tOrM_r, -tNotM_r, -eAnd_r, -eOr_r, -eNot_r, -eIf_r, -aCons_r, -eN_r, -fCall_r, -eCallK_r, -eM_r, -eSl_r, -oSome_r, -eIsN_r, -eLc_r, -iSeq_r, -iRng_r, ]
        exact ⟨by omega, H2.mono (by omega), I.2.trans O2⟩
      · obtain ⟨ws, rfl, hw⟩ := all_d hy
        rw [List.length_map, List.length_map] at hl2
        rw [dList_map (by omega)]
        simp -implicitDefEqProofs (disch := first | (with_reducible assumption) | ((with_reducible show List.length _ = _); rfl) | (simp only [allD_cons, allD_nil, Option.map_some, Option.isSome_some]; done) | (simp only [List.length_cons, List.length_nil, List.length_map]; done) | ((with_reducible refine cMod_of ?_); omega) | ((with_reducible refine cDiv_of ?_ ?_) <;> omega) | ((with_reducible refine okR_of ?_ ?_) <;> omega) | omega | (simp only [List.length_take, List.length_drop, List.length_append, List.length_cons, List.length_nil, List.length_map, List.length_range, List.length_replicate]; omega)) [-sSeq_r, -sRet_r, -sDrop_r, -sSet_r, -sIf_r, -sPar_r, -sAsg_r, -sSetIx_r, -sFor_r, -gsCons_r, -gT_r, -e1_r, -e2_r, -tV_r, -tAndM_r, -tOrM_r, -tNotM_r, -eAnd_r, -eOr_r, -eNot_r, -eIf_r, -aCons_r, -eN_r, -fCall_r, -eCallK_r, -eM_r, -eSl_r, -oSome_r, -eIsN_r, -eLc_r, -iSeq_r, -iRng_r, dToTup_l]
        refine fin [_, _] μ' (big _ (by simp) fun d hd => ?_) (I.1.mono (by simp; omega)) (.oth I.2)
        simp only [List.mem_cons, List.not_mem_nil, or_false] at hd
        rcases hd with rfl | rfl
        · exact at1 (Sx.of (by decide))
        · refine (Sm.tup (n := 6) (c := 41) (k := 0) (fun d hd => ?_) (by omega)).mono (Nat.le_refl _) (by decide)
          obtain ⟨i, rfl, hi⟩ := hw d hd
          exact Sm.int (by omega)
    · simp -implicitDefEqProofs (disch := first | (with_reducible assumption) | ((with_reducible show List.length _ = _); rfl) | (simp only [allD_cons, allD_nil, Option.map_some, Option.isSome_some]; done) | (simp only [List.length_cons, List.length_nil, List.length_map]; done) | ((with_reducible refine cMod_of ?_); omega) | ((with_reducible refine cDiv_of ?_ ?_) <;> omega) | ((with_reducible refine okR_of ?_ ?_) <;> omega) | omega | (simp only [List.length_take, List.length_drop, List.length_append, List.length_cons, List.length_nil, List.length_map, List.length_range, List.length_replicate]; omega)) [-sSeq_r, -sRet_r, -sDrop_r, -sSet_r, -sIf_r, -sPar_r, -sAsg_r, -sSetIx_r, -sFor_r, -gsCons_r, -gT_r, -e1_r, -e2_r, -tV_r, -tAndM_r, -tOrM_r, -tNotM_r, -eAnd_r, -eOr_r, -eNot_r, -eIf_r, -aCons_r, -eN_r, -fCall_r, -eCallK_r, -eM_r, -eSl_r, -oSome_r, -eIsN_r, -eLc_r, -iSeq_r, -iRng_r, r2_l_shape]
      refine w_pickS H1 (by omega) (by decide) (by decide) fun c μ2 hc H2 O2 => ?_
      have hc2 : c < 128 := by simp at hc; omega
      simp -implicitDefEqProofs (disch := first | (with_reducible assumption) | ((with_reducible show List.length _ = _); rfl) | (simp only [allD_cons, allD_nil, Option.map_some, Option.isSome_some]; done) | (simp only [List.length_cons, List.length_nil, List.length_map]; done) | ((with_reducible refine cMod_of ?_); omega) | ((with_reducible refine cDiv_of ?_ ?_) <;> omega) | ((with_reducible refine okR_of ?_ ?_) <;> omega) | omega | (simp only [List.length_take, List.length_drop, List.length_append, List.length_cons, List.length_nil, List.length_map, List.length_range, List.length_replicate]; omega)) [-sSeq_r, -sRet_r, -sDrop_r, -sSet_r, -sIf_r, -sPar_r, -sAsg_r, -sSetIx_r, -sFor_r, -gsCons_r, -gT_r, -e1_r, -e2_r, -tV_r, -tAndM_r, -tOrM_r, -tNotM_r, -eAnd_r, -eOr_r, -eNot_r, -eIf_r, -aCons_r, -eN_r, -fCall_r, -eCallK_r, -eM_r, -eSl_r, -oSome_r, -eIsN_r, -eLc_r, -iSeq_r, -iRng_r, dToTup_l]
      refine fin [_, _] μ2 (big _ (by simp) fun d hd => ?_) (H2.mono (by omega)) (.oth (O1.trans O2))
      simp only [List.mem_cons, List.not_mem_nil, or_false] at hd
      rcases hd with rfl | rfl
      · exact at1 (Sx.of (by decide))
      · exact at1 ⟨[c], rfl, by simp, by simpa using hc2⟩
theorem w_spell (H : Bx h m μ) (hm : m + 20 ≤ 10 ^ 9) {c : D} (hc : Sx c) (fin : ∀ d μ', DeedOk d → Bx h (m + 20) μ' → Ext h μ μ' → P (.d d) μ') : Wp (F_l_spell [.c h, .d c] μ) P := by
  unfold F_l_spell B_l_spell
  apply Wp_run
  simp -implicitDefEqProofs (disch := first | (with_reducible assumption) | ((with_reducible show List.length _ = _); rfl) | (simp only [allD_cons, allD_nil, Option.map_some, Option.isSome_some]; done) | (simp only [List.length_cons, List.length_nil, List.length_map]; done) | ((with_reducible refine cMod_of ?_); omega) | ((with_reducible refine cDiv_of ?_ ?_) <;> omega) | ((with_reducible refine okR_of ?_ ?_) <;> omega) | omega | (simp only [List.length_take, List.length_drop, List.length_append, List.length_cons, List.length_nil, List.length_map, List.length_range, List.length_replicate]; omega)) [-sSeq_r, -sRet_r, -sDrop_r, -sSet_r, -sIf_r, -sPar_r, -sAsg_r, -sSetIx_r, -sFor_r, -gsCons_r, -gT_r, -e1_r, -e2_r, -tV_r, -tAndM_r, -tOrM_r, -tNotM_r, -eAnd_r, -eOr_r, -eNot_r, -eIf_r, -aCons_r, -eN_r, -fCall_r, -eCallK_r, -eM_r, -eSl_r, -oSome_r, -eIsN_r, -eLc_r, -iSeq_r, -iRng_r, ]
  refine w_take H (by omega) (by decide) (by decide) fun r μ1 hr H1 O1 => ?_
  simp -implicitDefEqProofs (disch := first | (with_reducible assumption) | ((with_reducible show List.length _ = _); rfl) | (simp only [allD_cons, allD_nil, Option.map_some, Option.isSome_some]; done) | (simp only [List.length_cons, List.length_nil, List.length_map]; done) | ((with_reducible refine cMod_of ?_); omega) | ((with_reducible refine cDiv_of ?_ ?_) <;> omega) | ((with_reducible refine okR_of ?_ ?_) <;> omega) | omega | (simp only [List.length_take, List.length_drop, List.length_append, List.length_cons, List.length_nil, List.length_map, List.length_range, List.length_replicate]; omega)) [-sSeq_r, -sRet_r, -sDrop_r, -sSet_r, -sIf_r, -sPar_r, -sAsg_r, -sSetIx_r, -sFor_r, -gsCons_r, -gT_r, -e1_r, -e2_r, -tV_r, -tAndM_r, -tOrM_r, -tNotM_r, -eAnd_r, -eOr_r, -eNot_r, -eIf_r, -aCons_r, -eN_r, -fCall_r, -eCallK_r, -eM_r, -eSl_r, -oSome_r, -eIsN_r, -eLc_r, -iSeq_r, -iRng_r, ]
  obtain ⟨k, ek, hk⟩ : ∃ k : Nat, (1 : Int) + (r : Int) = (k : Int) ∧ k ≤ 4 := ⟨1 + r, by omega, by omega⟩
  simp -implicitDefEqProofs (disch := first | (with_reducible assumption) | ((with_reducible show List.length _ = _); rfl) | (simp only [allD_cons, allD_nil, Option.map_some, Option.isSome_some]; done) | (simp only [List.length_cons, List.length_nil, List.length_map]; done) | ((with_reducible refine cMod_of ?_); omega) | ((with_reducible refine cDiv_of ?_ ?_) <;> omega) | ((with_reducible refine okR_of ?_ ?_) <;> omega) | omega | (simp only [List.length_take, List.length_drop, List.length_append, List.length_cons, List.length_nil, List.length_map, List.length_range, List.length_replicate]; omega)) [-sSeq_r, -sRet_r, -sDrop_r, -sSet_r, -sIf_r, -sPar_r, -sAsg_r, -sSetIx_r, -sFor_r, -gsCons_r, -gT_r, -e1_r, -e2_r, -tV_r, -tAndM_r, -tOrM_r, -tNotM_r, -eAnd_r, -eOr_r, -eNot_r, -eIf_r, -aCons_r, -eN_r, -fCall_r, -eCallK_r, -eM_r, -eSl_r, -oSome_r, -eIsN_r, -eLc_r, -iSeq_r, -iRng_r, ek, rng1_n (show k ≤ 1000000 by omega)]
  refine Wp_lcF (by simp; omega) ?_
  refine Wp_lcM_y (fun j μ' => Bx h (m + 1 + j) μ' ∧ Oth h μ μ') (fun y => ∃ d, y = .d d ∧ Sx d) (i := 0) ⟨H1, O1⟩ (fun j b μ' hb I => ?_) fun ys μ' hl2 hy I => ?_
  · obtain ⟨i, hi, rfl⟩ := mem_rng hb
    have hj : j < 4 := by
      have := (List.getElem?_eq_some_iff.mp hb).1
      simp at this
      omega
    simp -implicitDefEqProofs (disch := first | (with_reducible assumption) | ((with_reducible show List.length _ = _); rfl) | (simp only [allD_cons, allD_nil, Option.map_some, Option.isSome_some]; done) | (simp only [List.length_cons, List.length_nil, List.length_map]; done) | ((with_reducible refine cMod_of ?_); omega) | ((with_reducible refine cDiv_of ?_ ?_) <;> omega) | ((with_reducible refine okR_of ?_ ?_) <;> omega) | omega | (simp only [List.length_take, List.length_drop, List.length_append, List.length_cons, List.length_nil, List.length_map, List.length_range, List.length_replicate]; omega)) [-sSeq_r, -sRet_r, -sDrop_r, -sSet_r, -sIf_r, -sPar_r, -sAsg_r, -sSetIx_r, -sFor_r, -gsCons_r, -gT_r, -e1_r, -e2_r, -tV_r, -tAndM_r, -tOrM_r, -tNotM_r, -eAnd_r, -eOr_r, -eNot_r, -eIf_r, -aCons_r, -eN_r, -fCall_r, -eCallK_r, -eM_r, -eSl_r, -oSome_r, -eIsN_r, -eLc_r, -iSeq_r, -iRng_r, c1_l_spell, wipeD]
    refine w_cells fun ds l0 l1 hd => ?_
    simp -implicitDefEqProofs (disch := first | (with_reducible assumption) | ((with_reducible show List.length _ = _); rfl) | (simp only [allD_cons, allD_nil, Option.map_some, Option.isSome_some]; done) | (simp only [List.length_cons, List.length_nil, List.length_map]; done) | ((with_reducible refine cMod_of ?_); omega) | ((with_reducible refine cDiv_of ?_ ?_) <;> omega) | ((with_reducible refine okR_of ?_ ?_) <;> omega) | omega | (simp only [List.length_take, List.length_drop, List.length_append, List.length_cons, List.length_nil, List.length_map, List.length_range, List.length_replicate]; omega)) [-sSeq_r, -sRet_r, -sDrop_r, -sSet_r, -sIf_r, -sPar_r, -sAsg_r, -sSetIx_r, -sFor_r, -gsCons_r, -gT_r, -e1_r, -e2_r, -tV_r, -tAndM_r, -tOrM_r, -tNotM_r, -eAnd_r, -eOr_r, -eNot_r, -eIf_r, -aCons_r, -eN_r, -fCall_r, -eCallK_r, -eM_r, -eSl_r, -oSome_r, -eIsN_r, -eLc_r, -iSeq_r, -iRng_r, ]
    refine w_pick I.1 (by omega) l0 (by omega) fun e μ2 he H2 O2 => ?_
    simp -implicitDefEqProofs (disch := first | (with_reducible assumption) | ((with_reducible show List.length _ = _); rfl) | (simp only [allD_cons, allD_nil, Option.map_some, Option.isSome_some]; done) | (simp only [List.length_cons, List.length_nil, List.length_map]; done) | ((with_reducible refine cMod_of ?_); omega) | ((with_reducible refine cDiv_of ?_ ?_) <;> omega) | ((with_reducible refine okR_of ?_ ?_) <;> omega) | omega | (simp only [List.length_take, List.length_drop, List.length_append, List.length_cons, List.length_nil, List.length_map, List.length_range, List.length_replicate]; omega)) [-sSeq_r, -sRet_r, -sDrop_r, -sSet_r, -sIf_r, -sPar_r, -sAsg_r, -sSetIx_r, -sFor_r, -gsCons_r, -gT_r, -e1_r, -e2_r, -tV_r, -tAndM_r, -tOrM_r, -tNotM_r, -eAnd_r, -eOr_r, -eNot_r, -eIf_r, -aCons_r, -eN_r, -fCall_r, -eCallK_r, -eM_r, -eSl_r, -oSome_r, -eIsN_r, -eLc_r, -iSeq_r, -iRng_r, ]
    exact ⟨hd e he, H2.mono (by omega), I.2.trans O2⟩
  · obtain ⟨ss, rfl, hs⟩ := all_d hy
    have ls : ss.length = k := by simpa using hl2
    have I1 : Bx h (m + 5) μ' := I.1.mono (by simp; omega)
    obtain ⟨es, ee, le, he⟩ := dSortSet_d (b := .d (.list ss)) (μ := μ') rfl (.inl fun d hd => (hs d hd).str) (by omega)
    rw [dList_map (by omega)]
    simp -implicitDefEqProofs (disch := first | (with_reducible assumption) | ((with_reducible show List.length _ = _); rfl) | (simp only [allD_cons, allD_nil, Option.map_some, Option.isSome_some]; done) | (simp only [List.length_cons, List.length_nil, List.length_map]; done) | ((with_reducible refine cMod_of ?_); omega) | ((with_reducible refine cDiv_of ?_ ?_) <;> omega) | ((with_reducible refine okR_of ?_ ?_) <;> omega) | omega | (simp only [List.length_take, List.length_drop, List.length_append, List.length_cons, List.length_nil, List.length_map, List.length_range, List.length_replicate]; omega)) [-sSeq_r, -sRet_r, -sDrop_r, -sSet_r, -sIf_r, -sPar_r, -sAsg_r, -sSetIx_r, -sFor_r, -gsCons_r, -gT_r, -e1_r, -e2_r, -tV_r, -tAndM_r, -tOrM_r, -tNotM_r, -eAnd_r, -eOr_r, -eNot_r, -eIf_r, -aCons_r, -eN_r, -fCall_r, -eCallK_r, -eM_r, -eSl_r, -oSome_r, -eIsN_r, -eLc_r, -iSeq_r, -iRng_r, r2_l_spell, ee]
    refine Wp_lcF (by simp; omega) ?_
    refine Wp_lcM_y (fun j μ' => Bx h (m + 5 + j) μ' ∧ Oth h μ μ') (fun y => ∃ d, y = .d d ∧ Sm 1 500 d) (i := 0) ⟨I1, I.2⟩ (fun j b μ2 hb J => ?_) fun ys μ2 hl3 hy J => ?_
    · have hj : j < es.length := by
        have := (List.getElem?_eq_some_iff.mp hb).1
        simpa using this
      obtain ⟨e, he1, rfl⟩ : ∃ e, e ∈ es ∧ b = .d e := by
        rw [List.getElem?_map] at hb
        obtain ⟨x, hx, rfl⟩ := Option.map_eq_some_iff.mp hb
        exact ⟨x, List.mem_of_getElem? hx, rfl⟩
      simp -implicitDefEqProofs (disch := first | (with_reducible assumption) | ((with_reducible show List.length _ = _); rfl) | (simp only [allD_cons, allD_nil, Option.map_some, Option.isSome_some]; done) | (simp only [List.length_cons, List.length_nil, List.length_map]; done) | ((with_reducible refine cMod_of ?_); omega) | ((with_reducible refine cDiv_of ?_ ?_) <;> omega) | ((with_reducible refine okR_of ?_ ?_) <;> omega) | omega | (simp only [List.length_take, List.length_drop, List.length_append, List.length_cons, List.length_nil, List.length_map, List.length_range, List.length_replicate]; omega)) [-sSeq_r, -sRet_r, -sDrop_r, -sSet_r, -sIf_r, -sPar_r, -sAsg_r, -sSetIx_r, -sFor_r, -gsCons_r, -gT_r, -e1_r, -e2_r, -tV_r, -tAndM_r, -tOrM_r, -tNotM_r, -eAnd_r, -eOr_r, -eNot_r, -eIf_r, -aCons_r, -eN_r, -fCall_r, -eCallK_r, -eM_r, -eSl_r, -oSome_r, -eIsN_r, -eLc_r, -iSeq_r, -iRng_r, c2_l_spell, wipeD]
      refine w_pick J.1 (by omega) (by simp) (by simp) fun w μ3 hw H3 O3 => ?_
      simp -implicitDefEqProofs (disch := first | (with_reducible assumption) | ((with_reducible show List.length _ = _); rfl) | (simp only [allD_cons, allD_nil, Option.map_some, Option.isSome_some]; done) | (simp only [List.length_cons, List.length_nil, List.length_map]; done) | ((with_reducible refine cMod_of ?_); omega) | ((with_reducible refine cDiv_of ?_ ?_) <;> omega) | ((with_reducible refine okR_of ?_ ?_) <;> omega) | omega | (simp only [List.length_take, List.length_drop, List.length_append, List.length_cons, List.length_nil, List.length_map, List.length_range, List.length_replicate]; omega)) [-sSeq_r, -sRet_r, -sDrop_r, -sSet_r, -sIf_r, -sPar_r, -sAsg_r, -sSetIx_r, -sFor_r, -gsCons_r, -gT_r, -e1_r, -e2_r, -tV_r, -tAndM_r, -tOrM_r, -tNotM_r, -eAnd_r, -eOr_r, -eNot_r, -eIf_r, -aCons_r, -eN_r, -fCall_r, -eCallK_r, -eM_r, -eSl_r, -oSome_r, -eIsN_r, -eLc_r, -iSeq_r, -iRng_r, ]
      refine ⟨?_, H3.mono (by omega), J.2.trans O3⟩
      refine (Sm.tup (n := 2) (c := 202) (k := 0) (fun d hd => ?_) (by simp)).mono (Nat.le_refl _) (by decide)
      simp only [List.mem_cons, List.not_mem_nil, or_false] at hd hw
      rcases hd with rfl | rfl
      · exact (hs _ (he _ he1)).sm
      · rcases hw with rfl | rfl | rfl | rfl
        · exact Sm.none.mono (Nat.le_refl _) (by decide)
        · exact (Sx.of (by decide)).sm
        · exact (Sx.of (by decide)).sm
        · exact (Sx.of (by decide)).sm
    · obtain ⟨ps, rfl, hp⟩ := all_d hy
      have lp : ps.length = es.length := by simpa using hl3
      rw [dList_map (by omega)]
      simp -implicitDefEqProofs (disch := first | (with_reducible assumption) | ((with_reducible show List.length _ = _); rfl) | (simp only [allD_cons, allD_nil, Option.map_some, Option.isSome_some]; done) | (simp only [List.length_cons, List.length_nil, List.length_map]; done) | ((with_reducible refine cMod_of ?_); omega) | ((with_reducible refine cDiv_of ?_ ?_) <;> omega) | ((with_reducible refine okR_of ?_ ?_) <;> omega) | omega | (simp only [List.length_take, List.length_drop, List.length_append, List.length_cons, List.length_nil, List.length_map, List.length_range, List.length_replicate]; omega)) [-sSeq_r, -sRet_r, -sDrop_r, -sSet_r, -sIf_r, -sPar_r, -sAsg_r, -sSetIx_r, -sFor_r, -gsCons_r, -gT_r, -e1_r, -e2_r, -tV_r, -tAndM_r, -tOrM_r, -tNotM_r, -eAnd_r, -eOr_r, -eNot_r, -eIf_r, -aCons_r, -eN_r, -fCall_r, -eCallK_r, -eM_r, -eSl_r, -oSome_r, -eIsN_r, -eLc_r, -iSeq_r, -iRng_r, r1_l_spell, dToTup_l]
      refine fin _ μ2 ⟨_, rfl, .spell hc, by simp, fun d hd => ?_⟩ (J.1.mono (by simp; omega)) (.oth J.2)
      simp only [List.mem_cons, List.not_mem_nil, or_false] at hd
      rcases hd with rfl | rfl | rfl
      · exact (Sx.of (by decide)).s2
      · exact hc.s2
      · exact (Sm.tup (n := 4) (c := 500) (k := 1) hp (by omega)).mono (Nat.le_refl _) (by decide)
end
end LW

namespace LW
open PySem PySem.Spec PyProof.Rows L2 DL
/-- what stood there before stands there still, but these cells -/
def Ex' (S : List Nat) (μ μ' : Store) : Prop := μ.length ≤ μ'.length ∧ ∀ i, i < μ.length → i ∉ S → μ'[i]? = μ[i]?
theorem Ex'.refl (S : List Nat) (μ : Store) : Ex' S μ μ := ⟨Nat.le_refl _, fun _ _ _ => rfl⟩
theorem Ex'.trans {S : List Nat} {a b c : Store} (x : Ex' S a b) (y : Ex' S b c) : Ex' S a c := ⟨Nat.le_trans x.1 y.1, fun i hi hn => (y.2 i (Nat.lt_of_lt_of_le hi x.1) hn).trans (x.2 i hi hn)⟩
theorem Ex'.ext {S : List Nat} {h : Nat} {a b : Store} (hS : h ∈ S) (x : Ext h a b) : Ex' S a b := ⟨x.1, fun i hi hn => x.2 i hi fun e => hn (e ▸ hS)⟩
theorem Ex'.set {S : List Nat} {n : Nat} {a : Store} {c : Cell} (hS : n ∈ S) : Ex' S a (a.set n c) := ⟨by simp, fun i _ hn => List.getElem?_set_ne fun (e : n = i) => hn (e ▸ hS)⟩
theorem Ex'.app (S : List Nat) (a b : Store) : Ex' S a (a ++ b) := ⟨by simp, fun i hi _ => List.getElem?_append_left hi⟩
theorem Ex'.at {S : List Nat} {n : Nat} {a b : Store} {c : Cell} (x : Ex' S a b) (hn : n ∉ S) (e : a[n]? = some c) : b[n]? = some c := by
  rw [x.2 n (lt_of_get e) hn]
  exact e
section
variable {μ : Store} {n k : Nat} {xs ys : List Dv} {b : Dv}
theorem isLst_c (e : μ[n]? = some (.lst xs)) : isLst (.c n) μ = true := by
  unfold isLst
  simp only [e]
theorem dPop_c (e : μ[n]? = some (.lst (xs ++ [b]))) : dPop (.c n) [] μ = .ok b (μ.set n (.lst xs)) := by
  unfold dPop
  simp only [e]
  have : (xs ++ [b])[(xs ++ [b]).length - 1]? = some b := by simp
  simp only [this, List.dropLast_concat]
theorem dAppend_c (e : μ[n]? = some (.lst xs)) (h : xs.length < 16000000) : dAppend (.c n) [b] μ = .ok (.d .none) (μ.set n (.lst (xs ++ [b]))) := by
  have := line_big
  unfold dAppend
  simp only [e]
  rw [if_pos (by omega)]
theorem dExtend_c (e : μ[n]? = some (.lst xs)) (e2 : μ[k]? = some (.lst ys)) (h : xs.length + ys.length ≤ 16000000) : dExtend (.c n) [.c k] μ = .ok (.d .none) (μ.set n (.lst (xs ++ ys))) := by
  have := line_big
  unfold dExtend
  simp only [e, e2]
  rw [if_pos (by omega)]
theorem cList_c (h : xs.length ≤ 16000000) : cList xs μ = .ok (.c μ.length) (μ ++ [.lst xs]) := by
  unfold cList
  rw [if_pos (Nat.le_trans h line_big)]
theorem dSl_l {ds : List D} {i j : Option Int} : dSl (.d (.list ds)) i j μ = .ok (.d (.list (cutL ds i j))) μ := by
  show (match allD (cutL (ds.map Dv.d) i j) with | some ds => Out.ok (Dv.d (.list ds)) μ | none => .bad) = _
  have : cutL (ds.map Dv.d) i j = (cutL ds i j).map .d := by
    unfold cutL
    simp only [List.length_map, List.map_take, List.map_drop]
  rw [this, allD_map]
end
/-- a comprehension over a cell that isn't changed, what it gives -/
theorem Wp_lcC_f {g : MG} {tt : MT} {te : ME} {ρ : DEnv} {n : Nat} {xs : List Dv} (p : Dv → Bool) (f : Dv → Dv) : ∀ {k i : Nat} {μ : Store} {P : List Dv → Store → Prop}, μ[n]? = some (.lst xs) → xs.length - i < k →
    (∀ b, b ∈ xs → Wp (g b ρ μ) fun ρ' μ1 => Wp (tt ρ' μ1) fun t μ2 => μ2 = μ ∧ t = p b ∧ (t = true → Wp (te ρ' μ2) fun y μ3 => y = f b ∧ μ3 = μ)) →
    P (((xs.drop i).filter p).map f) μ → Wp (lcC g tt te ρ n k i μ) P
  | 0, i, μ, P, _, h, _, _ => by omega
  | k + 1, i, μ, P, e, h, step, fin => by
    unfold lcC
    simp only [e]
    by_cases hi : i < xs.length
    · have ei : xs[i]? = some xs[i] := by simp [hi]
      have ed : xs.drop i = xs[i] :: xs.drop (i + 1) := List.drop_eq_getElem_cons hi
      rw [ed] at fin
      simp only [ei]
      rw [Wp_gb]
      refine Wp_mono (step _ (List.getElem_mem hi)) fun ρ' μ1 w1 => ?_
      rw [Wp_gb]
      refine Wp_mono w1 fun t μ2 w2 => ?_
      obtain ⟨rfl, ht, w2⟩ := w2
      cases t with
      | true =>
        rw [List.filter_cons_of_pos ht.symm, List.map_cons] at fin
        rw [if_pos rfl, Wp_gb]
        refine Wp_mono (w2 rfl) fun y μ3 w3 => ?_
        obtain ⟨rfl, rfl⟩ := w3
        rw [Wp_gb]
        refine Wp_lcC_f p f (k := k) (i := i + 1) e (by omega) step ?_
        exact .mk fin
      | false =>
        rw [List.filter_cons_of_neg (by rw [← ht]; decide)] at fin
        rw [if_neg (by decide)]
        exact Wp_lcC_f p f (k := k) (i := i + 1) e (by omega) step fin
    · have ei : xs[i]? = none := by simp; omega
      simp only [ei]
      rw [List.drop_of_length_le (by omega)] at fin
      exact .mk fin
/-- the names left and the columns known -/
structure Nk (h nn kn : Nat) (μ : Store) (ns ks : List D) : Prop where
  a : nn ≠ h
  b : kn ≠ h
  c : nn ≠ kn
  e1 : μ[nn]? = some (.lst (ns.map .d))
  e2 : μ[kn]? = some (.lst (ks.map .d))
  sx : ∀ d ∈ ns, Sx d
  kk : ∀ d ∈ ks, Kn d
  sum : ns.length + ks.length = 24
  few : ks.length ≤ 9
  fst : ∃ nm r, Sx nm ∧ ks = .tuple [nm, kindS true] :: r
theorem Nk.ext {h nn kn : Nat} {μ μ' : Store} {ns ks : List D} (N : Nk h nn kn μ ns ks) (x : Ext h μ μ') : Nk h nn kn μ' ns ks := ⟨N.a, N.b, N.c, x.at N.a N.e1, x.at N.b N.e2, N.sx, N.kk, N.sum, N.few, N.fst⟩
section
variable {h m nn kn : Nat} {μ : Store} {ns ks : List D} {P : Dv → Store → Prop}
theorem w_put (H : Bx h m μ) (hm : m + 10 ≤ 10 ^ 9) (N : Nk h nn kn μ ns ks) (fin : ∀ d μ', DeedOk d → Bx h (m + 10) μ' → Ext h μ μ' → P (.d d) μ') : Wp (F_l_put [.c h, .c kn] μ) P := by
  have hk : 0 < ks.length := by obtain ⟨nm, r, _, e⟩ := N.fst; rw [e]; simp
  unfold F_l_put B_l_put
  apply Wp_run
  simp -implicitDefEqProofs (disch := first | (with_reducible assumption) | ((with_reducible show List.length _ = _); rfl) | (simp only [allD_cons, allD_nil, Option.map_some, Option.isSome_some]; done) | (simp only [List.length_cons, List.length_nil, List.length_map]; done) | ((with_reducible refine cMod_of ?_); omega) | ((with_reducible refine cDiv_of ?_ ?_) <;> omega) | ((with_reducible refine okR_of ?_ ?_) <;> omega) | omega | (simp only [List.length_take, List.length_drop, List.length_append, List.length_cons, List.length_nil, List.length_map, List.length_range, List.length_replicate]; omega)) [-sSeq_r, -sRet_r, -sDrop_r, -sSet_r, -sIf_r, -sPar_r, -sAsg_r, -sSetIx_r, -sFor_r, -gsCons_r, -gT_r, -e1_r, -e2_r, -tV_r, -tAndM_r, -tOrM_r, -tNotM_r, -eAnd_r, -eOr_r, -eNot_r, -eIf_r, -aCons_r, -eN_r, -fCall_r, -eCallK_r, -eM_r, -eSl_r, -oSome_r, -eIsN_r, -eLc_r, -iSeq_r, -iRng_r, ]
  refine w_pickC H (by omega) N.e2 N.b hk (by have := N.few; omega) fun c μ1 hc H1 O1 => ?_
  obtain ⟨nm, t, sn, rfl⟩ := N.kk c hc
  simp -implicitDefEqProofs (disch := first | (with_reducible assumption) | ((with_reducible show List.length _ = _); rfl) | (simp only [allD_cons, allD_nil, Option.map_some, Option.isSome_some]; done) | (simp only [List.length_cons, List.length_nil, List.length_map]; done) | ((with_reducible refine cMod_of ?_); omega) | ((with_reducible refine cDiv_of ?_ ?_) <;> omega) | ((with_reducible refine okR_of ?_ ?_) <;> omega) | omega | (simp only [List.length_take, List.length_drop, List.length_append, List.length_cons, List.length_nil, List.length_map, List.length_range, List.length_replicate]; omega)) [-sSeq_r, -sRet_r, -sDrop_r, -sSet_r, -sIf_r, -sPar_r, -sAsg_r, -sSetIx_r, -sFor_r, -gsCons_r, -gT_r, -e1_r, -e2_r, -tV_r, -tAndM_r, -tOrM_r, -tNotM_r, -eAnd_r, -eOr_r, -eNot_r, -eIf_r, -aCons_r, -eN_r, -fCall_r, -eCallK_r, -eM_r, -eSl_r, -oSome_r, -eIsN_r, -eLc_r, -iSeq_r, -iRng_r, r1_l_put]
  refine w_worth H1 (by omega) fun w μ2 hw H2 E2 => ?_
  simp -implicitDefEqProofs (disch := first | (with_reducible assumption) | ((with_reducible show List.length _ = _); rfl) | (simp only [allD_cons, allD_nil, Option.map_some, Option.isSome_some]; done) | (simp only [List.length_cons, List.length_nil, List.length_map]; done) | ((with_reducible refine cMod_of ?_); omega) | ((with_reducible refine cDiv_of ?_ ?_) <;> omega) | ((with_reducible refine okR_of ?_ ?_) <;> omega) | omega | (simp only [List.length_take, List.length_drop, List.length_append, List.length_cons, List.length_nil, List.length_map, List.length_range, List.length_replicate]; omega)) [-sSeq_r, -sRet_r, -sDrop_r, -sSet_r, -sIf_r, -sPar_r, -sAsg_r, -sSetIx_r, -sFor_r, -gsCons_r, -gT_r, -e1_r, -e2_r, -tV_r, -tAndM_r, -tOrM_r, -tNotM_r, -eAnd_r, -eOr_r, -eNot_r, -eIf_r, -aCons_r, -eN_r, -fCall_r, -eCallK_r, -eM_r, -eSl_r, -oSome_r, -eIsN_r, -eLc_r, -iSeq_r, -iRng_r, ]
  refine fin _ μ2 ⟨_, rfl, .put sn, by simp, fun d hd => ?_⟩ (H2.mono (by omega)) ((Ext.oth O1).trans E2)
  simp only [List.mem_cons, List.not_mem_nil, or_false] at hd
  rcases hd with rfl | rfl | rfl
  · exact (Sx.of (by decide)).s2
  · exact sn.s2
  · exact hw.sm.mono (by decide) (by decide)
theorem w_wish (H : Bx h m μ) (hm : m + 30 ≤ 10 ^ 9) (N : Nk h nn kn μ ns ks) {lot : Nat} (fin : ∀ d μ', DeedOk d → Bx h (m + 30) μ' → Ext h μ μ' → P (.d d) μ') : Wp (F_l_wish [.c h, .d (.int lot), .c kn] μ) P := by
  have hk : 0 < ks.length := by obtain ⟨nm, r, _, e⟩ := N.fst; rw [e]; simp
  have hk9 := N.few
  unfold F_l_wish B_l_wish
  apply Wp_run
  simp -implicitDefEqProofs (disch := first | (with_reducible assumption) | ((with_reducible show List.length _ = _); rfl) | (simp only [allD_cons, allD_nil, Option.map_some, Option.isSome_some]; done) | (simp only [List.length_cons, List.length_nil, List.length_map]; done) | ((with_reducible refine cMod_of ?_); omega) | ((with_reducible refine cDiv_of ?_ ?_) <;> omega) | ((with_reducible refine okR_of ?_ ?_) <;> omega) | omega | (simp only [List.length_take, List.length_drop, List.length_append, List.length_cons, List.length_nil, List.length_map, List.length_range, List.length_replicate]; omega)) [-sSeq_r, -sRet_r, -sDrop_r, -sSet_r, -sIf_r, -sPar_r, -sAsg_r, -sSetIx_r, -sFor_r, -gsCons_r, -gT_r, -e1_r, -e2_r, -tV_r, -tAndM_r, -tOrM_r, -tNotM_r, -eAnd_r, -eOr_r, -eNot_r, -eIf_r, -aCons_r, -eN_r, -fCall_r, -eCallK_r, -eM_r, -eSl_r, -oSome_r, -eIsN_r, -eLc_r, -iSeq_r, -iRng_r, ]
  refine w_pickC H (by omega) N.e2 N.b hk (by omega) fun c μ1 hc H1 O1 => ?_
  obtain ⟨nm, t, sn, rfl⟩ := N.kk c hc
  have N1 := N.ext (.oth O1)
  simp -implicitDefEqProofs (disch := first | (with_reducible assumption) | ((with_reducible show List.length _ = _); rfl) | (simp only [allD_cons, allD_nil, Option.map_some, Option.isSome_some]; done) | (simp only [List.length_cons, List.length_nil, List.length_map]; done) | ((with_reducible refine cMod_of ?_); omega) | ((with_reducible refine cDiv_of ?_ ?_) <;> omega) | ((with_reducible refine okR_of ?_ ?_) <;> omega) | omega | (simp only [List.length_take, List.length_drop, List.length_append, List.length_cons, List.length_nil, List.length_map, List.length_range, List.length_replicate]; omega)) [-sSeq_r, -sRet_r, -sDrop_r, -sSet_r, -sIf_r, -sPar_r, -sAsg_r, -sSetIx_r, -sFor_r, -gsCons_r, -gT_r, -e1_r, -e2_r, -tV_r, -tAndM_r, -tOrM_r, -tNotM_r, -eAnd_r, -eOr_r, -eNot_r, -eIf_r, -aCons_r, -eN_r, -fCall_r, -eCallK_r, -eM_r, -eSl_r, -oSome_r, -eIsN_r, -eLc_r, -iSeq_r, -iRng_r, r7_l_wish]
  refine Wp_lcCb (by decide) ?_
  refine Wp_lcC (fun y => ∃ d, y = .d d ∧ Sx d) N1.e2 (by rw [List.length_map]; omega) (fun j b hb => ?_) fun ys ly hy => ?_
  · obtain ⟨e, he, rfl⟩ : ∃ e, e ∈ ks ∧ b = .d e := by
      rw [List.getElem?_map] at hb
      obtain ⟨x, hx, rfl⟩ := Option.map_eq_some_iff.mp hb
      exact ⟨x, List.mem_of_getElem? hx, rfl⟩
    obtain ⟨nm2, t2, sn2, rfl⟩ := N.kk e he
    obtain ⟨l1, rfl, _, _⟩ := id sn
    obtain ⟨l2, rfl, _, _⟩ := id sn2
    cases t <;> cases t2 <;> simp -implicitDefEqProofs (disch := first | (with_reducible assumption) | ((with_reducible show List.length _ = _); rfl) | (simp only [allD_cons, allD_nil, Option.map_some, Option.isSome_some]; done) | (simp only [List.length_cons, List.length_nil, List.length_map]; done) | ((with_reducible refine cMod_of ?_); omega) | ((with_reducible refine cDiv_of ?_ ?_) <;> omega) | ((with_reducible refine okR_of ?_ ?_) <;> omega) | omega | (simp only [List.length_take, List.length_drop, List.length_append, List.length_cons, List.length_nil, List.length_map, List.length_range, List.length_replicate]; omega)) [-sSeq_r, -sRet_r, -sDrop_r, -sSet_r, -sIf_r, -sPar_r, -sAsg_r, -sSetIx_r, -sFor_r, -gsCons_r, -gT_r, -e1_r, -e2_r, -tV_r, -tAndM_r, -tOrM_r, -tNotM_r, -eAnd_r, -eOr_r, -eNot_r, -eIf_r, -aCons_r, -eN_r, -fCall_r, -eCallK_r, -eM_r, -eSl_r, -oSome_r, -eIsN_r, -eLc_r, -iSeq_r, -iRng_r, wipeD, t1_l_wish, c1_l_wish, kindS] <;> (try exact fun _ => sn2)
  · obtain ⟨lk, rfl, hlk⟩ := all_d hy
    have ll : lk.length ≤ 9 := by rw [List.length_map, List.length_map] at ly; omega
    rw [dList_map (by omega)]
    simp -implicitDefEqProofs (disch := first | (with_reducible assumption) | ((with_reducible show List.length _ = _); rfl) | (simp only [allD_cons, allD_nil, Option.map_some, Option.isSome_some]; done) | (simp only [List.length_cons, List.length_nil, List.length_map]; done) | ((with_reducible refine cMod_of ?_); omega) | ((with_reducible refine cDiv_of ?_ ?_) <;> omega) | ((with_reducible refine okR_of ?_ ?_) <;> omega) | omega | (simp only [List.length_take, List.length_drop, List.length_append, List.length_cons, List.length_nil, List.length_map, List.length_range, List.length_replicate]; omega)) [-sSeq_r, -sRet_r, -sDrop_r, -sSet_r, -sIf_r, -sPar_r, -sAsg_r, -sSetIx_r, -sFor_r, -gsCons_r, -gT_r, -e1_r, -e2_r, -tV_r, -tAndM_r, -tOrM_r, -tNotM_r, -eAnd_r, -eOr_r, -eNot_r, -eIf_r, -aCons_r, -eN_r, -fCall_r, -eCallK_r, -eM_r, -eSl_r, -oSome_r, -eIsN_r, -eLc_r, -iSeq_r, -iRng_r, r6_l_wish]
    refine kIf_s (fun q => ?_) fun q => ?_
    · simp -implicitDefEqProofs (disch := first | (with_reducible assumption) | ((with_reducible show List.length _ = _); rfl) | (simp only [allD_cons, allD_nil, Option.map_some, Option.isSome_some]; done) | (simp only [List.length_cons, List.length_nil, List.length_map]; done) | ((with_reducible refine cMod_of ?_); omega) | ((with_reducible refine cDiv_of ?_ ?_) <;> omega) | ((with_reducible refine okR_of ?_ ?_) <;> omega) | omega | (simp only [List.length_take, List.length_drop, List.length_append, List.length_cons, List.length_nil, List.length_map, List.length_range, List.length_replicate]; omega)) [-sSeq_r, -sRet_r, -sDrop_r, -sSet_r, -sIf_r, -sPar_r, -sAsg_r, -sSetIx_r, -sFor_r, -gsCons_r, -gT_r, -e1_r, -e2_r, -tV_r, -tAndM_r, -tOrM_r, -tNotM_r, -eAnd_r, -eOr_r, -eNot_r, -eIf_r, -aCons_r, -eN_r, -fCall_r, -eCallK_r, -eM_r, -eSl_r, -oSome_r, -eIsN_r, -eLc_r, -iSeq_r, -iRng_r, ]
      refine w_worth H1 (by omega) fun w1 μ2 hw1 H2 E2 => ?_
      simp -implicitDefEqProofs (disch := first | (with_reducible assumption) | ((with_reducible show List.length _ = _); rfl) | (simp only [allD_cons, allD_nil, Option.map_some, Option.isSome_some]; done) | (simp only [List.length_cons, List.length_nil, List.length_map]; done) | ((with_reducible refine cMod_of ?_); omega) | ((with_reducible refine cDiv_of ?_ ?_) <;> omega) | ((with_reducible refine okR_of ?_ ?_) <;> omega) | omega | (simp only [List.length_take, List.length_drop, List.length_append, List.length_cons, List.length_nil, List.length_map, List.length_range, List.length_replicate]; omega)) [-sSeq_r, -sRet_r, -sDrop_r, -sSet_r, -sIf_r, -sPar_r, -sAsg_r, -sSetIx_r, -sFor_r, -gsCons_r, -gT_r, -e1_r, -e2_r, -tV_r, -tAndM_r, -tOrM_r, -tNotM_r, -eAnd_r, -eOr_r, -eNot_r, -eIf_r, -aCons_r, -eN_r, -fCall_r, -eCallK_r, -eM_r, -eSl_r, -oSome_r, -eIsN_r, -eLc_r, -iSeq_r, -iRng_r, ]
      refine w_worth H2 (by omega) fun w2 μ3 hw2 H3 E3 => ?_
      have cs : canSort [w1, w2] = true := by
        cases t with
        | true =>
          refine sort_strs fun d hd => ?_
          simp only [List.mem_cons, List.not_mem_nil, or_false] at hd
          rcases hd with rfl | rfl
          · exact Sx.str hw1
          · exact Sx.str hw2
        | false =>
          refine sort_ints fun d hd => ?_
          simp only [List.mem_cons, List.not_mem_nil, or_false] at hd
          rcases hd with rfl | rfl
          · obtain ⟨i, e, _⟩ := hw1; exact ⟨i, e⟩
          · obtain ⟨i, e, _⟩ := hw2; exact ⟨i, e⟩
      have es := dSort_d (ds := [w1, w2]) (b := .d (.list [w1, w2])) (μ := μ3) rfl cs (by simp)
      obtain ⟨x, y, exy⟩ := two_of (ds := srt [w1, w2]) (by rw [srt_len]; rfl)
      have mx : Sm 0 202 x ∧ Sm 0 202 y := by
        have hx : x ∈ srt [w1, w2] := by rw [exy]; simp
        have hy : y ∈ srt [w1, w2] := by rw [exy]; simp
        rw [srt_mem] at hx hy
        simp only [List.mem_cons, List.not_mem_nil, or_false] at hx hy
        refine ⟨?_, ?_⟩
        · rcases hx with rfl | rfl
          · exact hw1.sm
          · exact hw2.sm
        · rcases hy with rfl | rfl
          · exact hw1.sm
          · exact hw2.sm
      rw [exy] at es
      simp -implicitDefEqProofs (disch := first | (with_reducible assumption) | ((with_reducible show List.length _ = _); rfl) | (simp only [allD_cons, allD_nil, Option.map_some, Option.isSome_some]; done) | (simp only [List.length_cons, List.length_nil, List.length_map]; done) | ((with_reducible refine cMod_of ?_); omega) | ((with_reducible refine cDiv_of ?_ ?_) <;> omega) | ((with_reducible refine okR_of ?_ ?_) <;> omega) | omega | (simp only [List.length_take, List.length_drop, List.length_append, List.length_cons, List.length_nil, List.length_map, List.length_range, List.length_replicate]; omega)) [-sSeq_r, -sRet_r, -sDrop_r, -sSet_r, -sIf_r, -sPar_r, -sAsg_r, -sSetIx_r, -sFor_r, -gsCons_r, -gT_r, -e1_r, -e2_r, -tV_r, -tAndM_r, -tOrM_r, -tNotM_r, -eAnd_r, -eOr_r, -eNot_r, -eIf_r, -aCons_r, -eN_r, -fCall_r, -eCallK_r, -eM_r, -eSl_r, -oSome_r, -eIsN_r, -eLc_r, -iSeq_r, -iRng_r, es, r1_l_wish, dIx_l (μ := μ3) (atI0 (x := x) (r := [y])), dIx_l (μ := μ3) (atI1 (x := x) (y := y) (r := []))]
      refine fin _ μ3 ⟨_, rfl, .within sn, by simp, fun d hd => ?_⟩ (H3.mono (by omega)) (((Ext.oth O1).trans E2).trans E3)
      simp only [List.mem_cons, List.not_mem_nil, or_false] at hd
      rcases hd with rfl | rfl | rfl | rfl
      · exact (Sx.of (by decide)).s2
      · exact sn.s2
      · exact mx.1.mono (by decide) (by decide)
      · exact mx.2.mono (by decide) (by decide)
    · simp -implicitDefEqProofs (disch := first | (with_reducible assumption) | ((with_reducible show List.length _ = _); rfl) | (simp only [allD_cons, allD_nil, Option.map_some, Option.isSome_some]; done) | (simp only [List.length_cons, List.length_nil, List.length_map]; done) | ((with_reducible refine cMod_of ?_); omega) | ((with_reducible refine cDiv_of ?_ ?_) <;> omega) | ((with_reducible refine okR_of ?_ ?_) <;> omega) | omega | (simp only [List.length_take, List.length_drop, List.length_append, List.length_cons, List.length_nil, List.length_map, List.length_range, List.length_replicate]; omega)) [-sSeq_r, -sRet_r, -sDrop_r, -sSet_r, -sIf_r, -sPar_r, -sAsg_r, -sSetIx_r, -sFor_r, -gsCons_r, -gT_r, -e1_r, -e2_r, -tV_r, -tAndM_r, -tOrM_r, -tNotM_r, -eAnd_r, -eOr_r, -eNot_r, -eIf_r, -aCons_r, -eN_r, -fCall_r, -eCallK_r, -eM_r, -eSl_r, -oSome_r, -eIsN_r, -eLc_r, -iSeq_r, -iRng_r, r5_l_wish]
      refine kIf_s (fun q2 => ?_) fun q2 => ?_
      · simp -implicitDefEqProofs (disch := first | (with_reducible assumption) | ((with_reducible show List.length _ = _); rfl) | (simp only [allD_cons, allD_nil, Option.map_some, Option.isSome_some]; done) | (simp only [List.length_cons, List.length_nil, List.length_map]; done) | ((with_reducible refine cMod_of ?_); omega) | ((with_reducible refine cDiv_of ?_ ?_) <;> omega) | ((with_reducible refine okR_of ?_ ?_) <;> omega) | omega | (simp only [List.length_take, List.length_drop, List.length_append, List.length_cons, List.length_nil, List.length_map, List.length_range, List.length_replicate]; omega)) [-sSeq_r, -sRet_r, -sDrop_r, -sSet_r, -sIf_r, -sPar_r, -sAsg_r, -sSetIx_r, -sFor_r, -gsCons_r, -gT_r, -e1_r, -e2_r, -tV_r, -tAndM_r, -tOrM_r, -tNotM_r, -eAnd_r, -eOr_r, -eNot_r, -eIf_r, -aCons_r, -eN_r, -fCall_r, -eCallK_r, -eM_r, -eSl_r, -oSome_r, -eIsN_r, -eLc_r, -iSeq_r, -iRng_r, ]
        refine w_take H1 (by omega) (by decide) (by decide) fun r μ2 hr H2 O2 => ?_
        obtain ⟨k, ek, hk3⟩ : ∃ k : Nat, (1 : Int) + (r : Int) = (k : Int) ∧ k ≤ 3 := ⟨1 + r, by omega, by omega⟩
        simp -implicitDefEqProofs (disch := first | (with_reducible assumption) | ((with_reducible show List.length _ = _); rfl) | (simp only [allD_cons, allD_nil, Option.map_some, Option.isSome_some]; done) | (simp only [List.length_cons, List.length_nil, List.length_map]; done) | ((with_reducible refine cMod_of ?_); omega) | ((with_reducible refine cDiv_of ?_ ?_) <;> omega) | ((with_reducible refine okR_of ?_ ?_) <;> omega) | omega | (simp only [List.length_take, List.length_drop, List.length_append, List.length_cons, List.length_nil, List.length_map, List.length_range, List.length_replicate]; omega)) [-sSeq_r, -sRet_r, -sDrop_r, -sSet_r, -sIf_r, -sPar_r, -sAsg_r, -sSetIx_r, -sFor_r, -gsCons_r, -gT_r, -e1_r, -e2_r, -tV_r, -tAndM_r, -tOrM_r, -tNotM_r, -eAnd_r, -eOr_r, -eNot_r, -eIf_r, -aCons_r, -eN_r, -fCall_r, -eCallK_r, -eM_r, -eSl_r, -oSome_r, -eIsN_r, -eLc_r, -iSeq_r, -iRng_r, ek, rng1_n (show k ≤ 1000000 by omega)]
        refine Wp_lcF (by simp; omega) ?_
        refine Wp_lcM_y (fun j μ' => Bx h (m + 2 + 5 * j) μ' ∧ Ext h μ μ') (fun y => ∃ d, y = .d d ∧ Wk t d) (i := 0) ⟨H2, .oth (O1.trans O2)⟩ (fun j b μ' hb I => ?_) fun ys μ' hl2 hy I => ?_
        · obtain ⟨i, hi, rfl⟩ := mem_rng hb
          have hj : j < 3 := by
            have := (List.getElem?_eq_some_iff.mp hb).1
            simp at this
            omega
          simp -implicitDefEqProofs (disch := first | (with_reducible assumption) | ((with_reducible show List.length _ = _); rfl) | (simp only [allD_cons, allD_nil, Option.map_some, Option.isSome_some]; done) | (simp only [List.length_cons, List.length_nil, List.length_map]; done) | ((with_reducible refine cMod_of ?_); omega) | ((with_reducible refine cDiv_of ?_ ?_) <;> omega) | ((with_reducible refine okR_of ?_ ?_) <;> omega) | omega | (simp only [List.length_take, List.length_drop, List.length_append, List.length_cons, List.length_nil, List.length_map, List.length_range, List.length_replicate]; omega)) [-sSeq_r, -sRet_r, -sDrop_r, -sSet_r, -sIf_r, -sPar_r, -sAsg_r, -sSetIx_r, -sFor_r, -gsCons_r, -gT_r, -e1_r, -e2_r, -tV_r, -tAndM_r, -tOrM_r, -tNotM_r, -eAnd_r, -eOr_r, -eNot_r, -eIf_r, -aCons_r, -eN_r, -fCall_r, -eCallK_r, -eM_r, -eSl_r, -oSome_r, -eIsN_r, -eLc_r, -iSeq_r, -iRng_r, c2_l_wish, wipeD]
          refine w_worth I.1 (by omega) fun w μ3 hw H3 E3 => ?_
          simp -implicitDefEqProofs (disch := first | (with_reducible assumption) | ((with_reducible show List.length _ = _); rfl) | (simp only [allD_cons, allD_nil, Option.map_some, Option.isSome_some]; done) | (simp only [List.length_cons, List.length_nil, List.length_map]; done) | ((with_reducible refine cMod_of ?_); omega) | ((with_reducible refine cDiv_of ?_ ?_) <;> omega) | ((with_reducible refine okR_of ?_ ?_) <;> omega) | omega | (simp only [List.length_take, List.length_drop, List.length_append, List.length_cons, List.length_nil, List.length_map, List.length_range, List.length_replicate]; omega)) [-sSeq_r, -sRet_r, -sDrop_r, -sSet_r, -sIf_r, -sPar_r, -sAsg_r, -sSetIx_r, -sFor_r, -gsCons_r, -gT_r, -e1_r, -e2_r, -tV_r, -tAndM_r, -tOrM_r, -tNotM_r, -eAnd_r, -eOr_r, -eNot_r, -eIf_r, -aCons_r, -eN_r, -fCall_r, -eCallK_r, -eM_r, -eSl_r, -oSome_r, -eIsN_r, -eLc_r, -iSeq_r, -iRng_r, ]
          exact ⟨hw, H3.mono (by omega), I.2.trans E3⟩
        · obtain ⟨ws, rfl, hw⟩ := all_d hy
          have lw : ws.length = k := by simpa using hl2
          have kd : (∀ d ∈ ws, ∃ x, d = .str x) ∨ ∀ d ∈ ws, ∃ x, d = .int x := by
            cases t with
            | true => exact .inl fun d hd => Sx.str (hw d hd)
            | false => exact .inr fun d hd => by obtain ⟨i, e, _⟩ := hw d hd; exact ⟨i, e⟩
          obtain ⟨es, ee, le, he⟩ := dSortSet_d (b := .d (.list ws)) (μ := μ') rfl kd (by omega)
          rw [dList_map (by omega)]
          simp -implicitDefEqProofs (disch := first | (with_reducible assumption) | ((with_reducible show List.length _ = _); rfl) | (simp only [allD_cons, allD_nil, Option.map_some, Option.isSome_some]; done) | (simp only [List.length_cons, List.length_nil, List.length_map]; done) | ((with_reducible refine cMod_of ?_); omega) | ((with_reducible refine cDiv_of ?_ ?_) <;> omega) | ((with_reducible refine okR_of ?_ ?_) <;> omega) | omega | (simp only [List.length_take, List.length_drop, List.length_append, List.length_cons, List.length_nil, List.length_map, List.length_range, List.length_replicate]; omega)) [-sSeq_r, -sRet_r, -sDrop_r, -sSet_r, -sIf_r, -sPar_r, -sAsg_r, -sSetIx_r, -sFor_r, -gsCons_r, -gT_r, -e1_r, -e2_r, -tV_r, -tAndM_r, -tOrM_r, -tNotM_r, -eAnd_r, -eOr_r, -eNot_r, -eIf_r, -aCons_r, -eN_r, -fCall_r, -eCallK_r, -eM_r, -eSl_r, -oSome_r, -eIsN_r, -eLc_r, -iSeq_r, -iRng_r, r2_l_wish, ee, dToTup_l]
          refine fin _ μ' ⟨_, rfl, .among sn, by simp, fun d hd => ?_⟩ (I.1.mono (by simp; omega)) I.2
          simp only [List.mem_cons, List.not_mem_nil, or_false] at hd
          rcases hd with rfl | rfl | rfl
          · exact (Sx.of (by decide)).s2
          · exact sn.s2
          · exact (Sm.tup (n := 3) (c := 202) (k := 0) (fun d hd => (hw d (he d hd)).sm) (by omega)).mono (by decide) (by decide)
      · simp -implicitDefEqProofs (disch := first | (with_reducible assumption) | ((with_reducible show List.length _ = _); rfl) | (simp only [allD_cons, allD_nil, Option.map_some, Option.isSome_some]; done) | (simp only [List.length_cons, List.length_nil, List.length_map]; done) | ((with_reducible refine cMod_of ?_); omega) | ((with_reducible refine cDiv_of ?_ ?_) <;> omega) | ((with_reducible refine okR_of ?_ ?_) <;> omega) | omega | (simp only [List.length_take, List.length_drop, List.length_append, List.length_cons, List.length_nil, List.length_map, List.length_range, List.length_replicate]; omega)) [-sSeq_r, -sRet_r, -sDrop_r, -sSet_r, -sIf_r, -sPar_r, -sAsg_r, -sSetIx_r, -sFor_r, -gsCons_r, -gT_r, -e1_r, -e2_r, -tV_r, -tAndM_r, -tOrM_r, -tNotM_r, -eAnd_r, -eOr_r, -eNot_r, -eIf_r, -aCons_r, -eN_r, -fCall_r, -eCallK_r, -eM_r, -eSl_r, -oSome_r, -eIsN_r, -eLc_r, -iSeq_r, -iRng_r, r4_l_wish]
        refine kAnd_s (fun q3 => ?_) fun q3 => ?_
        · simp -implicitDefEqProofs (disch := first | (with_reducible assumption) | ((with_reducible show List.length _ = _); rfl) | (simp only [allD_cons, allD_nil, Option.map_some, Option.isSome_some]; done) | (simp only [List.length_cons, List.length_nil, List.length_map]; done) | ((with_reducible refine cMod_of ?_); omega) | ((with_reducible refine cDiv_of ?_ ?_) <;> omega) | ((with_reducible refine okR_of ?_ ?_) <;> omega) | omega | (simp only [List.length_take, List.length_drop, List.length_append, List.length_cons, List.length_nil, List.length_map, List.length_range, List.length_replicate]; omega)) [-sSeq_r, -sRet_r, -sDrop_r, -sSet_r, -sIf_r, -sPar_r, -sAsg_r, -sSetIx_r, -sFor_r, -gsCons_r, -gT_r, -e1_r, -e2_r, -tV_r, -tAndM_r, -tOrM_r, -tNotM_r, -eAnd_r, -eOr_r, -eNot_r, -eIf_r, -aCons_r, -eN_r, -fCall_r, -eCallK_r, -eM_r, -eSl_r, -oSome_r, -eIsN_r, -eLc_r, -iSeq_r, -iRng_r, ]
          rw [dEq_dd (by rw [shaped_list hlk]; rfl)]
          simp -implicitDefEqProofs (disch := first | (with_reducible assumption) | ((with_reducible show List.length _ = _); rfl) | (simp only [allD_cons, allD_nil, Option.map_some, Option.isSome_some]; done) | (simp only [List.length_cons, List.length_nil, List.length_map]; done) | ((with_reducible refine cMod_of ?_); omega) | ((with_reducible refine cDiv_of ?_ ?_) <;> omega) | ((with_reducible refine okR_of ?_ ?_) <;> omega) | omega | (simp only [List.length_take, List.length_drop, List.length_append, List.length_cons, List.length_nil, List.length_map, List.length_range, List.length_replicate]; omega)) [-sSeq_r, -sRet_r, -sDrop_r, -sSet_r, -sIf_r, -sPar_r, -sAsg_r, -sSetIx_r, -sFor_r, -gsCons_r, -gT_r, -e1_r, -e2_r, -tV_r, -tAndM_r, -tOrM_r, -tNotM_r, -eAnd_r, -eOr_r, -eNot_r, -eIf_r, -aCons_r, -eN_r, -fCall_r, -eCallK_r, -eM_r, -eSl_r, -oSome_r, -eIsN_r, -eLc_r, -iSeq_r, -iRng_r, ]
          refine kIf_s (fun q4 => ?_) fun q4 => ?_
          · have l0 : 0 < lk.length := by
              cases lk with
              | nil => simp [PyData.eqv, PyData.eqvAll] at q4
              | cons a b => simp
            simp -implicitDefEqProofs (disch := first | (with_reducible assumption) | ((with_reducible show List.length _ = _); rfl) | (simp only [allD_cons, allD_nil, Option.map_some, Option.isSome_some]; done) | (simp only [List.length_cons, List.length_nil, List.length_map]; done) | ((with_reducible refine cMod_of ?_); omega) | ((with_reducible refine cDiv_of ?_ ?_) <;> omega) | ((with_reducible refine okR_of ?_ ?_) <;> omega) | omega | (simp only [List.length_take, List.length_drop, List.length_append, List.length_cons, List.length_nil, List.length_map, List.length_range, List.length_replicate]; omega)) [-sSeq_r, -sRet_r, -sDrop_r, -sSet_r, -sIf_r, -sPar_r, -sAsg_r, -sSetIx_r, -sFor_r, -gsCons_r, -gT_r, -e1_r, -e2_r, -tV_r, -tAndM_r, -tOrM_r, -tNotM_r, -eAnd_r, -eOr_r, -eNot_r, -eIf_r, -aCons_r, -eN_r, -fCall_r, -eCallK_r, -eM_r, -eSl_r, -oSome_r, -eIsN_r, -eLc_r, -iSeq_r, -iRng_r, ]
            refine w_pick H1 (by omega) l0 (by omega) fun e μ2 he H2 O2 => ?_
            simp -implicitDefEqProofs (disch := first | (with_reducible assumption) | ((with_reducible show List.length _ = _); rfl) | (simp only [allD_cons, allD_nil, Option.map_some, Option.isSome_some]; done) | (simp only [List.length_cons, List.length_nil, List.length_map]; done) | ((with_reducible refine cMod_of ?_); omega) | ((with_reducible refine cDiv_of ?_ ?_) <;> omega) | ((with_reducible refine okR_of ?_ ?_) <;> omega) | omega | (simp only [List.length_take, List.length_drop, List.length_append, List.length_cons, List.length_nil, List.length_map, List.length_range, List.length_replicate]; omega)) [-sSeq_r, -sRet_r, -sDrop_r, -sSet_r, -sIf_r, -sPar_r, -sAsg_r, -sSetIx_r, -sFor_r, -gsCons_r, -gT_r, -e1_r, -e2_r, -tV_r, -tAndM_r, -tOrM_r, -tNotM_r, -eAnd_r, -eOr_r, -eNot_r, -eIf_r, -aCons_r, -eN_r, -fCall_r, -eCallK_r, -eM_r, -eSl_r, -oSome_r, -eIsN_r, -eLc_r, -iSeq_r, -iRng_r, ]
            refine fin _ μ2 ⟨_, rfl, .before sn (hlk e he), by simp, fun d hd => ?_⟩ (H2.mono (by omega)) (.oth (O1.trans O2))
            simp only [List.mem_cons, List.not_mem_nil, or_false] at hd
            rcases hd with rfl | rfl | rfl
            · exact (Sx.of (by decide)).s2
            · exact sn.s2
            · exact (hlk _ he).s2
          · simp -implicitDefEqProofs (disch := first | (with_reducible assumption) | ((with_reducible show List.length _ = _); rfl) | (simp only [allD_cons, allD_nil, Option.map_some, Option.isSome_some]; done) | (simp only [List.length_cons, List.length_nil, List.length_map]; done) | ((with_reducible refine cMod_of ?_); omega) | ((with_reducible refine cDiv_of ?_ ?_) <;> omega) | ((with_reducible refine okR_of ?_ ?_) <;> omega) | omega | (simp only [List.length_take, List.length_drop, List.length_append, List.length_cons, List.length_nil, List.length_map, List.length_range, List.length_replicate]; omega)) [-sSeq_r, -sRet_r, -sDrop_r, -sSet_r, -sIf_r, -sPar_r, -sAsg_r, -sSetIx_r, -sFor_r, -gsCons_r, -gT_r, -e1_r, -e2_r, -tV_r, -tAndM_r, -tOrM_r, -tNotM_r, -eAnd_r, -eOr_r, -eNot_r, -eIf_r, -aCons_r, -eN_r, -fCall_r, -eCallK_r, -eM_r, -eSl_r, -oSome_r, -eIsN_r, -eLc_r, -iSeq_r, -iRng_r, r3_l_wish]
            refine fin _ μ1 ⟨_, rfl, .given sn, by simp, fun d hd => ?_⟩ (H1.mono (by omega)) (.oth O1)
            simp only [List.mem_cons, List.not_mem_nil, or_false] at hd
            rcases hd with rfl | rfl
            · exact (Sx.of (by decide)).s2
            · exact sn.s2
        · simp -implicitDefEqProofs (disch := first | (with_reducible assumption) | ((with_reducible show List.length _ = _); rfl) | (simp only [allD_cons, allD_nil, Option.map_some, Option.isSome_some]; done) | (simp only [List.length_cons, List.length_nil, List.length_map]; done) | ((with_reducible refine cMod_of ?_); omega) | ((with_reducible refine cDiv_of ?_ ?_) <;> omega) | ((with_reducible refine okR_of ?_ ?_) <;> omega) | omega | (simp only [List.length_take, List.length_drop, List.length_append, List.length_cons, List.length_nil, List.length_map, List.length_range, List.length_replicate]; omega)) [-sSeq_r, -sRet_r, -sDrop_r, -sSet_r, -sIf_r, -sPar_r, -sAsg_r, -sSetIx_r, -sFor_r, -gsCons_r, -gT_r, -e1_r, -e2_r, -tV_r, -tAndM_r, -tOrM_r, -tNotM_r, -eAnd_r, -eOr_r, -eNot_r, -eIf_r, -aCons_r, -eN_r, -fCall_r, -eCallK_r, -eM_r, -eSl_r, -oSome_r, -eIsN_r, -eLc_r, -iSeq_r, -iRng_r, r3_l_wish]
          refine fin _ μ1 ⟨_, rfl, .given sn, by simp, fun d hd => ?_⟩ (H1.mono (by omega)) (.oth O1)
          simp only [List.mem_cons, List.not_mem_nil, or_false] at hd
          rcases hd with rfl | rfl
          · exact (Sx.of (by decide)).s2
          · exact sn.s2
end
end LW

namespace LW
open PySem PySem.Spec PyProof.Rows L2 DL
def pT (b : Dv) : Bool := match b with
  | .d (.tuple [_, .str x]) => decide (x.cps.toList = [116, 101, 120, 116])
  | _ => false
def fN (b : Dv) : Dv := match b with
  | .d (.tuple (nm :: _)) => .d nm
  | b => b
theorem get_set {μ : Store} {n : Nat} {c d : Cell} (e : μ[n]? = some d) : (μ.set n c)[n]? = some c := List.getElem?_set_self (lt_of_get e)
theorem Bx.set {h m n : Nat} {μ : Store} {c : Cell} (H : Bx h m μ) (hn : n ≠ h) : Bx h m (μ.set n c) := by
  obtain ⟨a, b, d, e, r⟩ := H
  exact ⟨a, b, d, by rw [List.getElem?_set_ne hn]; exact e, r⟩
theorem Bx.app {h m : Nat} {μ ν : Store} (H : Bx h m μ) : Bx h m (μ ++ ν) := by
  obtain ⟨a, b, d, e, r⟩ := H
  exact ⟨a, b, d, by rw [List.getElem?_append_left (lt_of_get e)]; exact e, r⟩
theorem Nk.app {h nn kn : Nat} {μ ν : Store} {ns ks : List D} (N : Nk h nn kn μ ns ks) : Nk h nn kn (μ ++ ν) ns ks := N.ext (Ext.app h μ ν)
theorem atIlast' (r : List Dv) (x : Dv) : L2.atI (r ++ [x]) (-1) = some x := by
  unfold L2.atI L2.ixN
  rw [if_neg (by decide), if_pos (by simp; omega)]
  have : (-1 + ((r ++ [x]).length : Int)).toNat = r.length := by simp; omega
  show (r ++ [x])[(-1 + ((r ++ [x]).length : Int)).toNat]? = some x
  rw [this]
  simp
/-- the names are longer than three -/
theorem Nk.long {h nn kn : Nat} {μ : Store} {ns ks : List D} (N : Nk h nn kn μ ns ks) : 15 ≤ ns.length := by
  have := N.sum
  have := N.few
  omega
theorem snoc_of {α : Type} {l : List α} (h : 0 < l.length) : ∃ r x, l = r ++ [x] := ⟨l.dropLast, l.getLast (by intro e; rw [e] at h; cases h), (List.dropLast_concat_getLast _).symm⟩
/-- a name taken, a column put to the known ones -/
theorem Nk.grow {h nn kn : Nat} {μ : Store} {ns ks : List D} {x : D} {t : Bool} (N : Nk h nn kn μ (ns ++ [x]) ks) (few : ks.length ≤ 8) : Nk h nn kn ((μ.set nn (.lst (ns.map .d))).set kn (.lst ((ks ++ [PyData.tuple [x, kindS t]]).map .d))) ns (ks ++ [PyData.tuple [x, kindS t]]) := by
  obtain ⟨a, b, c, e1, e2, sx, kk, sum, _, nm, r, hn, e⟩ := N
  have e2' : (μ.set nn (.lst (ns.map .d)))[kn]? = some (.lst (ks.map .d)) := by rw [List.getElem?_set_ne c]; exact e2
  refine ⟨a, b, c, ?_, get_set e2', fun d hd => sx d (List.mem_append_left _ hd), fun d hd => ?_, ?_, by simp; omega, nm, r ++ [PyData.tuple [x, kindS t]], hn, by rw [e]; rfl⟩
  · rw [List.getElem?_set_ne (Ne.symm c)]
    exact get_set e1
  · rcases List.mem_append.mp hd with hd | hd
    · exact kk d hd
    · rw [List.mem_singleton.mp hd]
      exact ⟨x, t, sx x (by simp), rfl⟩
  · simp at sum ⊢
    omega
section
variable {h m nn kn : Nat} {μ : Store} {ns ks fs : List D} {col : D} {lot : Nat} {P : Dv → Store → Prop}
theorem w_deed13 (H : Bx h m μ) (hm : m + 50 ≤ 10 ^ 9) (N : Nk h nn kn μ ns ks) (hc : Sx col) (hf : ∀ d ∈ fs, Sx d) (f0 : 0 < fs.length) (f9 : fs.length ≤ 9) (hl : lot < 5 → ks.length ≤ 6)
    (fin : ∀ d μ' ns' ks', DeedOk d → Bx h (m + 50) μ' → Nk h nn kn μ' ns' ks' → Ex' [h, nn, kn] μ μ' → P (.d d) μ') :
    Wp (r13_l_deed [some (.c h), some (.c nn), some (.c kn), some (.d (.list fs)), some (.d (.int lot)), some (.d col), none, none, none, none, none, none, none, none] μ) (finP P) := by
  have x1 : ∀ {a b : Store}, Ext h a b → Ex' [h, nn, kn] a b := fun x => Ex'.ext (by simp) x
  have x2 : ∀ {a b : Store}, Oth h a b → Ex' [h, nn, kn] a b := fun x => Ex'.ext (by simp) (.oth x)
  have s2 : Sx (.str (T [99, 117, 116])) := Sx.of (by decide)
  have long := N.long
  simp -implicitDefEqProofs (disch := first | (with_reducible assumption) | ((with_reducible show List.length _ = _); rfl) | (simp only [allD_cons, allD_nil, Option.map_some, Option.isSome_some]; done) | (simp only [List.length_cons, List.length_nil, List.length_map]; done) | ((with_reducible refine cMod_of ?_); omega) | ((with_reducible refine cDiv_of ?_ ?_) <;> omega) | ((with_reducible refine okR_of ?_ ?_) <;> omega) | omega | (simp only [List.length_take, List.length_drop, List.length_append, List.length_cons, List.length_nil, List.length_map, List.length_range, List.length_replicate]; omega)) [-sSeq_r, -sRet_r, -sDrop_r, -sSet_r, -sIf_r, -sPar_r, -sAsg_r, -sSetIx_r, -sFor_r, -gsCons_r, -gT_r, -e1_r, -e2_r, -tV_r, -tAndM_r, -tOrM_r, -tNotM_r, -eAnd_r, -eOr_r, -eNot_r, -eIf_r, -aCons_r, -eN_r, -fCall_r, -eCallK_r, -eM_r, -eSl_r, -oSome_r, -eIsN_r, -eLc_r, -iSeq_r, -iRng_r, r13_l_deed]
  refine kIf_s (fun q => ?_) fun q => ?_
  · -- cut
    simp only [decide_eq_true_eq] at q
    have k6 : ks.length ≤ 6 := hl (by omega)
    simp -implicitDefEqProofs (disch := first | (with_reducible assumption) | ((with_reducible show List.length _ = _); rfl) | (simp only [allD_cons, allD_nil, Option.map_some, Option.isSome_some]; done) | (simp only [List.length_cons, List.length_nil, List.length_map]; done) | ((with_reducible refine cMod_of ?_); omega) | ((with_reducible refine cDiv_of ?_ ?_) <;> omega) | ((with_reducible refine okR_of ?_ ?_) <;> omega) | omega | (simp only [List.length_take, List.length_drop, List.length_append, List.length_cons, List.length_nil, List.length_map, List.length_range, List.length_replicate]; omega)) [-sSeq_r, -sRet_r, -sDrop_r, -sSet_r, -sIf_r, -sPar_r, -sAsg_r, -sSetIx_r, -sFor_r, -gsCons_r, -gT_r, -e1_r, -e2_r, -tV_r, -tAndM_r, -tOrM_r, -tNotM_r, -eAnd_r, -eOr_r, -eNot_r, -eIf_r, -aCons_r, -eN_r, -fCall_r, -eCallK_r, -eM_r, -eSl_r, -oSome_r, -eIsN_r, -eLc_r, -iSeq_r, -iRng_r, ]
    refine w_take H (by omega) (by decide) (by decide) fun r μ1 hr H1 O1 => ?_
    have N1 := N.ext (.oth O1)
    obtain ⟨k, ek, hk⟩ : ∃ k : Nat, (2 : Int) + (r : Int) = (k : Int) ∧ k ≤ 3 := ⟨2 + r, by omega, by omega⟩
    simp -implicitDefEqProofs (disch := first | (with_reducible assumption) | ((with_reducible show List.length _ = _); rfl) | (simp only [allD_cons, allD_nil, Option.map_some, Option.isSome_some]; done) | (simp only [List.length_cons, List.length_nil, List.length_map]; done) | ((with_reducible refine cMod_of ?_); omega) | ((with_reducible refine cDiv_of ?_ ?_) <;> omega) | ((with_reducible refine okR_of ?_ ?_) <;> omega) | omega | (simp only [List.length_take, List.length_drop, List.length_append, List.length_cons, List.length_nil, List.length_map, List.length_range, List.length_replicate]; omega)) [-sSeq_r, -sRet_r, -sDrop_r, -sSet_r, -sIf_r, -sPar_r, -sAsg_r, -sSetIx_r, -sFor_r, -gsCons_r, -gT_r, -e1_r, -e2_r, -tV_r, -tAndM_r, -tOrM_r, -tNotM_r, -eAnd_r, -eOr_r, -eNot_r, -eIf_r, -aCons_r, -eN_r, -fCall_r, -eCallK_r, -eM_r, -eSl_r, -oSome_r, -eIsN_r, -eLc_r, -iSeq_r, -iRng_r, ek, rng1_n (show k ≤ 1000000 by omega)]
    refine Wp_lcF (by simp; omega) ?_
    refine Wp_lcM_y (fun j μ' => Bx h (m + 1) μ' ∧ Ex' [h, nn, kn] μ μ' ∧ ∃ ns', ns'.length + j = ns.length ∧ (∀ d ∈ ns', Sx d) ∧ μ'[nn]? = some (.lst (ns'.map .d)) ∧ μ'[kn]? = some (.lst (ks.map .d))) (fun y => ∃ d, y = .d d ∧ Sx d) (i := 0) ⟨H1, x2 O1, ns, rfl, N.sx, N1.e1, N1.e2⟩ (fun j b μ' hb I => ?_) fun ys μ' hl2 hy I => ?_
    · obtain ⟨i, hi, rfl⟩ := mem_rng hb
      have hj : j < 3 := by
        have := (List.getElem?_eq_some_iff.mp hb).1
        simp at this
        omega
      obtain ⟨I1, I2, ns', l', s', a', b'⟩ := I
      obtain ⟨ns2, x, rfl⟩ := snoc_of (l := ns') (by omega)
      have a'' : μ'[nn]? = some (.lst (ns2.map .d ++ [.d x])) := by rw [a', List.map_append]; rfl
      have hL := isLst_c a''
      simp -implicitDefEqProofs (disch := first | (with_reducible assumption) | ((with_reducible show List.length _ = _); rfl) | (simp only [allD_cons, allD_nil, Option.map_some, Option.isSome_some]; done) | (simp only [List.length_cons, List.length_nil, List.length_map]; done) | ((with_reducible refine cMod_of ?_); omega) | ((with_reducible refine cDiv_of ?_ ?_) <;> omega) | ((with_reducible refine okR_of ?_ ?_) <;> omega) | omega | (simp only [List.length_take, List.length_drop, List.length_append, List.length_cons, List.length_nil, List.length_map, List.length_range, List.length_replicate]; omega)) [-sSeq_r, -sRet_r, -sDrop_r, -sSet_r, -sIf_r, -sPar_r, -sAsg_r, -sSetIx_r, -sFor_r, -gsCons_r, -gT_r, -e1_r, -e2_r, -tV_r, -tAndM_r, -tOrM_r, -tNotM_r, -eAnd_r, -eOr_r, -eNot_r, -eIf_r, -aCons_r, -eN_r, -fCall_r, -eCallK_r, -eM_r, -eSl_r, -oSome_r, -eIsN_r, -eLc_r, -iSeq_r, -iRng_r, c2_l_deed, wipeD, dPop_c a'']
      refine ⟨s' x (by simp), I1.set N.a, I2.trans (Ex'.set (by simp)), ns2, by simp at l'; omega, fun d hd => s' d (by simp [hd]), get_set a', ?_⟩
      rw [List.getElem?_set_ne N.c]
      exact b'
    · obtain ⟨I1, I2, ns', l', s', a', b'⟩ := I
      obtain ⟨vs, rfl, hv⟩ := all_d hy
      have lv : vs.length = k := by simpa using hl2
      have l' : ns'.length + k = ns.length := by simpa using l'
      rw [dList_map (by omega)]
      have hL := isLst_c b'
      simp -implicitDefEqProofs (disch := first | (with_reducible assumption) | ((with_reducible show List.length _ = _); rfl) | (simp only [allD_cons, allD_nil, Option.map_some, Option.isSome_some]; done) | (simp only [List.length_cons, List.length_nil, List.length_map]; done) | ((with_reducible refine cMod_of ?_); omega) | ((with_reducible refine cDiv_of ?_ ?_) <;> omega) | ((with_reducible refine okR_of ?_ ?_) <;> omega) | omega | (simp only [List.length_take, List.length_drop, List.length_append, List.length_cons, List.length_nil, List.length_map, List.length_range, List.length_replicate]; omega)) [-sSeq_r, -sRet_r, -sDrop_r, -sSet_r, -sIf_r, -sPar_r, -sAsg_r, -sSetIx_r, -sFor_r, -gsCons_r, -gT_r, -e1_r, -e2_r, -tV_r, -tAndM_r, -tOrM_r, -tNotM_r, -eAnd_r, -eOr_r, -eNot_r, -eIf_r, -aCons_r, -eN_r, -fCall_r, -eCallK_r, -eM_r, -eSl_r, -oSome_r, -eIsN_r, -eLc_r, -iSeq_r, -iRng_r, r2_l_deed]
      refine Wp_lcF (by simp; omega) ?_
      have ec := lcM_map (g := gN 13) (te := c3_l_deed) (ρ := wipeD [some (.c h), some (.c nn), some (.c kn), some (.d (.list fs)), some (.d (.int lot)), some (.d col), some (.d (.list vs)), none, none, none, none, none, none, none] [13]) (μ := μ') (f := fun b => match b with | .d x => .d (.tuple [x, kindS true]) | b => b) (bs := vs.map .d) (by
        intro b hb
        obtain ⟨x, hx, rfl⟩ := List.mem_map.mp hb
        refine ⟨_, rfl, ?_⟩
        simp [c3_l_deed, wipeD, kindS])
      refine Wp_eq ec ?_
      have ev : (vs.map Dv.d).map (fun b => match b with | .d x => Dv.d (.tuple [x, kindS true]) | b => b) = (vs.map fun x => PyData.tuple [x, kindS true]).map .d := by
        rw [List.map_map, List.map_map]; rfl
      rw [ev, cList_c (by simp; omega), Wp_ok]
      have b2 : (μ' ++ [Cell.lst ((vs.map fun x => PyData.tuple [x, kindS true]).map .d)])[kn]? = some (.lst (ks.map .d)) := by rw [List.getElem?_append_left (lt_of_get b')]; exact b'
      have a2 : (μ' ++ [Cell.lst ((vs.map fun x => PyData.tuple [x, kindS true]).map .d)])[nn]? = some (.lst (ns'.map .d)) := by rw [List.getElem?_append_left (lt_of_get a')]; exact a'
      have c2 : (μ' ++ [Cell.lst ((vs.map fun x => PyData.tuple [x, kindS true]).map .d)])[μ'.length]? = some (.lst ((vs.map fun x => PyData.tuple [x, kindS true]).map .d)) := by simp
      generalize hν : μ' ++ [Cell.lst ((vs.map fun x => PyData.tuple [x, kindS true]).map .d)] = ν at *
      have eν : Ex' [h, nn, kn] μ' ν := by rw [← hν]; exact Ex'.app _ _ _
      have hν2 : Bx h (m + 1) ν := by rw [← hν]; exact I1.app
      simp -implicitDefEqProofs (disch := first | (with_reducible assumption) | ((with_reducible show List.length _ = _); rfl) | (simp only [allD_cons, allD_nil, Option.map_some, Option.isSome_some]; done) | (simp only [List.length_cons, List.length_nil, List.length_map]; done) | ((with_reducible refine cMod_of ?_); omega) | ((with_reducible refine cDiv_of ?_ ?_) <;> omega) | ((with_reducible refine okR_of ?_ ?_) <;> omega) | omega | (simp only [List.length_take, List.length_drop, List.length_append, List.length_cons, List.length_nil, List.length_map, List.length_range, List.length_replicate]; omega)) [-sSeq_r, -sRet_r, -sDrop_r, -sSet_r, -sIf_r, -sPar_r, -sAsg_r, -sSetIx_r, -sFor_r, -gsCons_r, -gT_r, -e1_r, -e2_r, -tV_r, -tAndM_r, -tOrM_r, -tNotM_r, -eAnd_r, -eOr_r, -eNot_r, -eIf_r, -aCons_r, -eN_r, -fCall_r, -eCallK_r, -eM_r, -eSl_r, -oSome_r, -eIsN_r, -eLc_r, -iSeq_r, -iRng_r, dExtend_c b2 c2 (by simp; omega), r1_l_deed]
      have N2 : Nk h nn kn (ν.set kn (.lst (ks.map .d ++ (vs.map fun x => PyData.tuple [x, kindS true]).map .d))) ns' (ks ++ vs.map fun x => PyData.tuple [x, kindS true]) := by
        obtain ⟨nm, r, hn, e⟩ := N.fst
        refine ⟨N.a, N.b, N.c, by rw [List.getElem?_set_ne (Ne.symm N.c)]; exact a2, by rw [List.map_append]; exact get_set b2, s', fun d hd => ?_, ?_, by simp; omega, nm, r ++ vs.map fun x => PyData.tuple [x, kindS true], hn, by rw [e]; rfl⟩
        · rcases List.mem_append.mp hd with hd | hd
          · exact N.kk d hd
          · obtain ⟨x, hx, rfl⟩ := List.mem_map.mp hd
            exact ⟨x, true, hv x hx, rfl⟩
        · have := N.sum
          simp
          omega
      refine w_pickS (m := m + 1) (hν2.set N.b) (by omega) (by decide) (by decide) fun c μ3 hc3 H3 O3 => ?_
      have hc4 : c < 128 := by simp at hc3; omega
      simp -implicitDefEqProofs (disch := first | (with_reducible assumption) | ((with_reducible show List.length _ = _); rfl) | (simp only [allD_cons, allD_nil, Option.map_some, Option.isSome_some]; done) | (simp only [List.length_cons, List.length_nil, List.length_map]; done) | ((with_reducible refine cMod_of ?_); omega) | ((with_reducible refine cDiv_of ?_ ?_) <;> omega) | ((with_reducible refine okR_of ?_ ?_) <;> omega) | omega | (simp only [List.length_take, List.length_drop, List.length_append, List.length_cons, List.length_nil, List.length_map, List.length_range, List.length_replicate]; omega)) [-sSeq_r, -sRet_r, -sDrop_r, -sSet_r, -sIf_r, -sPar_r, -sAsg_r, -sSetIx_r, -sFor_r, -gsCons_r, -gT_r, -e1_r, -e2_r, -tV_r, -tAndM_r, -tOrM_r, -tNotM_r, -eAnd_r, -eOr_r, -eNot_r, -eIf_r, -aCons_r, -eN_r, -fCall_r, -eCallK_r, -eM_r, -eSl_r, -oSome_r, -eIsN_r, -eLc_r, -iSeq_r, -iRng_r, dToTup_l]
      refine fin _ μ3 ns' _ ⟨_, rfl, .cut hc (⟨[c], rfl, by simp, by simpa using hc4⟩ : Sx _) hv (by omega), by simp, fun d hd => ?_⟩ (H3.mono (by omega)) (N2.ext (.oth (by rw [List.map_map]; exact O3))) ((I2.trans eν).trans ((Ex'.set (by simp)).trans (x2 O3)))
      simp only [List.mem_cons, List.not_mem_nil, or_false] at hd
      rcases hd with rfl | rfl | rfl | rfl
      · exact (Sx.of (by decide)).s2
      · exact hc.s2
      · exact Sx.s2 ⟨[c], rfl, by simp, by simpa using hc4⟩
      · exact (Sm.tup (n := 3) (c := 202) (k := 0) (fun d hd => (hv d hd).sm) (by omega)).mono (by decide) (by decide)
  · simp -implicitDefEqProofs (disch := first | (with_reducible assumption) | ((with_reducible show List.length _ = _); rfl) | (simp only [allD_cons, allD_nil, Option.map_some, Option.isSome_some]; done) | (simp only [List.length_cons, List.length_nil, List.length_map]; done) | ((with_reducible refine cMod_of ?_); omega) | ((with_reducible refine cDiv_of ?_ ?_) <;> omega) | ((with_reducible refine okR_of ?_ ?_) <;> omega) | omega | (simp only [List.length_take, List.length_drop, List.length_append, List.length_cons, List.length_nil, List.length_map, List.length_range, List.length_replicate]; omega)) [-sSeq_r, -sRet_r, -sDrop_r, -sSet_r, -sIf_r, -sPar_r, -sAsg_r, -sSetIx_r, -sFor_r, -gsCons_r, -gT_r, -e1_r, -e2_r, -tV_r, -tAndM_r, -tOrM_r, -tNotM_r, -eAnd_r, -eOr_r, -eNot_r, -eIf_r, -aCons_r, -eN_r, -fCall_r, -eCallK_r, -eM_r, -eSl_r, -oSome_r, -eIsN_r, -eLc_r, -iSeq_r, -iRng_r, r12_l_deed]
    refine kIf_s (fun q2 => ?_) fun q2 => ?_
    · -- glue
      simp only [decide_eq_true_eq] at q2
      have k6 : ks.length ≤ 6 := hl (by omega)
      simp -implicitDefEqProofs (disch := first | (with_reducible assumption) | ((with_reducible show List.length _ = _); rfl) | (simp only [allD_cons, allD_nil, Option.map_some, Option.isSome_some]; done) | (simp only [List.length_cons, List.length_nil, List.length_map]; done) | ((with_reducible refine cMod_of ?_); omega) | ((with_reducible refine cDiv_of ?_ ?_) <;> omega) | ((with_reducible refine okR_of ?_ ?_) <;> omega) | omega | (simp only [List.length_take, List.length_drop, List.length_append, List.length_cons, List.length_nil, List.length_map, List.length_range, List.length_replicate]; omega)) [-sSeq_r, -sRet_r, -sDrop_r, -sSet_r, -sIf_r, -sPar_r, -sAsg_r, -sSetIx_r, -sFor_r, -gsCons_r, -gT_r, -e1_r, -e2_r, -tV_r, -tAndM_r, -tOrM_r, -tNotM_r, -eAnd_r, -eOr_r, -eNot_r, -eIf_r, -aCons_r, -eN_r, -fCall_r, -eCallK_r, -eM_r, -eSl_r, -oSome_r, -eIsN_r, -eLc_r, -iSeq_r, -iRng_r, ]
      refine w_take H (by omega) (by decide) (by decide) fun r μ1 hr H1 O1 => ?_
      obtain ⟨k, ek, hk⟩ : ∃ k : Nat, (1 : Int) + (r : Int) = (k : Int) ∧ 1 ≤ k ∧ k ≤ 3 := ⟨1 + r, by omega, by omega⟩
      have ec : cutL fs none (some (k : Int)) = fs.take k := by rw [cut_to _ (by omega), Int.toNat_natCast]
      simp -implicitDefEqProofs (disch := first | (with_reducible assumption) | ((with_reducible show List.length _ = _); rfl) | (simp only [allD_cons, allD_nil, Option.map_some, Option.isSome_some]; done) | (simp only [List.length_cons, List.length_nil, List.length_map]; done) | ((with_reducible refine cMod_of ?_); omega) | ((with_reducible refine cDiv_of ?_ ?_) <;> omega) | ((with_reducible refine okR_of ?_ ?_) <;> omega) | omega | (simp only [List.length_take, List.length_drop, List.length_append, List.length_cons, List.length_nil, List.length_map, List.length_range, List.length_replicate]; omega)) [-sSeq_r, -sRet_r, -sDrop_r, -sSet_r, -sIf_r, -sPar_r, -sAsg_r, -sSetIx_r, -sFor_r, -gsCons_r, -gT_r, -e1_r, -e2_r, -tV_r, -tAndM_r, -tOrM_r, -tNotM_r, -eAnd_r, -eOr_r, -eNot_r, -eIf_r, -aCons_r, -eN_r, -fCall_r, -eCallK_r, -eM_r, -eSl_r, -oSome_r, -eIsN_r, -eLc_r, -iSeq_r, -iRng_r, ek, dSl_l, ec]
      have hb : ∀ d ∈ fs.take k, Sx d := fun d hd => hf d (List.mem_of_mem_take hd)
      have lb : 0 < (fs.take k).length ∧ (fs.take k).length ≤ 3 := by rw [List.length_take]; omega
      generalize fs.take k = bs at hb lb
      obtain ⟨j, ej, hj⟩ : ∃ j : Nat, (bs.length : Int) - 1 = (j : Int) ∧ j < 3 := ⟨bs.length - 1, by omega, by omega⟩
      obtain ⟨u, hu, hu2⟩ : ∃ u : Nat, ([.int 4, .int 2, .int 2] : List D)[j]? = some (.int u) ∧ 2 ≤ u ∧ u ≤ 4 := by
        match j, hj with
        | 0, _ => exact ⟨4, rfl, by decide⟩
        | 1, _ => exact ⟨2, rfl, by decide⟩
        | 2, _ => exact ⟨2, rfl, by decide⟩
      simp -implicitDefEqProofs (disch := first | (with_reducible assumption) | ((with_reducible show List.length _ = _); rfl) | (simp only [allD_cons, allD_nil, Option.map_some, Option.isSome_some]; done) | (simp only [List.length_cons, List.length_nil, List.length_map]; done) | ((with_reducible refine cMod_of ?_); omega) | ((with_reducible refine cDiv_of ?_ ?_) <;> omega) | ((with_reducible refine okR_of ?_ ?_) <;> omega) | omega | (simp only [List.length_take, List.length_drop, List.length_append, List.length_cons, List.length_nil, List.length_map, List.length_range, List.length_replicate]; omega)) [-sSeq_r, -sRet_r, -sDrop_r, -sSet_r, -sIf_r, -sPar_r, -sAsg_r, -sSetIx_r, -sFor_r, -gsCons_r, -gT_r, -e1_r, -e2_r, -tV_r, -tAndM_r, -tOrM_r, -tNotM_r, -eAnd_r, -eOr_r, -eNot_r, -eIf_r, -aCons_r, -eN_r, -fCall_r, -eCallK_r, -eM_r, -eSl_r, -oSome_r, -eIsN_r, -eLc_r, -iSeq_r, -iRng_r, r6_l_deed, ej, dIx_l (atI_nn hu)]
      refine w_take H1 (by omega) (by omega) (by omega) fun v μ2 hv H2 O2 => ?_
      obtain ⟨g, eg, hg⟩ : ∃ g : Nat, (1 : Int) + (v : Int) = (g : Int) ∧ g ≤ 4 := ⟨1 + v, by omega, by omega⟩
      simp -implicitDefEqProofs (disch := first | (with_reducible assumption) | ((with_reducible show List.length _ = _); rfl) | (simp only [allD_cons, allD_nil, Option.map_some, Option.isSome_some]; done) | (simp only [List.length_cons, List.length_nil, List.length_map]; done) | ((with_reducible refine cMod_of ?_); omega) | ((with_reducible refine cDiv_of ?_ ?_) <;> omega) | ((with_reducible refine okR_of ?_ ?_) <;> omega) | omega | (simp only [List.length_take, List.length_drop, List.length_append, List.length_cons, List.length_nil, List.length_map, List.length_range, List.length_replicate]; omega)) [-sSeq_r, -sRet_r, -sDrop_r, -sSet_r, -sIf_r, -sPar_r, -sAsg_r, -sSetIx_r, -sFor_r, -gsCons_r, -gT_r, -e1_r, -e2_r, -tV_r, -tAndM_r, -tOrM_r, -tNotM_r, -eAnd_r, -eOr_r, -eNot_r, -eIf_r, -aCons_r, -eN_r, -fCall_r, -eCallK_r, -eM_r, -eSl_r, -oSome_r, -eIsN_r, -eLc_r, -iSeq_r, -iRng_r, eg, r5_l_deed, rng1_n (show g ≤ 1000000 by omega)]
      refine Wp_lcF (by simp; omega) ?_
      refine Wp_lcM_y (fun j μ' => Bx h (m + 2 + j) μ' ∧ Oth h μ μ') (fun y => ∃ d, y = .d d ∧ Sx d) (i := 0) ⟨H2, O1.trans O2⟩ (fun j b μ' hb2 I => ?_) fun ys μ' hl2 hy I => ?_
      · obtain ⟨i, hi, rfl⟩ := mem_rng hb2
        have hj : j < 4 := by
          have := (List.getElem?_eq_some_iff.mp hb2).1
          simp at this
          omega
        simp -implicitDefEqProofs (disch := first | (with_reducible assumption) | ((with_reducible show List.length _ = _); rfl) | (simp only [allD_cons, allD_nil, Option.map_some, Option.isSome_some]; done) | (simp only [List.length_cons, List.length_nil, List.length_map]; done) | ((with_reducible refine cMod_of ?_); omega) | ((with_reducible refine cDiv_of ?_ ?_) <;> omega) | ((with_reducible refine okR_of ?_ ?_) <;> omega) | omega | (simp only [List.length_take, List.length_drop, List.length_append, List.length_cons, List.length_nil, List.length_map, List.length_range, List.length_replicate]; omega)) [-sSeq_r, -sRet_r, -sDrop_r, -sSet_r, -sIf_r, -sPar_r, -sAsg_r, -sSetIx_r, -sFor_r, -gsCons_r, -gT_r, -e1_r, -e2_r, -tV_r, -tAndM_r, -tOrM_r, -tNotM_r, -eAnd_r, -eOr_r, -eNot_r, -eIf_r, -aCons_r, -eN_r, -fCall_r, -eCallK_r, -eM_r, -eSl_r, -oSome_r, -eIsN_r, -eLc_r, -iSeq_r, -iRng_r, c4_l_deed, wipeD]
        refine w_pick I.1 (by omega) lb.1 (by omega) fun e μ3 he H3 O3 => ?_
        simp -implicitDefEqProofs (disch := first | (with_reducible assumption) | ((with_reducible show List.length _ = _); rfl) | (simp only [allD_cons, allD_nil, Option.map_some, Option.isSome_some]; done) | (simp only [List.length_cons, List.length_nil, List.length_map]; done) | ((with_reducible refine cMod_of ?_); omega) | ((with_reducible refine cDiv_of ?_ ?_) <;> omega) | ((with_reducible refine okR_of ?_ ?_) <;> omega) | omega | (simp only [List.length_take, List.length_drop, List.length_append, List.length_cons, List.length_nil, List.length_map, List.length_range, List.length_replicate]; omega)) [-sSeq_r, -sRet_r, -sDrop_r, -sSet_r, -sIf_r, -sPar_r, -sAsg_r, -sSetIx_r, -sFor_r, -gsCons_r, -gT_r, -e1_r, -e2_r, -tV_r, -tAndM_r, -tOrM_r, -tNotM_r, -eAnd_r, -eOr_r, -eNot_r, -eIf_r, -aCons_r, -eN_r, -fCall_r, -eCallK_r, -eM_r, -eSl_r, -oSome_r, -eIsN_r, -eLc_r, -iSeq_r, -iRng_r, ]
        exact ⟨hb e he, H3.mono (by omega), I.2.trans O3⟩
      · obtain ⟨cs, rfl, hcs⟩ := all_d hy
        have lc : cs.length = g := by simpa using hl2
        have N1 := N.ext (.oth I.2)
        have J1 : Bx h (m + 10) μ' := I.1.mono (by simp; omega)
        have J2 := I.2
        obtain ⟨ns2, x, rfl⟩ := snoc_of (l := ns) (by omega)
        have a' : μ'[nn]? = some (.lst (ns2.map .d ++ [.d x])) := by rw [N1.e1, List.map_append]; rfl
        have b1 : (μ'.set nn (.lst (ns2.map .d)))[kn]? = some (.lst (ks.map .d)) := by rw [List.getElem?_set_ne N.c]; exact N1.e2
        rw [dList_map (by omega)]
        have hL1 := isLst_c N1.e2
        have hL2 := isLst_c a'
        simp -implicitDefEqProofs (disch := first | (with_reducible assumption) | ((with_reducible show List.length _ = _); rfl) | (simp only [allD_cons, allD_nil, Option.map_some, Option.isSome_some]; done) | (simp only [List.length_cons, List.length_nil, List.length_map]; done) | ((with_reducible refine cMod_of ?_); omega) | ((with_reducible refine cDiv_of ?_ ?_) <;> omega) | ((with_reducible refine okR_of ?_ ?_) <;> omega) | omega | (simp only [List.length_take, List.length_drop, List.length_append, List.length_cons, List.length_nil, List.length_map, List.length_range, List.length_replicate]; omega)) [-sSeq_r, -sRet_r, -sDrop_r, -sSet_r, -sIf_r, -sPar_r, -sAsg_r, -sSetIx_r, -sFor_r, -gsCons_r, -gT_r, -e1_r, -e2_r, -tV_r, -tAndM_r, -tOrM_r, -tNotM_r, -eAnd_r, -eOr_r, -eNot_r, -eIf_r, -aCons_r, -eN_r, -fCall_r, -eCallK_r, -eM_r, -eSl_r, -oSome_r, -eIsN_r, -eLc_r, -iSeq_r, -iRng_r, r4_l_deed, dPop_c a', dAppend_c b1 (by simp; omega), r3_l_deed, dToTup_l]
        have N2 := N1.grow (t := true) (by omega)
        have e2 : (.lst (ks.map .d ++ [.d (PyData.tuple [x, .str (T [116, 101, 120, 116])])]) : Cell) = .lst ((ks ++ [PyData.tuple [x, kindS true]]).map .d) := by rw [List.map_append]; rfl
        rw [e2]
        generalize hν : (μ'.set nn (.lst (ns2.map .d))).set kn (.lst ((ks ++ [PyData.tuple [x, kindS true]]).map .d)) = ν at N2 ⊢
        have eν : Ex' [h, nn, kn] μ' ν := by rw [← hν]; exact (Ex'.set (by simp)).trans (Ex'.set (by simp))
        have Bν : Bx h (m + 10) ν := by rw [← hν]; exact (J1.set N.a).set N.b
        refine w_pickS Bν (by omega) (by decide) (by decide) fun c μ3 hc3 H3 O3 => ?_
        have hc4 : c < 128 := by simp at hc3; omega
        have N3 := N2.ext (.oth O3)
        have e3 : μ3[kn]? = some (.lst (ks.map .d ++ [.d (.tuple [x, kindS true])])) := by rw [N3.e2, List.map_append]; rfl
        have sx : Sx x := N.sx x (by simp)
        simp -implicitDefEqProofs (disch := first | (with_reducible assumption) | ((with_reducible show List.length _ = _); rfl) | (simp only [allD_cons, allD_nil, Option.map_some, Option.isSome_some]; done) | (simp only [List.length_cons, List.length_nil, List.length_map]; done) | ((with_reducible refine cMod_of ?_); omega) | ((with_reducible refine cDiv_of ?_ ?_) <;> omega) | ((with_reducible refine okR_of ?_ ?_) <;> omega) | omega | (simp only [List.length_take, List.length_drop, List.length_append, List.length_cons, List.length_nil, List.length_map, List.length_range, List.length_replicate]; omega)) [-sSeq_r, -sRet_r, -sDrop_r, -sSet_r, -sIf_r, -sPar_r, -sAsg_r, -sSetIx_r, -sFor_r, -gsCons_r, -gT_r, -e1_r, -e2_r, -tV_r, -tAndM_r, -tOrM_r, -tNotM_r, -eAnd_r, -eOr_r, -eNot_r, -eIf_r, -aCons_r, -eN_r, -fCall_r, -eCallK_r, -eM_r, -eSl_r, -oSome_r, -eIsN_r, -eLc_r, -iSeq_r, -iRng_r, dIx_c e3 (x := .d (.tuple [x, kindS true])) (k := -1) (atIlast' _ _), dIx_t (μ := μ3) (atI0 (x := x) (r := [kindS true]))]
        refine fin _ μ3 ns2 _ ⟨_, rfl, .glue (⟨[c], rfl, by simp, by simpa using hc4⟩ : Sx _) sx hcs (by omega), by simp, fun d hd => ?_⟩ (H3.mono (by omega)) N3 ((x2 J2).trans (eν.trans (x2 O3)))
        simp only [List.mem_cons, List.not_mem_nil, or_false] at hd
        rcases hd with rfl | rfl | rfl | rfl
        · exact (Sx.of (by decide)).s2
        · exact (Sm.tup (n := 4) (c := 202) (k := 0) (fun d hd => (hcs d hd).sm) (by omega)).mono (by decide) (by decide)
        · exact Sx.s2 ⟨[c], rfl, by simp, by simpa using hc4⟩
        · exact sx.s2
    · simp -implicitDefEqProofs (disch := first | (with_reducible assumption) | ((with_reducible show List.length _ = _); rfl) | (simp only [allD_cons, allD_nil, Option.map_some, Option.isSome_some]; done) | (simp only [List.length_cons, List.length_nil, List.length_map]; done) | ((with_reducible refine cMod_of ?_); omega) | ((with_reducible refine cDiv_of ?_ ?_) <;> omega) | ((with_reducible refine okR_of ?_ ?_) <;> omega) | omega | (simp only [List.length_take, List.length_drop, List.length_append, List.length_cons, List.length_nil, List.length_map, List.length_range, List.length_replicate]; omega)) [-sSeq_r, -sRet_r, -sDrop_r, -sSet_r, -sIf_r, -sPar_r, -sAsg_r, -sSetIx_r, -sFor_r, -gsCons_r, -gT_r, -e1_r, -e2_r, -tV_r, -tAndM_r, -tOrM_r, -tNotM_r, -eAnd_r, -eOr_r, -eNot_r, -eIf_r, -aCons_r, -eN_r, -fCall_r, -eCallK_r, -eM_r, -eSl_r, -oSome_r, -eIsN_r, -eLc_r, -iSeq_r, -iRng_r, r11_l_deed]
      refine kIf_s (fun q3 => ?_) fun q3 => ?_
      · -- spell
        simp -implicitDefEqProofs (disch := first | (with_reducible assumption) | ((with_reducible show List.length _ = _); rfl) | (simp only [allD_cons, allD_nil, Option.map_some, Option.isSome_some]; done) | (simp only [List.length_cons, List.length_nil, List.length_map]; done) | ((with_reducible refine cMod_of ?_); omega) | ((with_reducible refine cDiv_of ?_ ?_) <;> omega) | ((with_reducible refine okR_of ?_ ?_) <;> omega) | omega | (simp only [List.length_take, List.length_drop, List.length_append, List.length_cons, List.length_nil, List.length_map, List.length_range, List.length_replicate]; omega)) [-sSeq_r, -sRet_r, -sDrop_r, -sSet_r, -sIf_r, -sPar_r, -sAsg_r, -sSetIx_r, -sFor_r, -gsCons_r, -gT_r, -e1_r, -e2_r, -tV_r, -tAndM_r, -tOrM_r, -tNotM_r, -eAnd_r, -eOr_r, -eNot_r, -eIf_r, -aCons_r, -eN_r, -fCall_r, -eCallK_r, -eM_r, -eSl_r, -oSome_r, -eIsN_r, -eLc_r, -iSeq_r, -iRng_r, ]
        refine w_spell H (by omega) hc fun d μ1 hd H1 E1 => ?_
        simp -implicitDefEqProofs (disch := first | (with_reducible assumption) | ((with_reducible show List.length _ = _); rfl) | (simp only [allD_cons, allD_nil, Option.map_some, Option.isSome_some]; done) | (simp only [List.length_cons, List.length_nil, List.length_map]; done) | ((with_reducible refine cMod_of ?_); omega) | ((with_reducible refine cDiv_of ?_ ?_) <;> omega) | ((with_reducible refine okR_of ?_ ?_) <;> omega) | omega | (simp only [List.length_take, List.length_drop, List.length_append, List.length_cons, List.length_nil, List.length_map, List.length_range, List.length_replicate]; omega)) [-sSeq_r, -sRet_r, -sDrop_r, -sSet_r, -sIf_r, -sPar_r, -sAsg_r, -sSetIx_r, -sFor_r, -gsCons_r, -gT_r, -e1_r, -e2_r, -tV_r, -tAndM_r, -tOrM_r, -tNotM_r, -eAnd_r, -eOr_r, -eNot_r, -eIf_r, -aCons_r, -eN_r, -fCall_r, -eCallK_r, -eM_r, -eSl_r, -oSome_r, -eIsN_r, -eLc_r, -iSeq_r, -iRng_r, ]
        exact fin d μ1 ns ks hd (H1.mono (by omega)) (N.ext E1) (x1 E1)
      · simp -implicitDefEqProofs (disch := first | (with_reducible assumption) | ((with_reducible show List.length _ = _); rfl) | (simp only [allD_cons, allD_nil, Option.map_some, Option.isSome_some]; done) | (simp only [List.length_cons, List.length_nil, List.length_map]; done) | ((with_reducible refine cMod_of ?_); omega) | ((with_reducible refine cDiv_of ?_ ?_) <;> omega) | ((with_reducible refine okR_of ?_ ?_) <;> omega) | omega | (simp only [List.length_take, List.length_drop, List.length_append, List.length_cons, List.length_nil, List.length_map, List.length_range, List.length_replicate]; omega)) [-sSeq_r, -sRet_r, -sDrop_r, -sSet_r, -sIf_r, -sPar_r, -sAsg_r, -sSetIx_r, -sFor_r, -gsCons_r, -gT_r, -e1_r, -e2_r, -tV_r, -tAndM_r, -tOrM_r, -tNotM_r, -eAnd_r, -eOr_r, -eNot_r, -eIf_r, -aCons_r, -eN_r, -fCall_r, -eCallK_r, -eM_r, -eSl_r, -oSome_r, -eIsN_r, -eLc_r, -iSeq_r, -iRng_r, r10_l_deed]
        refine kIf_s (fun q4 => ?_) fun q4 => ?_
        · -- read
          have k6 : ks.length ≤ 6 := hl (by simp at q4; omega)
          obtain ⟨ns2, x, rfl⟩ := snoc_of (l := ns) (by omega)
          have a' : μ[nn]? = some (.lst (ns2.map .d ++ [.d x])) := by rw [N.e1, List.map_append]; rfl
          have b1 : (μ.set nn (.lst (ns2.map .d)))[kn]? = some (.lst (ks.map .d)) := by rw [List.getElem?_set_ne N.c]; exact N.e2
          have hL1 := isLst_c N.e2
          have hL2 := isLst_c a'
          simp -implicitDefEqProofs (disch := first | (with_reducible assumption) | ((with_reducible show List.length _ = _); rfl) | (simp only [allD_cons, allD_nil, Option.map_some, Option.isSome_some]; done) | (simp only [List.length_cons, List.length_nil, List.length_map]; done) | ((with_reducible refine cMod_of ?_); omega) | ((with_reducible refine cDiv_of ?_ ?_) <;> omega) | ((with_reducible refine okR_of ?_ ?_) <;> omega) | omega | (simp only [List.length_take, List.length_drop, List.length_append, List.length_cons, List.length_nil, List.length_map, List.length_range, List.length_replicate]; omega)) [-sSeq_r, -sRet_r, -sDrop_r, -sSet_r, -sIf_r, -sPar_r, -sAsg_r, -sSetIx_r, -sFor_r, -gsCons_r, -gT_r, -e1_r, -e2_r, -tV_r, -tAndM_r, -tOrM_r, -tNotM_r, -eAnd_r, -eOr_r, -eNot_r, -eIf_r, -aCons_r, -eN_r, -fCall_r, -eCallK_r, -eM_r, -eSl_r, -oSome_r, -eIsN_r, -eLc_r, -iSeq_r, -iRng_r, dPop_c a', dAppend_c b1 (by simp; omega), r7_l_deed]
          have N2 := N.grow (t := false) (by omega)
          have e2 : (.lst (ks.map .d ++ [.d (PyData.tuple [x, .str (T [110, 117, 109, 98, 101, 114])])]) : Cell) = .lst ((ks ++ [PyData.tuple [x, kindS false]]).map .d) := by rw [List.map_append]; rfl
          rw [e2]
          generalize hν : (μ.set nn (.lst (ns2.map .d))).set kn (.lst ((ks ++ [PyData.tuple [x, kindS false]]).map .d)) = ν at N2 ⊢
          have eν : Ex' [h, nn, kn] μ ν := by rw [← hν]; exact (Ex'.set (by simp)).trans (Ex'.set (by simp))
          have Bν : Bx h m ν := by rw [← hν]; exact (H.set N.a).set N.b
          refine w_form Bν (by omega) fun f μ3 hf3 H3 E3 => ?_
          have N3 := N2.ext E3
          have sx : Sx x := N.sx x (by simp)
          have e3 : μ3[kn]? = some (.lst (ks.map .d ++ [.d (.tuple [x, kindS false])])) := by rw [N3.e2, List.map_append]; rfl
          simp -implicitDefEqProofs (disch := first | (with_reducible assumption) | ((with_reducible show List.length _ = _); rfl) | (simp only [allD_cons, allD_nil, Option.map_some, Option.isSome_some]; done) | (simp only [List.length_cons, List.length_nil, List.length_map]; done) | ((with_reducible refine cMod_of ?_); omega) | ((with_reducible refine cDiv_of ?_ ?_) <;> omega) | ((with_reducible refine okR_of ?_ ?_) <;> omega) | omega | (simp only [List.length_take, List.length_drop, List.length_append, List.length_cons, List.length_nil, List.length_map, List.length_range, List.length_replicate]; omega)) [-sSeq_r, -sRet_r, -sDrop_r, -sSet_r, -sIf_r, -sPar_r, -sAsg_r, -sSetIx_r, -sFor_r, -gsCons_r, -gT_r, -e1_r, -e2_r, -tV_r, -tAndM_r, -tOrM_r, -tNotM_r, -eAnd_r, -eOr_r, -eNot_r, -eIf_r, -aCons_r, -eN_r, -fCall_r, -eCallK_r, -eM_r, -eSl_r, -oSome_r, -eIsN_r, -eLc_r, -iSeq_r, -iRng_r, dIx_c e3 (x := .d (.tuple [x, kindS false])) (k := -1) (atIlast' _ _), dIx_t (μ := μ3) (atI0 (x := x) (r := [kindS false]))]
          refine fin _ μ3 ns2 _ ⟨_, rfl, .read hc sx, by simp, fun d hd => ?_⟩ (H3.mono (by omega)) N3 (eν.trans (x1 E3))
          simp only [List.mem_cons, List.not_mem_nil, or_false] at hd
          rcases hd with rfl | rfl | rfl | rfl
          · exact (Sx.of (by decide)).s2
          · exact hc.s2
          · exact hf3.mono (by decide) (by decide)
          · exact sx.s2
        · simp -implicitDefEqProofs (disch := first | (with_reducible assumption) | ((with_reducible show List.length _ = _); rfl) | (simp only [allD_cons, allD_nil, Option.map_some, Option.isSome_some]; done) | (simp only [List.length_cons, List.length_nil, List.length_map]; done) | ((with_reducible refine cMod_of ?_); omega) | ((with_reducible refine cDiv_of ?_ ?_) <;> omega) | ((with_reducible refine okR_of ?_ ?_) <;> omega) | omega | (simp only [List.length_take, List.length_drop, List.length_append, List.length_cons, List.length_nil, List.length_map, List.length_range, List.length_replicate]; omega)) [-sSeq_r, -sRet_r, -sDrop_r, -sSet_r, -sIf_r, -sPar_r, -sAsg_r, -sSetIx_r, -sFor_r, -gsCons_r, -gT_r, -e1_r, -e2_r, -tV_r, -tAndM_r, -tOrM_r, -tNotM_r, -eAnd_r, -eOr_r, -eNot_r, -eIf_r, -aCons_r, -eN_r, -fCall_r, -eCallK_r, -eM_r, -eSl_r, -oSome_r, -eIsN_r, -eLc_r, -iSeq_r, -iRng_r, r9_l_deed]
          refine kIf_s (fun q5 => ?_) fun q5 => ?_
          · -- fill
            have hk : 0 < ks.length := by obtain ⟨nm, r, _, e⟩ := N.fst; rw [e]; simp
            simp -implicitDefEqProofs (disch := first | (with_reducible assumption) | ((with_reducible show List.length _ = _); rfl) | (simp only [allD_cons, allD_nil, Option.map_some, Option.isSome_some]; done) | (simp only [List.length_cons, List.length_nil, List.length_map]; done) | ((with_reducible refine cMod_of ?_); omega) | ((with_reducible refine cDiv_of ?_ ?_) <;> omega) | ((with_reducible refine okR_of ?_ ?_) <;> omega) | omega | (simp only [List.length_take, List.length_drop, List.length_append, List.length_cons, List.length_nil, List.length_map, List.length_range, List.length_replicate]; omega)) [-sSeq_r, -sRet_r, -sDrop_r, -sSet_r, -sIf_r, -sPar_r, -sAsg_r, -sSetIx_r, -sFor_r, -gsCons_r, -gT_r, -e1_r, -e2_r, -tV_r, -tAndM_r, -tOrM_r, -tNotM_r, -eAnd_r, -eOr_r, -eNot_r, -eIf_r, -aCons_r, -eN_r, -fCall_r, -eCallK_r, -eM_r, -eSl_r, -oSome_r, -eIsN_r, -eLc_r, -iSeq_r, -iRng_r, ]
            refine w_pickC H (by omega) N.e2 N.b hk (by have := N.few; omega) fun c μ1 hc1 H1 O1 => ?_
            obtain ⟨nm, t, sn, rfl⟩ := N.kk c hc1
            simp -implicitDefEqProofs (disch := first | (with_reducible assumption) | ((with_reducible show List.length _ = _); rfl) | (simp only [allD_cons, allD_nil, Option.map_some, Option.isSome_some]; done) | (simp only [List.length_cons, List.length_nil, List.length_map]; done) | ((with_reducible refine cMod_of ?_); omega) | ((with_reducible refine cDiv_of ?_ ?_) <;> omega) | ((with_reducible refine okR_of ?_ ?_) <;> omega) | omega | (simp only [List.length_take, List.length_drop, List.length_append, List.length_cons, List.length_nil, List.length_map, List.length_range, List.length_replicate]; omega)) [-sSeq_r, -sRet_r, -sDrop_r, -sSet_r, -sIf_r, -sPar_r, -sAsg_r, -sSetIx_r, -sFor_r, -gsCons_r, -gT_r, -e1_r, -e2_r, -tV_r, -tAndM_r, -tOrM_r, -tNotM_r, -eAnd_r, -eOr_r, -eNot_r, -eIf_r, -aCons_r, -eN_r, -fCall_r, -eCallK_r, -eM_r, -eSl_r, -oSome_r, -eIsN_r, -eLc_r, -iSeq_r, -iRng_r, dIx_t (μ := μ1) (atI0 (x := nm) (r := [kindS t]))]
            refine fin _ μ1 ns ks ⟨_, rfl, .fill sn, by simp, fun d hd => ?_⟩ (H1.mono (by omega)) (N.ext (.oth O1)) (x2 O1)
            simp only [List.mem_cons, List.not_mem_nil, or_false] at hd
            rcases hd with rfl | rfl | rfl
            · exact (Sx.of (by decide)).s2
            · exact sn.s2
            · exact (Sm.tup (n := 1) (c := 202) (k := 0) (fun d hd => by cases hd) (by simp)).mono (by decide) (by decide)
          · simp -implicitDefEqProofs (disch := first | (with_reducible assumption) | ((with_reducible show List.length _ = _); rfl) | (simp only [allD_cons, allD_nil, Option.map_some, Option.isSome_some]; done) | (simp only [List.length_cons, List.length_nil, List.length_map]; done) | ((with_reducible refine cMod_of ?_); omega) | ((with_reducible refine cDiv_of ?_ ?_) <;> omega) | ((with_reducible refine okR_of ?_ ?_) <;> omega) | omega | (simp only [List.length_take, List.length_drop, List.length_append, List.length_cons, List.length_nil, List.length_map, List.length_range, List.length_replicate]; omega)) [-sSeq_r, -sRet_r, -sDrop_r, -sSet_r, -sIf_r, -sPar_r, -sAsg_r, -sSetIx_r, -sFor_r, -gsCons_r, -gT_r, -e1_r, -e2_r, -tV_r, -tAndM_r, -tOrM_r, -tNotM_r, -eAnd_r, -eOr_r, -eNot_r, -eIf_r, -aCons_r, -eN_r, -fCall_r, -eCallK_r, -eM_r, -eSl_r, -oSome_r, -eIsN_r, -eLc_r, -iSeq_r, -iRng_r, r8_l_deed]
            refine kEI_s (fun q6 => ?_) fun q6 => ?_
            · simp -implicitDefEqProofs (disch := first | (with_reducible assumption) | ((with_reducible show List.length _ = _); rfl) | (simp only [allD_cons, allD_nil, Option.map_some, Option.isSome_some]; done) | (simp only [List.length_cons, List.length_nil, List.length_map]; done) | ((with_reducible refine cMod_of ?_); omega) | ((with_reducible refine cDiv_of ?_ ?_) <;> omega) | ((with_reducible refine okR_of ?_ ?_) <;> omega) | omega | (simp only [List.length_take, List.length_drop, List.length_append, List.length_cons, List.length_nil, List.length_map, List.length_range, List.length_replicate]; omega)) [-sSeq_r, -sRet_r, -sDrop_r, -sSet_r, -sIf_r, -sPar_r, -sAsg_r, -sSetIx_r, -sFor_r, -gsCons_r, -gT_r, -e1_r, -e2_r, -tV_r, -tAndM_r, -tOrM_r, -tNotM_r, -eAnd_r, -eOr_r, -eNot_r, -eIf_r, -aCons_r, -eN_r, -fCall_r, -eCallK_r, -eM_r, -eSl_r, -oSome_r, -eIsN_r, -eLc_r, -iSeq_r, -iRng_r, ]
              refine w_put H (by omega) N fun d μ1 hd H1 E1 => ?_
              simp -implicitDefEqProofs (disch := first | (with_reducible assumption) | ((with_reducible show List.length _ = _); rfl) | (simp only [allD_cons, allD_nil, Option.map_some, Option.isSome_some]; done) | (simp only [List.length_cons, List.length_nil, List.length_map]; done) | ((with_reducible refine cMod_of ?_); omega) | ((with_reducible refine cDiv_of ?_ ?_) <;> omega) | ((with_reducible refine okR_of ?_ ?_) <;> omega) | omega | (simp only [List.length_take, List.length_drop, List.length_append, List.length_cons, List.length_nil, List.length_map, List.length_range, List.length_replicate]; omega)) [-sSeq_r, -sRet_r, -sDrop_r, -sSet_r, -sIf_r, -sPar_r, -sAsg_r, -sSetIx_r, -sFor_r, -gsCons_r, -gT_r, -e1_r, -e2_r, -tV_r, -tAndM_r, -tOrM_r, -tNotM_r, -eAnd_r, -eOr_r, -eNot_r, -eIf_r, -aCons_r, -eN_r, -fCall_r, -eCallK_r, -eM_r, -eSl_r, -oSome_r, -eIsN_r, -eLc_r, -iSeq_r, -iRng_r, ]
              exact fin d μ1 ns ks hd (H1.mono (by omega)) (N.ext E1) (x1 E1)
            · simp -implicitDefEqProofs (disch := first | (with_reducible assumption) | ((with_reducible show List.length _ = _); rfl) | (simp only [allD_cons, allD_nil, Option.map_some, Option.isSome_some]; done) | (simp only [List.length_cons, List.length_nil, List.length_map]; done) | ((with_reducible refine cMod_of ?_); omega) | ((with_reducible refine cDiv_of ?_ ?_) <;> omega) | ((with_reducible refine okR_of ?_ ?_) <;> omega) | omega | (simp only [List.length_take, List.length_drop, List.length_append, List.length_cons, List.length_nil, List.length_map, List.length_range, List.length_replicate]; omega)) [-sSeq_r, -sRet_r, -sDrop_r, -sSet_r, -sIf_r, -sPar_r, -sAsg_r, -sSetIx_r, -sFor_r, -gsCons_r, -gT_r, -e1_r, -e2_r, -tV_r, -tAndM_r, -tOrM_r, -tNotM_r, -eAnd_r, -eOr_r, -eNot_r, -eIf_r, -aCons_r, -eN_r, -fCall_r, -eCallK_r, -eM_r, -eSl_r, -oSome_r, -eIsN_r, -eLc_r, -iSeq_r, -iRng_r, ]
              refine w_wish H (by omega) N fun d μ1 hd H1 E1 => ?_
              simp -implicitDefEqProofs (disch := first | (with_reducible assumption) | ((with_reducible show List.length _ = _); rfl) | (simp only [allD_cons, allD_nil, Option.map_some, Option.isSome_some]; done) | (simp only [List.length_cons, List.length_nil, List.length_map]; done) | ((with_reducible refine cMod_of ?_); omega) | ((with_reducible refine cDiv_of ?_ ?_) <;> omega) | ((with_reducible refine okR_of ?_ ?_) <;> omega) | omega | (simp only [List.length_take, List.length_drop, List.length_append, List.length_cons, List.length_nil, List.length_map, List.length_range, List.length_replicate]; omega)) [-sSeq_r, -sRet_r, -sDrop_r, -sSet_r, -sIf_r, -sPar_r, -sAsg_r, -sSetIx_r, -sFor_r, -gsCons_r, -gT_r, -e1_r, -e2_r, -tV_r, -tAndM_r, -tOrM_r, -tNotM_r, -eAnd_r, -eOr_r, -eNot_r, -eIf_r, -aCons_r, -eN_r, -fCall_r, -eCallK_r, -eM_r, -eSl_r, -oSome_r, -eIsN_r, -eLc_r, -iSeq_r, -iRng_r, ]
              exact fin d μ1 ns ks hd (H1.mono (by omega)) (N.ext E1) (x1 E1)
theorem w_deed (H : Bx h m μ) (hm : m + 60 ≤ 10 ^ 9) (N : Nk h nn kn μ ns ks)
    (fin : ∀ d μ' ns' ks', DeedOk d → Bx h (m + 60) μ' → Nk h nn kn μ' ns' ks' → Ex' [h, nn, kn] μ μ' → P (.d d) μ') : Wp (F_l_deed [.c h, .c nn, .c kn] μ) P := by
  have x2 : ∀ {a b : Store}, Oth h a b → Ex' [h, nn, kn] a b := fun x => Ex'.ext (by simp) (.oth x)
  have hk9 := N.few
  unfold F_l_deed B_l_deed
  apply Wp_run
  simp -implicitDefEqProofs (disch := first | (with_reducible assumption) | ((with_reducible show List.length _ = _); rfl) | (simp only [allD_cons, allD_nil, Option.map_some, Option.isSome_some]; done) | (simp only [List.length_cons, List.length_nil, List.length_map]; done) | ((with_reducible refine cMod_of ?_); omega) | ((with_reducible refine cDiv_of ?_ ?_) <;> omega) | ((with_reducible refine okR_of ?_ ?_) <;> omega) | omega | (simp only [List.length_take, List.length_drop, List.length_append, List.length_cons, List.length_nil, List.length_map, List.length_range, List.length_replicate]; omega)) [-sSeq_r, -sRet_r, -sDrop_r, -sSet_r, -sIf_r, -sPar_r, -sAsg_r, -sSetIx_r, -sFor_r, -gsCons_r, -gT_r, -e1_r, -e2_r, -tV_r, -tAndM_r, -tOrM_r, -tNotM_r, -eAnd_r, -eOr_r, -eNot_r, -eIf_r, -aCons_r, -eN_r, -fCall_r, -eCallK_r, -eM_r, -eSl_r, -oSome_r, -eIsN_r, -eLc_r, -iSeq_r, -iRng_r, ]
  refine Wp_lcCb (by decide) ?_
  refine Wp_lcC_f pT fN N.e2 (by rw [List.length_map]; omega) (fun b hb => ?_) ?_
  · obtain ⟨e, he, rfl⟩ := List.mem_map.mp hb
    obtain ⟨nm, t, sn, rfl⟩ := N.kk e he
    cases t <;> simp -implicitDefEqProofs (disch := first | (with_reducible assumption) | ((with_reducible show List.length _ = _); rfl) | (simp only [allD_cons, allD_nil, Option.map_some, Option.isSome_some]; done) | (simp only [List.length_cons, List.length_nil, List.length_map]; done) | ((with_reducible refine cMod_of ?_); omega) | ((with_reducible refine cDiv_of ?_ ?_) <;> omega) | ((with_reducible refine okR_of ?_ ?_) <;> omega) | omega | (simp only [List.length_take, List.length_drop, List.length_append, List.length_cons, List.length_nil, List.length_map, List.length_range, List.length_replicate]; omega)) [-sSeq_r, -sRet_r, -sDrop_r, -sSet_r, -sIf_r, -sPar_r, -sAsg_r, -sSetIx_r, -sFor_r, -gsCons_r, -gT_r, -e1_r, -e2_r, -tV_r, -tAndM_r, -tOrM_r, -tNotM_r, -eAnd_r, -eOr_r, -eNot_r, -eIf_r, -aCons_r, -eN_r, -fCall_r, -eCallK_r, -eM_r, -eSl_r, -oSome_r, -eIsN_r, -eLc_r, -iSeq_r, -iRng_r, wipeD, t1_l_deed, c1_l_deed, kindS] <;> simp [pT, fN, T]
  · obtain ⟨fs, ef, hf, f0, f9⟩ : ∃ fs : List D, (((ks.map Dv.d).drop 0).filter pT).map fN = fs.map .d ∧ (∀ d ∈ fs, Sx d) ∧ 0 < fs.length ∧ fs.length ≤ 9 := by
      obtain ⟨fs, ef, hf⟩ := all_d (R := Sx) (ys := (((ks.map Dv.d).drop 0).filter pT).map fN) (fun y hy => by
        obtain ⟨b, hb, rfl⟩ := List.mem_map.mp hy
        rw [List.mem_filter, List.drop_zero, List.mem_map] at hb
        obtain ⟨⟨e, he, rfl⟩, _⟩ := hb
        obtain ⟨nm, t, sn, rfl⟩ := N.kk e he
        exact ⟨nm, by cases t <;> rfl, sn⟩)
      have lf := congrArg List.length ef
      rw [List.length_map, List.length_map] at lf
      have le := List.length_filter_le pT ((ks.map Dv.d).drop 0)
      rw [List.length_drop, List.length_map] at le
      refine ⟨fs, ef, hf, ?_, by omega⟩
      obtain ⟨nm, r, _, e⟩ := N.fst
      rw [← lf, e, List.drop_zero, List.map_cons, List.filter_cons_of_pos (by simp [pT, kindS, T])]
      simp
    rw [ef, dList_map (by omega)]
    simp -implicitDefEqProofs (disch := first | (with_reducible assumption) | ((with_reducible show List.length _ = _); rfl) | (simp only [allD_cons, allD_nil, Option.map_some, Option.isSome_some]; done) | (simp only [List.length_cons, List.length_nil, List.length_map]; done) | ((with_reducible refine cMod_of ?_); omega) | ((with_reducible refine cDiv_of ?_ ?_) <;> omega) | ((with_reducible refine okR_of ?_ ?_) <;> omega) | omega | (simp only [List.length_take, List.length_drop, List.length_append, List.length_cons, List.length_nil, List.length_map, List.length_range, List.length_replicate]; omega)) [-sSeq_r, -sRet_r, -sDrop_r, -sSet_r, -sIf_r, -sPar_r, -sAsg_r, -sSetIx_r, -sFor_r, -gsCons_r, -gT_r, -e1_r, -e2_r, -tV_r, -tAndM_r, -tOrM_r, -tNotM_r, -eAnd_r, -eOr_r, -eNot_r, -eIf_r, -aCons_r, -eN_r, -fCall_r, -eCallK_r, -eM_r, -eSl_r, -oSome_r, -eIsN_r, -eLc_r, -iSeq_r, -iRng_r, r15_l_deed]
    refine w_take H (by omega) (by decide) (by decide) fun r μ1 hr H1 O1 => ?_
    simp -implicitDefEqProofs (disch := first | (with_reducible assumption) | ((with_reducible show List.length _ = _); rfl) | (simp only [allD_cons, allD_nil, Option.map_some, Option.isSome_some]; done) | (simp only [List.length_cons, List.length_nil, List.length_map]; done) | ((with_reducible refine cMod_of ?_); omega) | ((with_reducible refine cDiv_of ?_ ?_) <;> omega) | ((with_reducible refine okR_of ?_ ?_) <;> omega) | omega | (simp only [List.length_take, List.length_drop, List.length_append, List.length_cons, List.length_nil, List.length_map, List.length_range, List.length_replicate]; omega)) [-sSeq_r, -sRet_r, -sDrop_r, -sSet_r, -sIf_r, -sPar_r, -sAsg_r, -sSetIx_r, -sFor_r, -gsCons_r, -gT_r, -e1_r, -e2_r, -tV_r, -tAndM_r, -tOrM_r, -tNotM_r, -eAnd_r, -eOr_r, -eNot_r, -eIf_r, -aCons_r, -eN_r, -fCall_r, -eCallK_r, -eM_r, -eSl_r, -oSome_r, -eIsN_r, -eLc_r, -iSeq_r, -iRng_r, ]
    refine w_pick H1 (by omega) f0 (by omega) fun c μ2 hc H2 O2 => ?_
    have N2 := N.ext (.oth (O1.trans O2))
    have E2 := x2 (O1.trans O2)
    have go : ∀ lot : Nat, (lot < 5 → ks.length ≤ 6) → Wp (r13_l_deed [some (.c h), some (.c nn), some (.c kn), some (.d (.list fs)), some (.d (.int lot)), some (.d c), none, none, none, none, none, none, none, none] μ2) (finP P) := fun lot hl =>
      w_deed13 H2 (by omega) N2 (hf c hc) hf f0 f9 hl fun d μ' ns' ks' a1 a2 a3 a4 => fin d μ' ns' ks' a1 (a2.mono (by omega)) a3 (E2.trans a4)
    simp -implicitDefEqProofs (disch := first | (with_reducible assumption) | ((with_reducible show List.length _ = _); rfl) | (simp only [allD_cons, allD_nil, Option.map_some, Option.isSome_some]; done) | (simp only [List.length_cons, List.length_nil, List.length_map]; done) | ((with_reducible refine cMod_of ?_); omega) | ((with_reducible refine cDiv_of ?_ ?_) <;> omega) | ((with_reducible refine okR_of ?_ ?_) <;> omega) | omega | (simp only [List.length_take, List.length_drop, List.length_append, List.length_cons, List.length_nil, List.length_map, List.length_range, List.length_replicate]; omega)) [-sSeq_r, -sRet_r, -sDrop_r, -sSet_r, -sIf_r, -sPar_r, -sAsg_r, -sSetIx_r, -sFor_r, -gsCons_r, -gT_r, -e1_r, -e2_r, -tV_r, -tAndM_r, -tOrM_r, -tNotM_r, -eAnd_r, -eOr_r, -eNot_r, -eIf_r, -aCons_r, -eN_r, -fCall_r, -eCallK_r, -eM_r, -eSl_r, -oSome_r, -eIsN_r, -eLc_r, -iSeq_r, -iRng_r, r14_l_deed, dLen_c N2.e2]
    refine kAnd_s (fun q => ?_) fun q => ?_
    · simp -implicitDefEqProofs (disch := first | (with_reducible assumption) | ((with_reducible show List.length _ = _); rfl) | (simp only [allD_cons, allD_nil, Option.map_some, Option.isSome_some]; done) | (simp only [List.length_cons, List.length_nil, List.length_map]; done) | ((with_reducible refine cMod_of ?_); omega) | ((with_reducible refine cDiv_of ?_ ?_) <;> omega) | ((with_reducible refine okR_of ?_ ?_) <;> omega) | omega | (simp only [List.length_take, List.length_drop, List.length_append, List.length_cons, List.length_nil, List.length_map, List.length_range, List.length_replicate]; omega)) [-sSeq_r, -sRet_r, -sDrop_r, -sSet_r, -sIf_r, -sPar_r, -sAsg_r, -sSetIx_r, -sFor_r, -gsCons_r, -gT_r, -e1_r, -e2_r, -tV_r, -tAndM_r, -tOrM_r, -tNotM_r, -eAnd_r, -eOr_r, -eNot_r, -eIf_r, -aCons_r, -eN_r, -fCall_r, -eCallK_r, -eM_r, -eSl_r, -oSome_r, -eIsN_r, -eLc_r, -iSeq_r, -iRng_r, ]
      refine kIf_s (fun q2 => ?_) fun q2 => ?_
      · obtain ⟨g, eg, hg⟩ : ∃ g : Nat, (8 : Int) + (r : Int) = (g : Int) ∧ 5 ≤ g := ⟨8 + r, by omega, by omega⟩
        simp -implicitDefEqProofs (disch := first | (with_reducible assumption) | ((with_reducible show List.length _ = _); rfl) | (simp only [allD_cons, allD_nil, Option.map_some, Option.isSome_some]; done) | (simp only [List.length_cons, List.length_nil, List.length_map]; done) | ((with_reducible refine cMod_of ?_); omega) | ((with_reducible refine cDiv_of ?_ ?_) <;> omega) | ((with_reducible refine okR_of ?_ ?_) <;> omega) | omega | (simp only [List.length_take, List.length_drop, List.length_append, List.length_cons, List.length_nil, List.length_map, List.length_range, List.length_replicate]; omega)) [-sSeq_r, -sRet_r, -sDrop_r, -sSet_r, -sIf_r, -sPar_r, -sAsg_r, -sSetIx_r, -sFor_r, -gsCons_r, -gT_r, -e1_r, -e2_r, -tV_r, -tAndM_r, -tOrM_r, -tNotM_r, -eAnd_r, -eOr_r, -eNot_r, -eIf_r, -aCons_r, -eN_r, -fCall_r, -eCallK_r, -eM_r, -eSl_r, -oSome_r, -eIsN_r, -eLc_r, -iSeq_r, -iRng_r, eg]
        exact go g (by omega)
      · simp -implicitDefEqProofs (disch := first | (with_reducible assumption) | ((with_reducible show List.length _ = _); rfl) | (simp only [allD_cons, allD_nil, Option.map_some, Option.isSome_some]; done) | (simp only [List.length_cons, List.length_nil, List.length_map]; done) | ((with_reducible refine cMod_of ?_); omega) | ((with_reducible refine cDiv_of ?_ ?_) <;> omega) | ((with_reducible refine okR_of ?_ ?_) <;> omega) | omega | (simp only [List.length_take, List.length_drop, List.length_append, List.length_cons, List.length_nil, List.length_map, List.length_range, List.length_replicate]; omega)) [-sSeq_r, -sRet_r, -sDrop_r, -sSet_r, -sIf_r, -sPar_r, -sAsg_r, -sSetIx_r, -sFor_r, -gsCons_r, -gT_r, -e1_r, -e2_r, -tV_r, -tAndM_r, -tOrM_r, -tNotM_r, -eAnd_r, -eOr_r, -eNot_r, -eIf_r, -aCons_r, -eN_r, -fCall_r, -eCallK_r, -eM_r, -eSl_r, -oSome_r, -eIsN_r, -eLc_r, -iSeq_r, -iRng_r, ]
        refine go r fun z => ?_
        simp at q2
        omega
    · simp -implicitDefEqProofs (disch := first | (with_reducible assumption) | ((with_reducible show List.length _ = _); rfl) | (simp only [allD_cons, allD_nil, Option.map_some, Option.isSome_some]; done) | (simp only [List.length_cons, List.length_nil, List.length_map]; done) | ((with_reducible refine cMod_of ?_); omega) | ((with_reducible refine cDiv_of ?_ ?_) <;> omega) | ((with_reducible refine okR_of ?_ ?_) <;> omega) | omega | (simp only [List.length_take, List.length_drop, List.length_append, List.length_cons, List.length_nil, List.length_map, List.length_range, List.length_replicate]; omega)) [-sSeq_r, -sRet_r, -sDrop_r, -sSet_r, -sIf_r, -sPar_r, -sAsg_r, -sSetIx_r, -sFor_r, -gsCons_r, -gT_r, -e1_r, -e2_r, -tV_r, -tAndM_r, -tOrM_r, -tNotM_r, -eAnd_r, -eOr_r, -eNot_r, -eIf_r, -aCons_r, -eN_r, -fCall_r, -eCallK_r, -eM_r, -eSl_r, -oSome_r, -eIsN_r, -eLc_r, -iSeq_r, -iRng_r, ]
      refine go r fun z => ?_
      simp at q
      omega
end
end LW

namespace LW
open PySem PySem.Spec PyProof.Rows L2 DL
/-- a step -/
def St (s : D) : Prop := ∃ n ds, s = .tuple (n :: ds) ∧ Sx n ∧ Deed ds ∧ ds.length ≤ 5 ∧ ∀ e ∈ ds, Sm 2 2500 e
/-- a pair of names -/
def Pr (b : D) : Prop := ∃ x y, b = .tuple [x, y] ∧ Sx x ∧ Sx y
theorem dToList_t {ds : List D} {μ : Store} (h : ds.length ≤ 16000000) : dToList dList [.d (.tuple ds)] μ = .ok (.d (.list ds)) μ := by
  show dList (ds.map .d) μ = _
  exact dList_map h
theorem dToList_l {ds : List D} {μ : Store} (h : ds.length ≤ 16000000) : dToList dList [.d (.list ds)] μ = .ok (.d (.list ds)) μ := by
  show dList (ds.map .d) μ = _
  exact dList_map h
theorem dIx2 {n w x : D} {r : List D} {μ : Store} : dIx (.d (.tuple (n :: w :: x :: r))) (.d (.int 2)) μ = .ok (.d x) μ := dIx_t (atI_nn (k := 2) rfl)
theorem dIx3 {n w x y : D} {r : List D} {μ : Store} : dIx (.d (.tuple (n :: w :: x :: y :: r))) (.d (.int 3)) μ = .ok (.d y) μ := dIx_t (atI_nn (k := 3) rfl)
theorem dIx4 {n w x y z : D} {r : List D} {μ : Store} : dIx (.d (.tuple (n :: w :: x :: y :: z :: r))) (.d (.int 4)) μ = .ok (.d z) μ := dIx_t (atI_nn (k := 4) rfl)
theorem dIx1 {n w : D} {r : List D} {μ : Store} : dIx (.d (.tuple (n :: w :: r))) (.d (.int 1)) μ = .ok (.d w) μ := dIx_t (atI_nn (k := 1) rfl)
theorem dIx0 {n : D} {r : List D} {μ : Store} : dIx (.d (.tuple (n :: r))) (.d (.int 0)) μ = .ok (.d n) μ := dIx_t (atI_nn (k := 0) rfl)
theorem dIxl0 {n : D} {r : List D} {μ : Store} : dIx (.d (.list (n :: r))) (.d (.int 0)) μ = .ok (.d n) μ := dIx_l (atI_nn (k := 0) rfl)
theorem dIxl1 {n w : D} {r : List D} {μ : Store} : dIx (.d (.list (n :: w :: r))) (.d (.int 1)) μ = .ok (.d w) μ := dIx_l (atI_nn (k := 1) rfl)
section
variable {μ : Store} {P : Dv → Store → Prop}
theorem w_touches {s : D} (hs : St s) (fin : ∀ rs ws : List D, (∀ d ∈ rs, Sx d) → (∀ d ∈ ws, Sx d) → rs.length ≤ 20 → ws.length ≤ 20 → P (.d (.list [.list rs, .list ws])) μ) : Wp (F_l_touches [.d s] μ) P := by
  obtain ⟨n, ds, rfl, hn, hd, _, _⟩ := hs
  have ex : Sx (.str (T [33])) := Sx.of (by decide)
  have one : ∀ {c : D}, Sx c → ∀ d ∈ [c], Sx d := fun hc d hd => by rw [List.mem_singleton.mp hd]; exact hc
  have two : ∀ {c e : D}, Sx c → Sx e → ∀ d ∈ [c, e], Sx d := fun hc he d hd => by
    simp only [List.mem_cons, List.not_mem_nil, or_false] at hd
    rcases hd with rfl | rfl
    · exact hc
    · exact he
  unfold F_l_touches B_l_touches
  apply Wp_run
  cases hd with
  | cut hc hs hns l =>
    simp -implicitDefEqProofs (disch := first | (with_reducible assumption) | ((with_reducible show List.length _ = _); rfl) | (simp only [allD_cons, allD_nil, Option.map_some, Option.isSome_some]; done) | (simp only [List.length_cons, List.length_nil, List.length_map]; done) | ((with_reducible refine cMod_of ?_); omega) | ((with_reducible refine cDiv_of ?_ ?_) <;> omega) | ((with_reducible refine okR_of ?_ ?_) <;> omega) | omega | (simp only [List.length_take, List.length_drop, List.length_append, List.length_cons, List.length_nil, List.length_map, List.length_range, List.length_replicate]; omega)) [-sSeq_r, -sRet_r, -sDrop_r, -sSet_r, -sIf_r, -sPar_r, -sAsg_r, -sSetIx_r, -sFor_r, -gsCons_r, -gT_r, -e1_r, -e2_r, -tV_r, -tAndM_r, -tOrM_r, -tNotM_r, -eAnd_r, -eOr_r, -eNot_r, -eIf_r, -aCons_r, -eN_r, -fCall_r, -eCallK_r, -eM_r, -eSl_r, -oSome_r, -eIsN_r, -eLc_r, -iSeq_r, -iRng_r, dIx0, dIx1, dIx2, dIx3, dIx4, r6_l_touches, dToList_t, dAdd_ll]
    exact fin _ _ (one hc) (fun d hd => by
      rcases List.mem_append.mp hd with hd | hd
      · exact hns d hd
      · exact one ex d hd) (by simp) (by simp; omega)
  | glue hs hn2 hcs l =>
    simp -implicitDefEqProofs (disch := first | (with_reducible assumption) | ((with_reducible show List.length _ = _); rfl) | (simp only [allD_cons, allD_nil, Option.map_some, Option.isSome_some]; done) | (simp only [List.length_cons, List.length_nil, List.length_map]; done) | ((with_reducible refine cMod_of ?_); omega) | ((with_reducible refine cDiv_of ?_ ?_) <;> omega) | ((with_reducible refine okR_of ?_ ?_) <;> omega) | omega | (simp only [List.length_take, List.length_drop, List.length_append, List.length_cons, List.length_nil, List.length_map, List.length_range, List.length_replicate]; omega)) [-sSeq_r, -sRet_r, -sDrop_r, -sSet_r, -sIf_r, -sPar_r, -sAsg_r, -sSetIx_r, -sFor_r, -gsCons_r, -gT_r, -e1_r, -e2_r, -tV_r, -tAndM_r, -tOrM_r, -tNotM_r, -eAnd_r, -eOr_r, -eNot_r, -eIf_r, -aCons_r, -eN_r, -fCall_r, -eCallK_r, -eM_r, -eSl_r, -oSome_r, -eIsN_r, -eLc_r, -iSeq_r, -iRng_r, dIx0, dIx1, dIx2, dIx3, dIx4, r6_l_touches, r5_l_touches, dToList_t, dAdd_ll]
    exact fin _ _ hcs (one hn2) (by omega) (by simp)
  | spell hc =>
    simp -implicitDefEqProofs (disch := first | (with_reducible assumption) | ((with_reducible show List.length _ = _); rfl) | (simp only [allD_cons, allD_nil, Option.map_some, Option.isSome_some]; done) | (simp only [List.length_cons, List.length_nil, List.length_map]; done) | ((with_reducible refine cMod_of ?_); omega) | ((with_reducible refine cDiv_of ?_ ?_) <;> omega) | ((with_reducible refine okR_of ?_ ?_) <;> omega) | omega | (simp only [List.length_take, List.length_drop, List.length_append, List.length_cons, List.length_nil, List.length_map, List.length_range, List.length_replicate]; omega)) [-sSeq_r, -sRet_r, -sDrop_r, -sSet_r, -sIf_r, -sPar_r, -sAsg_r, -sSetIx_r, -sFor_r, -gsCons_r, -gT_r, -e1_r, -e2_r, -tV_r, -tAndM_r, -tOrM_r, -tNotM_r, -eAnd_r, -eOr_r, -eNot_r, -eIf_r, -aCons_r, -eN_r, -fCall_r, -eCallK_r, -eM_r, -eSl_r, -oSome_r, -eIsN_r, -eLc_r, -iSeq_r, -iRng_r, dIx0, dIx1, dIx2, dIx3, dIx4, r6_l_touches, r5_l_touches, r4_l_touches, r3_l_touches, dToList_t, dAdd_ll]
    exact fin _ _ (one hc) (one hc) (by simp) (by simp)
  | read hc hn2 =>
    simp -implicitDefEqProofs (disch := first | (with_reducible assumption) | ((with_reducible show List.length _ = _); rfl) | (simp only [allD_cons, allD_nil, Option.map_some, Option.isSome_some]; done) | (simp only [List.length_cons, List.length_nil, List.length_map]; done) | ((with_reducible refine cMod_of ?_); omega) | ((with_reducible refine cDiv_of ?_ ?_) <;> omega) | ((with_reducible refine okR_of ?_ ?_) <;> omega) | omega | (simp only [List.length_take, List.length_drop, List.length_append, List.length_cons, List.length_nil, List.length_map, List.length_range, List.length_replicate]; omega)) [-sSeq_r, -sRet_r, -sDrop_r, -sSet_r, -sIf_r, -sPar_r, -sAsg_r, -sSetIx_r, -sFor_r, -gsCons_r, -gT_r, -e1_r, -e2_r, -tV_r, -tAndM_r, -tOrM_r, -tNotM_r, -eAnd_r, -eOr_r, -eNot_r, -eIf_r, -aCons_r, -eN_r, -fCall_r, -eCallK_r, -eM_r, -eSl_r, -oSome_r, -eIsN_r, -eLc_r, -iSeq_r, -iRng_r, dIx0, dIx1, dIx2, dIx3, dIx4, r6_l_touches, r5_l_touches, r4_l_touches, r3_l_touches, dToList_t, dAdd_ll]
    exact fin _ _ (one hc) (two hn2 ex) (by simp) (by simp)
  | fill hc =>
    simp -implicitDefEqProofs (disch := first | (with_reducible assumption) | ((with_reducible show List.length _ = _); rfl) | (simp only [allD_cons, allD_nil, Option.map_some, Option.isSome_some]; done) | (simp only [List.length_cons, List.length_nil, List.length_map]; done) | ((with_reducible refine cMod_of ?_); omega) | ((with_reducible refine cDiv_of ?_ ?_) <;> omega) | ((with_reducible refine okR_of ?_ ?_) <;> omega) | omega | (simp only [List.length_take, List.length_drop, List.length_append, List.length_cons, List.length_nil, List.length_map, List.length_range, List.length_replicate]; omega)) [-sSeq_r, -sRet_r, -sDrop_r, -sSet_r, -sIf_r, -sPar_r, -sAsg_r, -sSetIx_r, -sFor_r, -gsCons_r, -gT_r, -e1_r, -e2_r, -tV_r, -tAndM_r, -tOrM_r, -tNotM_r, -eAnd_r, -eOr_r, -eNot_r, -eIf_r, -aCons_r, -eN_r, -fCall_r, -eCallK_r, -eM_r, -eSl_r, -oSome_r, -eIsN_r, -eLc_r, -iSeq_r, -iRng_r, dIx0, dIx1, dIx2, dIx3, dIx4, r6_l_touches, r5_l_touches, r4_l_touches, r3_l_touches, r2_l_touches, dToList_t, dAdd_ll]
    exact fin _ _ (two hc ex) (one hc) (by simp) (by simp)
  | put hc =>
    simp -implicitDefEqProofs (disch := first | (with_reducible assumption) | ((with_reducible show List.length _ = _); rfl) | (simp only [allD_cons, allD_nil, Option.map_some, Option.isSome_some]; done) | (simp only [List.length_cons, List.length_nil, List.length_map]; done) | ((with_reducible refine cMod_of ?_); omega) | ((with_reducible refine cDiv_of ?_ ?_) <;> omega) | ((with_reducible refine okR_of ?_ ?_) <;> omega) | omega | (simp only [List.length_take, List.length_drop, List.length_append, List.length_cons, List.length_nil, List.length_map, List.length_range, List.length_replicate]; omega)) [-sSeq_r, -sRet_r, -sDrop_r, -sSet_r, -sIf_r, -sPar_r, -sAsg_r, -sSetIx_r, -sFor_r, -gsCons_r, -gT_r, -e1_r, -e2_r, -tV_r, -tAndM_r, -tOrM_r, -tNotM_r, -eAnd_r, -eOr_r, -eNot_r, -eIf_r, -aCons_r, -eN_r, -fCall_r, -eCallK_r, -eM_r, -eSl_r, -oSome_r, -eIsN_r, -eLc_r, -iSeq_r, -iRng_r, dIx0, dIx1, dIx2, dIx3, dIx4, r6_l_touches, r5_l_touches, r4_l_touches, r3_l_touches, dToList_t, dAdd_ll]
    exact fin _ _ (one hc) (one hc) (by simp) (by simp)
  | within hc =>
    simp -implicitDefEqProofs (disch := first | (with_reducible assumption) | ((with_reducible show List.length _ = _); rfl) | (simp only [allD_cons, allD_nil, Option.map_some, Option.isSome_some]; done) | (simp only [List.length_cons, List.length_nil, List.length_map]; done) | ((with_reducible refine cMod_of ?_); omega) | ((with_reducible refine cDiv_of ?_ ?_) <;> omega) | ((with_reducible refine okR_of ?_ ?_) <;> omega) | omega | (simp only [List.length_take, List.length_drop, List.length_append, List.length_cons, List.length_nil, List.length_map, List.length_range, List.length_replicate]; omega)) [-sSeq_r, -sRet_r, -sDrop_r, -sSet_r, -sIf_r, -sPar_r, -sAsg_r, -sSetIx_r, -sFor_r, -gsCons_r, -gT_r, -e1_r, -e2_r, -tV_r, -tAndM_r, -tOrM_r, -tNotM_r, -eAnd_r, -eOr_r, -eNot_r, -eIf_r, -aCons_r, -eN_r, -fCall_r, -eCallK_r, -eM_r, -eSl_r, -oSome_r, -eIsN_r, -eLc_r, -iSeq_r, -iRng_r, dIx0, dIx1, dIx2, dIx3, dIx4, r6_l_touches, r5_l_touches, r4_l_touches, r3_l_touches, r2_l_touches, r1_l_touches, dToList_t, dAdd_ll]
    exact fin _ _ (one hc) (one ex) (by simp) (by simp)
  | among hc =>
    simp -implicitDefEqProofs (disch := first | (with_reducible assumption) | ((with_reducible show List.length _ = _); rfl) | (simp only [allD_cons, allD_nil, Option.map_some, Option.isSome_some]; done) | (simp only [List.length_cons, List.length_nil, List.length_map]; done) | ((with_reducible refine cMod_of ?_); omega) | ((with_reducible refine cDiv_of ?_ ?_) <;> omega) | ((with_reducible refine okR_of ?_ ?_) <;> omega) | omega | (simp only [List.length_take, List.length_drop, List.length_append, List.length_cons, List.length_nil, List.length_map, List.length_range, List.length_replicate]; omega)) [-sSeq_r, -sRet_r, -sDrop_r, -sSet_r, -sIf_r, -sPar_r, -sAsg_r, -sSetIx_r, -sFor_r, -gsCons_r, -gT_r, -e1_r, -e2_r, -tV_r, -tAndM_r, -tOrM_r, -tNotM_r, -eAnd_r, -eOr_r, -eNot_r, -eIf_r, -aCons_r, -eN_r, -fCall_r, -eCallK_r, -eM_r, -eSl_r, -oSome_r, -eIsN_r, -eLc_r, -iSeq_r, -iRng_r, dIx0, dIx1, dIx2, dIx3, dIx4, r6_l_touches, r5_l_touches, r4_l_touches, r3_l_touches, r2_l_touches, r1_l_touches, dToList_t, dAdd_ll]
    exact fin _ _ (one hc) (one ex) (by simp) (by simp)
  | before hc he =>
    simp -implicitDefEqProofs (disch := first | (with_reducible assumption) | ((with_reducible show List.length _ = _); rfl) | (simp only [allD_cons, allD_nil, Option.map_some, Option.isSome_some]; done) | (simp only [List.length_cons, List.length_nil, List.length_map]; done) | ((with_reducible refine cMod_of ?_); omega) | ((with_reducible refine cDiv_of ?_ ?_) <;> omega) | ((with_reducible refine okR_of ?_ ?_) <;> omega) | omega | (simp only [List.length_take, List.length_drop, List.length_append, List.length_cons, List.length_nil, List.length_map, List.length_range, List.length_replicate]; omega)) [-sSeq_r, -sRet_r, -sDrop_r, -sSet_r, -sIf_r, -sPar_r, -sAsg_r, -sSetIx_r, -sFor_r, -gsCons_r, -gT_r, -e1_r, -e2_r, -tV_r, -tAndM_r, -tOrM_r, -tNotM_r, -eAnd_r, -eOr_r, -eNot_r, -eIf_r, -aCons_r, -eN_r, -fCall_r, -eCallK_r, -eM_r, -eSl_r, -oSome_r, -eIsN_r, -eLc_r, -iSeq_r, -iRng_r, dIx0, dIx1, dIx2, dIx3, dIx4, r6_l_touches, r5_l_touches, r4_l_touches, r3_l_touches, r2_l_touches, r1_l_touches, dToList_t, dAdd_ll]
    exact fin _ _ (two hc he) (one ex) (by simp) (by simp)
  | given hc =>
    simp -implicitDefEqProofs (disch := first | (with_reducible assumption) | ((with_reducible show List.length _ = _); rfl) | (simp only [allD_cons, allD_nil, Option.map_some, Option.isSome_some]; done) | (simp only [List.length_cons, List.length_nil, List.length_map]; done) | ((with_reducible refine cMod_of ?_); omega) | ((with_reducible refine cDiv_of ?_ ?_) <;> omega) | ((with_reducible refine okR_of ?_ ?_) <;> omega) | omega | (simp only [List.length_take, List.length_drop, List.length_append, List.length_cons, List.length_nil, List.length_map, List.length_range, List.length_replicate]; omega)) [-sSeq_r, -sRet_r, -sDrop_r, -sSet_r, -sIf_r, -sPar_r, -sAsg_r, -sSetIx_r, -sFor_r, -gsCons_r, -gT_r, -e1_r, -e2_r, -tV_r, -tAndM_r, -tOrM_r, -tNotM_r, -eAnd_r, -eOr_r, -eNot_r, -eIf_r, -aCons_r, -eN_r, -fCall_r, -eCallK_r, -eM_r, -eSl_r, -oSome_r, -eIsN_r, -eLc_r, -iSeq_r, -iRng_r, dIx0, dIx1, dIx2, dIx3, dIx4, r6_l_touches, r5_l_touches, r4_l_touches, r3_l_touches, r2_l_touches, r1_l_touches, dToList_t, dAdd_ll]
    exact fin _ _ (one hc) (one ex) (by simp) (by simp)
theorem dIn_sx {n : Bool} {a : D} {ds : List D} (ha : Sx a) (hd : ∀ d ∈ ds, Sx d) : ∃ k, dIn n (.d a) (.d (.list ds)) μ = .ok (.d (.bool k)) μ := by
  obtain ⟨l, rfl, _⟩ := ha
  refine ⟨if n then !(ds.any fun y => PyData.eqv y (.str (T l))) else ds.any fun y => PyData.eqv y (.str (T l)), ?_⟩
  show (match allFlat (ds.map Dv.d) with
      | some (es : List D) => (if flatD (.str (T l)) = true then Out.ok (Dv.d (PyData.bool (if n then !(es.any fun y => PyData.eqv y (.str (T l))) else es.any fun y => PyData.eqv y (.str (T l))))) μ else Out.bad)
      | none => .bad) = _
  rw [allFlat_map (by intro d hd2; obtain ⟨l2, rfl, _⟩ := hd d hd2; rfl)]
  rfl
theorem all_bool : ∀ {ys : List Dv}, (∀ y ∈ ys, ∃ k, y = .d (.bool k)) → ∃ ks : List Bool, ys = (ks.map PyData.bool).map .d
  | [], _ => ⟨[], rfl⟩
  | y :: ys, h => by
    obtain ⟨k, rfl⟩ := h y List.mem_cons_self
    obtain ⟨ks, rfl⟩ := all_bool (ys := ys) fun z hz => h z (List.mem_cons_of_mem _ hz)
    exact ⟨k :: ks, rfl⟩
theorem mem_map_d {ds : List D} {j : Nat} {b : Dv} (h : (ds.map Dv.d)[j]? = some b) : ∃ d, d ∈ ds ∧ b = .d d := by
  rw [List.getElem?_map] at h
  obtain ⟨x, hx, rfl⟩ := Option.map_eq_some_iff.mp h
  exact ⟨x, List.mem_of_getElem? hx, rfl⟩
theorem w_apart {s t : D} (hs : St s) (ht : St t) (fin : ∀ k, P (.d (.bool k)) μ) : Wp (F_l_apart [.d s, .d t] μ) P := by
  have ex : Sx (.str (T [33])) := Sx.of (by decide)
  unfold F_l_apart B_l_apart
  apply Wp_run
  simp -implicitDefEqProofs (disch := first | (with_reducible assumption) | ((with_reducible show List.length _ = _); rfl) | (simp only [allD_cons, allD_nil, Option.map_some, Option.isSome_some]; done) | (simp only [List.length_cons, List.length_nil, List.length_map]; done) | ((with_reducible refine cMod_of ?_); omega) | ((with_reducible refine cDiv_of ?_ ?_) <;> omega) | ((with_reducible refine okR_of ?_ ?_) <;> omega) | omega | (simp only [List.length_take, List.length_drop, List.length_append, List.length_cons, List.length_nil, List.length_map, List.length_range, List.length_replicate]; omega)) [-sSeq_r, -sRet_r, -sDrop_r, -sSet_r, -sIf_r, -sPar_r, -sAsg_r, -sSetIx_r, -sFor_r, -gsCons_r, -gT_r, -e1_r, -e2_r, -tV_r, -tAndM_r, -tOrM_r, -tNotM_r, -eAnd_r, -eOr_r, -eNot_r, -eIf_r, -aCons_r, -eN_r, -fCall_r, -eCallK_r, -eM_r, -eSl_r, -oSome_r, -eIsN_r, -eLc_r, -iSeq_r, -iRng_r, ]
  refine w_touches hs fun rs ws hr hw lr lw => ?_
  simp -implicitDefEqProofs (disch := first | (with_reducible assumption) | ((with_reducible show List.length _ = _); rfl) | (simp only [allD_cons, allD_nil, Option.map_some, Option.isSome_some]; done) | (simp only [List.length_cons, List.length_nil, List.length_map]; done) | ((with_reducible refine cMod_of ?_); omega) | ((with_reducible refine cDiv_of ?_ ?_) <;> omega) | ((with_reducible refine okR_of ?_ ?_) <;> omega) | omega | (simp only [List.length_take, List.length_drop, List.length_append, List.length_cons, List.length_nil, List.length_map, List.length_range, List.length_replicate]; omega)) [-sSeq_r, -sRet_r, -sDrop_r, -sSet_r, -sIf_r, -sPar_r, -sAsg_r, -sSetIx_r, -sFor_r, -gsCons_r, -gT_r, -e1_r, -e2_r, -tV_r, -tAndM_r, -tOrM_r, -tNotM_r, -eAnd_r, -eOr_r, -eNot_r, -eIf_r, -aCons_r, -eN_r, -fCall_r, -eCallK_r, -eM_r, -eSl_r, -oSome_r, -eIsN_r, -eLc_r, -iSeq_r, -iRng_r, ]
  refine w_touches ht fun rs2 ws2 hr2 hw2 lr2 lw2 => ?_
  simp -implicitDefEqProofs (disch := first | (with_reducible assumption) | ((with_reducible show List.length _ = _); rfl) | (simp only [allD_cons, allD_nil, Option.map_some, Option.isSome_some]; done) | (simp only [List.length_cons, List.length_nil, List.length_map]; done) | ((with_reducible refine cMod_of ?_); omega) | ((with_reducible refine cDiv_of ?_ ?_) <;> omega) | ((with_reducible refine okR_of ?_ ?_) <;> omega) | omega | (simp only [List.length_take, List.length_drop, List.length_append, List.length_cons, List.length_nil, List.length_map, List.length_range, List.length_replicate]; omega)) [-sSeq_r, -sRet_r, -sDrop_r, -sSet_r, -sIf_r, -sPar_r, -sAsg_r, -sSetIx_r, -sFor_r, -gsCons_r, -gT_r, -e1_r, -e2_r, -tV_r, -tAndM_r, -tOrM_r, -tNotM_r, -eAnd_r, -eOr_r, -eNot_r, -eIf_r, -aCons_r, -eN_r, -fCall_r, -eCallK_r, -eM_r, -eSl_r, -oSome_r, -eIsN_r, -eLc_r, -iSeq_r, -iRng_r, r2_l_apart, dIxl0, dIxl1]
  refine Wp_lcF (by simp; omega) ?_
  refine Wp_lcM_y (fun _ μ' => μ' = μ) (fun y => ∃ k, y = .d (.bool k)) (i := 0) rfl (fun j b μ' hb e => ?_) fun ys μ' hl hy e => ?_
  · subst e
    obtain ⟨a, ha, rfl⟩ := mem_map_d hb
    obtain ⟨k1, e1⟩ := dIn_sx (μ := μ') (n := false) (hw a ha) hr2
    obtain ⟨k2, e2⟩ := dIn_sx (μ := μ') (n := false) (hw a ha) hw2
    simp -implicitDefEqProofs (disch := first | (with_reducible assumption) | ((with_reducible show List.length _ = _); rfl) | (simp only [allD_cons, allD_nil, Option.map_some, Option.isSome_some]; done) | (simp only [List.length_cons, List.length_nil, List.length_map]; done) | ((with_reducible refine cMod_of ?_); omega) | ((with_reducible refine cDiv_of ?_ ?_) <;> omega) | ((with_reducible refine okR_of ?_ ?_) <;> omega) | omega | (simp only [List.length_take, List.length_drop, List.length_append, List.length_cons, List.length_nil, List.length_map, List.length_range, List.length_replicate]; omega)) [-sSeq_r, -sRet_r, -sDrop_r, -sSet_r, -sIf_r, -sPar_r, -sAsg_r, -sSetIx_r, -sFor_r, -gsCons_r, -gT_r, -e1_r, -e2_r, -tV_r, -tAndM_r, -tOrM_r, -tNotM_r, -eAnd_r, -eOr_r, -eNot_r, -eIf_r, -aCons_r, -eN_r, -fCall_r, -eCallK_r, -eM_r, -eSl_r, -oSome_r, -eIsN_r, -eLc_r, -iSeq_r, -iRng_r, c1_l_apart, wipeD, dIxl0, dIxl1, e1, e2]
    cases k1 with
    | true => simp -implicitDefEqProofs (disch := first | (with_reducible assumption) | ((with_reducible show List.length _ = _); rfl) | (simp only [allD_cons, allD_nil, Option.map_some, Option.isSome_some]; done) | (simp only [List.length_cons, List.length_nil, List.length_map]; done) | ((with_reducible refine cMod_of ?_); omega) | ((with_reducible refine cDiv_of ?_ ?_) <;> omega) | ((with_reducible refine okR_of ?_ ?_) <;> omega) | omega | (simp only [List.length_take, List.length_drop, List.length_append, List.length_cons, List.length_nil, List.length_map, List.length_range, List.length_replicate]; omega)) [-sSeq_r, -sRet_r, -sDrop_r, -sSet_r, -sIf_r, -sPar_r, -sAsg_r, -sSetIx_r, -sFor_r, -gsCons_r, -gT_r, -e1_r, -e2_r, -tV_r, -tAndM_r, -tOrM_r, -tNotM_r, -eAnd_r, -eOr_r, -eNot_r, -eIf_r, -aCons_r, -eN_r, -fCall_r, -eCallK_r, -eM_r, -eSl_r, -oSome_r, -eIsN_r, -eLc_r, -iSeq_r, -iRng_r, ]
    | false =>
      simp -implicitDefEqProofs (disch := first | (with_reducible assumption) | ((with_reducible show List.length _ = _); rfl) | (simp only [allD_cons, allD_nil, Option.map_some, Option.isSome_some]; done) | (simp only [List.length_cons, List.length_nil, List.length_map]; done) | ((with_reducible refine cMod_of ?_); omega) | ((with_reducible refine cDiv_of ?_ ?_) <;> omega) | ((with_reducible refine okR_of ?_ ?_) <;> omega) | omega | (simp only [List.length_take, List.length_drop, List.length_append, List.length_cons, List.length_nil, List.length_map, List.length_range, List.length_replicate]; omega)) [-sSeq_r, -sRet_r, -sDrop_r, -sSet_r, -sIf_r, -sPar_r, -sAsg_r, -sSetIx_r, -sFor_r, -gsCons_r, -gT_r, -e1_r, -e2_r, -tV_r, -tAndM_r, -tOrM_r, -tNotM_r, -eAnd_r, -eOr_r, -eNot_r, -eIf_r, -aCons_r, -eN_r, -fCall_r, -eCallK_r, -eM_r, -eSl_r, -oSome_r, -eIsN_r, -eLc_r, -iSeq_r, -iRng_r, dIxl0, dIxl1, e1, e2]
      cases k2 with
      | true =>
        obtain ⟨l, rfl, _⟩ := hw a ha
        simp -implicitDefEqProofs (disch := first | (with_reducible assumption) | ((with_reducible show List.length _ = _); rfl) | (simp only [allD_cons, allD_nil, Option.map_some, Option.isSome_some]; done) | (simp only [List.length_cons, List.length_nil, List.length_map]; done) | ((with_reducible refine cMod_of ?_); omega) | ((with_reducible refine cDiv_of ?_ ?_) <;> omega) | ((with_reducible refine okR_of ?_ ?_) <;> omega) | omega | (simp only [List.length_take, List.length_drop, List.length_append, List.length_cons, List.length_nil, List.length_map, List.length_range, List.length_replicate]; omega)) [-sSeq_r, -sRet_r, -sDrop_r, -sSet_r, -sIf_r, -sPar_r, -sAsg_r, -sSetIx_r, -sFor_r, -gsCons_r, -gT_r, -e1_r, -e2_r, -tV_r, -tAndM_r, -tOrM_r, -tNotM_r, -eAnd_r, -eOr_r, -eNot_r, -eIf_r, -aCons_r, -eN_r, -fCall_r, -eCallK_r, -eM_r, -eSl_r, -oSome_r, -eIsN_r, -eLc_r, -iSeq_r, -iRng_r, ]
        exact Decidable.em _
      | false => simp -implicitDefEqProofs (disch := first | (with_reducible assumption) | ((with_reducible show List.length _ = _); rfl) | (simp only [allD_cons, allD_nil, Option.map_some, Option.isSome_some]; done) | (simp only [List.length_cons, List.length_nil, List.length_map]; done) | ((with_reducible refine cMod_of ?_); omega) | ((with_reducible refine cDiv_of ?_ ?_) <;> omega) | ((with_reducible refine okR_of ?_ ?_) <;> omega) | omega | (simp only [List.length_take, List.length_drop, List.length_append, List.length_cons, List.length_nil, List.length_map, List.length_range, List.length_replicate]; omega)) [-sSeq_r, -sRet_r, -sDrop_r, -sSet_r, -sIf_r, -sPar_r, -sAsg_r, -sSetIx_r, -sFor_r, -gsCons_r, -gT_r, -e1_r, -e2_r, -tV_r, -tAndM_r, -tOrM_r, -tNotM_r, -eAnd_r, -eOr_r, -eNot_r, -eIf_r, -aCons_r, -eN_r, -fCall_r, -eCallK_r, -eM_r, -eSl_r, -oSome_r, -eIsN_r, -eLc_r, -iSeq_r, -iRng_r, ]
  · subst e
    obtain ⟨ks, rfl⟩ := all_bool hy
    have lk : (ks.map PyData.bool).length ≤ 20 := by
      simp only [List.length_map] at hl ⊢
      omega
    rw [dList_map (by omega)]
    simp -implicitDefEqProofs (disch := first | (with_reducible assumption) | ((with_reducible show List.length _ = _); rfl) | (simp only [allD_cons, allD_nil, Option.map_some, Option.isSome_some]; done) | (simp only [List.length_cons, List.length_nil, List.length_map]; done) | ((with_reducible refine cMod_of ?_); omega) | ((with_reducible refine cDiv_of ?_ ?_) <;> omega) | ((with_reducible refine okR_of ?_ ?_) <;> omega) | omega | (simp only [List.length_take, List.length_drop, List.length_append, List.length_cons, List.length_nil, List.length_map, List.length_range, List.length_replicate]; omega)) [-sSeq_r, -sRet_r, -sDrop_r, -sSet_r, -sIf_r, -sPar_r, -sAsg_r, -sSetIx_r, -sFor_r, -gsCons_r, -gT_r, -e1_r, -e2_r, -tV_r, -tAndM_r, -tOrM_r, -tNotM_r, -eAnd_r, -eOr_r, -eNot_r, -eIf_r, -aCons_r, -eN_r, -fCall_r, -eCallK_r, -eM_r, -eSl_r, -oSome_r, -eIsN_r, -eLc_r, -iSeq_r, -iRng_r, ]
    refine kIf_s (fun q => ?_) fun q => ?_
    · simp -implicitDefEqProofs (disch := first | (with_reducible assumption) | ((with_reducible show List.length _ = _); rfl) | (simp only [allD_cons, allD_nil, Option.map_some, Option.isSome_some]; done) | (simp only [List.length_cons, List.length_nil, List.length_map]; done) | ((with_reducible refine cMod_of ?_); omega) | ((with_reducible refine cDiv_of ?_ ?_) <;> omega) | ((with_reducible refine okR_of ?_ ?_) <;> omega) | omega | (simp only [List.length_take, List.length_drop, List.length_append, List.length_cons, List.length_nil, List.length_map, List.length_range, List.length_replicate]; omega)) [-sSeq_r, -sRet_r, -sDrop_r, -sSet_r, -sIf_r, -sPar_r, -sAsg_r, -sSetIx_r, -sFor_r, -gsCons_r, -gT_r, -e1_r, -e2_r, -tV_r, -tAndM_r, -tOrM_r, -tNotM_r, -eAnd_r, -eOr_r, -eNot_r, -eIf_r, -aCons_r, -eN_r, -fCall_r, -eCallK_r, -eM_r, -eSl_r, -oSome_r, -eIsN_r, -eLc_r, -iSeq_r, -iRng_r, ]
      exact fin _
    · simp -implicitDefEqProofs (disch := first | (with_reducible assumption) | ((with_reducible show List.length _ = _); rfl) | (simp only [allD_cons, allD_nil, Option.map_some, Option.isSome_some]; done) | (simp only [List.length_cons, List.length_nil, List.length_map]; done) | ((with_reducible refine cMod_of ?_); omega) | ((with_reducible refine cDiv_of ?_ ?_) <;> omega) | ((with_reducible refine okR_of ?_ ?_) <;> omega) | omega | (simp only [List.length_take, List.length_drop, List.length_append, List.length_cons, List.length_nil, List.length_map, List.length_range, List.length_replicate]; omega)) [-sSeq_r, -sRet_r, -sDrop_r, -sSet_r, -sIf_r, -sPar_r, -sAsg_r, -sSetIx_r, -sFor_r, -gsCons_r, -gT_r, -e1_r, -e2_r, -tV_r, -tAndM_r, -tOrM_r, -tNotM_r, -eAnd_r, -eOr_r, -eNot_r, -eIf_r, -aCons_r, -eN_r, -fCall_r, -eCallK_r, -eM_r, -eSl_r, -oSome_r, -eIsN_r, -eLc_r, -iSeq_r, -iRng_r, r1_l_apart, dIxl0, dIxl1]
      refine Wp_lcF (by simp; omega) ?_
      refine Wp_lcM_y (fun _ μ2 => μ2 = μ') (fun y => ∃ k, y = .d (.bool k)) (i := 0) rfl (fun j b μ2 hb e => ?_) fun ys μ2 hl2 hy2 e => ?_
      · subst e
        obtain ⟨a, ha, rfl⟩ := mem_map_d hb
        obtain ⟨k1, e1⟩ := dIn_sx (μ := μ2) (n := false) (hw2 a ha) hr
        simp -implicitDefEqProofs (disch := first | (with_reducible assumption) | ((with_reducible show List.length _ = _); rfl) | (simp only [allD_cons, allD_nil, Option.map_some, Option.isSome_some]; done) | (simp only [List.length_cons, List.length_nil, List.length_map]; done) | ((with_reducible refine cMod_of ?_); omega) | ((with_reducible refine cDiv_of ?_ ?_) <;> omega) | ((with_reducible refine okR_of ?_ ?_) <;> omega) | omega | (simp only [List.length_take, List.length_drop, List.length_append, List.length_cons, List.length_nil, List.length_map, List.length_range, List.length_replicate]; omega)) [-sSeq_r, -sRet_r, -sDrop_r, -sSet_r, -sIf_r, -sPar_r, -sAsg_r, -sSetIx_r, -sFor_r, -gsCons_r, -gT_r, -e1_r, -e2_r, -tV_r, -tAndM_r, -tOrM_r, -tNotM_r, -eAnd_r, -eOr_r, -eNot_r, -eIf_r, -aCons_r, -eN_r, -fCall_r, -eCallK_r, -eM_r, -eSl_r, -oSome_r, -eIsN_r, -eLc_r, -iSeq_r, -iRng_r, c2_l_apart, wipeD, dIxl0, dIxl1, e1]
      · subst e
        obtain ⟨ks2, rfl⟩ := all_bool hy2
        have lk2 : (ks2.map PyData.bool).length ≤ 20 := by
          simp only [List.length_map] at hl2 ⊢
          omega
        rw [dList_map (by omega)]
        simp -implicitDefEqProofs (disch := first | (with_reducible assumption) | ((with_reducible show List.length _ = _); rfl) | (simp only [allD_cons, allD_nil, Option.map_some, Option.isSome_some]; done) | (simp only [List.length_cons, List.length_nil, List.length_map]; done) | ((with_reducible refine cMod_of ?_); omega) | ((with_reducible refine cDiv_of ?_ ?_) <;> omega) | ((with_reducible refine okR_of ?_ ?_) <;> omega) | omega | (simp only [List.length_take, List.length_drop, List.length_append, List.length_cons, List.length_nil, List.length_map, List.length_range, List.length_replicate]; omega)) [-sSeq_r, -sRet_r, -sDrop_r, -sSet_r, -sIf_r, -sPar_r, -sAsg_r, -sSetIx_r, -sFor_r, -gsCons_r, -gT_r, -e1_r, -e2_r, -tV_r, -tAndM_r, -tOrM_r, -tNotM_r, -eAnd_r, -eOr_r, -eNot_r, -eIf_r, -aCons_r, -eN_r, -fCall_r, -eCallK_r, -eM_r, -eSl_r, -oSome_r, -eIsN_r, -eLc_r, -iSeq_r, -iRng_r, ]
        exact fin _
theorem items_c {n : Nat} {xs : List Dv} (e : μ[n]? = some (.lst xs)) : items (.c n) μ = some xs := by
  unfold items
  simp only [e]
theorem dSl_c {n : Nat} {ds : List D} {i j : Option Int} (e : μ[n]? = some (.lst (ds.map .d))) : dSl (.c n) i j μ = .ok (.d (.list (cutL ds i j))) μ := by
  show (match items (.c n) μ with | some bs => (match allD (cutL bs i j) with | some ds => Out.ok (Dv.d (.list ds)) μ | none => .bad) | none => .bad) = _
  rw [items_c e]
  have : cutL (ds.map Dv.d) i j = (cutL ds i j).map .d := by
    unfold cutL
    simp only [List.length_map, List.map_take, List.map_drop]
  show (match allD (cutL (ds.map Dv.d) i j) with | some ds => Out.ok (Dv.d (.list ds)) μ | none => .bad) = _
  rw [this, allD_map]
theorem Pr.str {b : D} (h : Pr b) : ∃ x y, b = .tuple [.str x, .str y] := by
  obtain ⟨x, y, rfl, hx, hy⟩ := h
  obtain ⟨a, rfl⟩ := hx.str
  obtain ⟨b, rfl⟩ := hy.str
  exact ⟨a, b, rfl⟩
theorem Pr.sm {b : D} (h : Pr b) : Sm 1 500 b := by
  obtain ⟨x, y, rfl, hx, hy⟩ := h
  refine (Sm.tup (n := 2) (c := 202) (k := 0) (fun d hd => ?_) (by simp)).mono (Nat.le_refl _) (by decide)
  simp only [List.mem_cons, List.not_mem_nil, or_false] at hd
  rcases hd with rfl | rfl
  · exact hx.sm
  · exact hy.sm
theorem w_behinds {sn : Nat} {ss : List D} (e : μ[sn]? = some (.lst (ss.map .d))) (hs : ∀ s ∈ ss, St s) (hl : ss.length ≤ 7) (fin : ∀ bs μ', (∀ b ∈ bs, Pr b) → bs.length ≤ 100 → Ex' [] μ μ' → P (.d (.tuple bs)) μ') : Wp (F_l_behinds [.c sn] μ) P := by
  unfold F_l_behinds B_l_behinds
  apply Wp_run
  simp -implicitDefEqProofs (disch := first | (with_reducible assumption) | ((with_reducible show List.length _ = _); rfl) | (simp only [allD_cons, allD_nil, Option.map_some, Option.isSome_some]; done) | (simp only [List.length_cons, List.length_nil, List.length_map]; done) | ((with_reducible refine cMod_of ?_); omega) | ((with_reducible refine cDiv_of ?_ ?_) <;> omega) | ((with_reducible refine okR_of ?_ ?_) <;> omega) | omega | (simp only [List.length_take, List.length_drop, List.length_append, List.length_cons, List.length_nil, List.length_map, List.length_range, List.length_replicate]; omega)) [-sSeq_r, -sRet_r, -sDrop_r, -sSet_r, -sIf_r, -sPar_r, -sAsg_r, -sSetIx_r, -sFor_r, -gsCons_r, -gT_r, -e1_r, -e2_r, -tV_r, -tAndM_r, -tOrM_r, -tNotM_r, -eAnd_r, -eOr_r, -eNot_r, -eIf_r, -aCons_r, -eN_r, -fCall_r, -eCallK_r, -eM_r, -eSl_r, -oSome_r, -eIsN_r, -eLc_r, -iSeq_r, -iRng_r, cList_c (xs := []) (by decide), r3_l_behinds, forEb_r]
  have c0 : (μ ++ [Cell.lst []])[μ.length]? = some (.lst (([] : List D).map .d)) := by simp
  refine Wp_forE (xs := ss) (n := sn) (fun i ρ μ' => μ'[sn]? = some (.lst (ss.map .d)) ∧ Ex' [μ.length] (μ ++ [Cell.lst []]) μ' ∧ (∃ a2 a3 a4 a5, ρ = [some (.c sn), some (.c μ.length), a2, a3, a4, a5]) ∧ ∃ ps : List D, ps.length ≤ 10 * i ∧ (∀ p ∈ ps, Pr p) ∧ μ'[μ.length]? = some (.lst (ps.map .d)))
    (fun i ρ μ' I => I.1) ⟨by rw [List.getElem?_append_left (lt_of_get e)]; exact e, Ex'.refl _ _, ⟨_, _, _, _, rfl⟩, [], by simp, (fun p hp => by cases hp), c0⟩ (Nat.zero_le _) (by omega) (fun j x ρ μ' hx I => ?_) fun ρ' μ' I => ?_
  · obtain ⟨I1, I2, ⟨a2, a3, a4, a5, rfl⟩, ps, I3, I4, I5⟩ := I
    have hx2 := hs x (List.mem_of_getElem? hx)
    have hj : j < ss.length := (List.getElem?_eq_some_iff.mp hx).1
    have ec : cutL ss (some ((j : Int) + 1)) none = ss.drop (j + 1) := by rw [cut_from _ (by omega)]; congr 1
    simp -implicitDefEqProofs (disch := first | (with_reducible assumption) | ((with_reducible show List.length _ = _); rfl) | (simp only [allD_cons, allD_nil, Option.map_some, Option.isSome_some]; done) | (simp only [List.length_cons, List.length_nil, List.length_map]; done) | ((with_reducible refine cMod_of ?_); omega) | ((with_reducible refine cDiv_of ?_ ?_) <;> omega) | ((with_reducible refine okR_of ?_ ?_) <;> omega) | omega | (simp only [List.length_take, List.length_drop, List.length_append, List.length_cons, List.length_nil, List.length_map, List.length_range, List.length_replicate]; omega)) [-sSeq_r, -sRet_r, -sDrop_r, -sSet_r, -sIf_r, -sPar_r, -sAsg_r, -sSetIx_r, -sFor_r, -gsCons_r, -gT_r, -e1_r, -e2_r, -tV_r, -tAndM_r, -tOrM_r, -tNotM_r, -eAnd_r, -eOr_r, -eNot_r, -eIf_r, -aCons_r, -eN_r, -fCall_r, -eCallK_r, -eM_r, -eSl_r, -oSome_r, -eIsN_r, -eLc_r, -iSeq_r, -iRng_r, w1_l_behinds, dSl_c I1, ec]
    refine Wp_lcF (by simp; omega) ?_
    refine Wp_lcM (fun _ μ2 => μ2 = μ') (fun y => ∃ d, y = .d d ∧ St d) (i := 0) rfl (fun k b μ2 hb eq => ?_) fun ys μ2 hy1 hy2 eq => ?_
    · subst eq
      rw [← List.map_drop] at hb
      obtain ⟨t, ht, rfl⟩ := mem_map_d hb
      have ht2 := hs t (List.mem_of_mem_drop ht)
      simp -implicitDefEqProofs (disch := first | (with_reducible assumption) | ((with_reducible show List.length _ = _); rfl) | (simp only [allD_cons, allD_nil, Option.map_some, Option.isSome_some]; done) | (simp only [List.length_cons, List.length_nil, List.length_map]; done) | ((with_reducible refine cMod_of ?_); omega) | ((with_reducible refine cDiv_of ?_ ?_) <;> omega) | ((with_reducible refine okR_of ?_ ?_) <;> omega) | omega | (simp only [List.length_take, List.length_drop, List.length_append, List.length_cons, List.length_nil, List.length_map, List.length_range, List.length_replicate]; omega)) [-sSeq_r, -sRet_r, -sDrop_r, -sSet_r, -sIf_r, -sPar_r, -sAsg_r, -sSetIx_r, -sFor_r, -gsCons_r, -gT_r, -e1_r, -e2_r, -tV_r, -tAndM_r, -tOrM_r, -tNotM_r, -eAnd_r, -eOr_r, -eNot_r, -eIf_r, -aCons_r, -eN_r, -fCall_r, -eCallK_r, -eM_r, -eSl_r, -oSome_r, -eIsN_r, -eLc_r, -iSeq_r, -iRng_r, wipeD, t1_l_behinds, c1_l_behinds]
      refine w_apart hx2 ht2 fun q => ?_
      simp -implicitDefEqProofs (disch := first | (with_reducible assumption) | ((with_reducible show List.length _ = _); rfl) | (simp only [allD_cons, allD_nil, Option.map_some, Option.isSome_some]; done) | (simp only [List.length_cons, List.length_nil, List.length_map]; done) | ((with_reducible refine cMod_of ?_); omega) | ((with_reducible refine cDiv_of ?_ ?_) <;> omega) | ((with_reducible refine okR_of ?_ ?_) <;> omega) | omega | (simp only [List.length_take, List.length_drop, List.length_append, List.length_cons, List.length_nil, List.length_map, List.length_range, List.length_replicate]; omega)) [-sSeq_r, -sRet_r, -sDrop_r, -sSet_r, -sIf_r, -sPar_r, -sAsg_r, -sSetIx_r, -sFor_r, -gsCons_r, -gT_r, -e1_r, -e2_r, -tV_r, -tAndM_r, -tOrM_r, -tNotM_r, -eAnd_r, -eOr_r, -eNot_r, -eIf_r, -aCons_r, -eN_r, -fCall_r, -eCallK_r, -eM_r, -eSl_r, -oSome_r, -eIsN_r, -eLc_r, -iSeq_r, -iRng_r, ]
      exact fun _ => ht2
    · subst eq
      obtain ⟨rs, rfl, hr⟩ := all_d hy2
      have lr : rs.length ≤ 7 := by simp at hy1; omega
      have hL := isLst_c I5
      rw [dList_map (by omega)]
      simp -implicitDefEqProofs (disch := first | (with_reducible assumption) | ((with_reducible show List.length _ = _); rfl) | (simp only [allD_cons, allD_nil, Option.map_some, Option.isSome_some]; done) | (simp only [List.length_cons, List.length_nil, List.length_map]; done) | ((with_reducible refine cMod_of ?_); omega) | ((with_reducible refine cDiv_of ?_ ?_) <;> omega) | ((with_reducible refine okR_of ?_ ?_) <;> omega) | omega | (simp only [List.length_take, List.length_drop, List.length_append, List.length_cons, List.length_nil, List.length_map, List.length_range, List.length_replicate]; omega)) [-sSeq_r, -sRet_r, -sDrop_r, -sSet_r, -sIf_r, -sPar_r, -sAsg_r, -sSetIx_r, -sFor_r, -gsCons_r, -gT_r, -e1_r, -e2_r, -tV_r, -tAndM_r, -tOrM_r, -tNotM_r, -eAnd_r, -eOr_r, -eNot_r, -eIf_r, -aCons_r, -eN_r, -fCall_r, -eCallK_r, -eM_r, -eSl_r, -oSome_r, -eIsN_r, -eLc_r, -iSeq_r, -iRng_r, r1_l_behinds]
      refine Wp_lcF (by simp; omega) ?_
      refine Wp_lcM_y (fun _ μ3 => μ3 = μ2) (fun y => ∃ d, y = .d d ∧ Pr d) (i := 0) rfl (fun k b μ3 hb eq => ?_) fun ys μ3 hy1 hy2 eq => ?_
      · subst eq
        obtain ⟨t, ht, rfl⟩ := mem_map_d hb
        obtain ⟨n1, d1, rfl, hn1, _⟩ := hx2
        obtain ⟨n2, d2, rfl, hn2, _⟩ := hr t ht
        simp -implicitDefEqProofs (disch := first | (with_reducible assumption) | ((with_reducible show List.length _ = _); rfl) | (simp only [allD_cons, allD_nil, Option.map_some, Option.isSome_some]; done) | (simp only [List.length_cons, List.length_nil, List.length_map]; done) | ((with_reducible refine cMod_of ?_); omega) | ((with_reducible refine cDiv_of ?_ ?_) <;> omega) | ((with_reducible refine okR_of ?_ ?_) <;> omega) | omega | (simp only [List.length_take, List.length_drop, List.length_append, List.length_cons, List.length_nil, List.length_map, List.length_range, List.length_replicate]; omega)) [-sSeq_r, -sRet_r, -sDrop_r, -sSet_r, -sIf_r, -sPar_r, -sAsg_r, -sSetIx_r, -sFor_r, -gsCons_r, -gT_r, -e1_r, -e2_r, -tV_r, -tAndM_r, -tOrM_r, -tNotM_r, -eAnd_r, -eOr_r, -eNot_r, -eIf_r, -aCons_r, -eN_r, -fCall_r, -eCallK_r, -eM_r, -eSl_r, -oSome_r, -eIsN_r, -eLc_r, -iSeq_r, -iRng_r, c2_l_behinds, wipeD, dIx0]
        exact ⟨n1, n2, rfl, hn1, hn2⟩
      · subst eq
        obtain ⟨qs, rfl, hq⟩ := all_d hy2
        have lq : qs.length ≤ 7 := by simp at hy1; omega
        rw [cList_c (by simp; omega), Wp_ok]
        have b2 : (μ3 ++ [Cell.lst (qs.map .d)])[μ.length]? = some (.lst (ps.map .d)) := by rw [List.getElem?_append_left (lt_of_get I5)]; exact I5
        have c2 : (μ3 ++ [Cell.lst (qs.map .d)])[μ3.length]? = some (.lst (qs.map .d)) := by simp
        have d2 : (μ3 ++ [Cell.lst (qs.map .d)])[sn]? = some (.lst (ss.map .d)) := by rw [List.getElem?_append_left (lt_of_get I1)]; exact I1
        have e2 : Ex' [μ.length] μ3 (μ3 ++ [Cell.lst (qs.map .d)]) := Ex'.app _ _ _
        have ns : sn ≠ μ.length := by have := lt_of_get e; omega
        generalize μ3 ++ [Cell.lst (qs.map .d)] = ν at b2 c2 d2 e2 ⊢
        simp -implicitDefEqProofs (disch := first | (with_reducible assumption) | ((with_reducible show List.length _ = _); rfl) | (simp only [allD_cons, allD_nil, Option.map_some, Option.isSome_some]; done) | (simp only [List.length_cons, List.length_nil, List.length_map]; done) | ((with_reducible refine cMod_of ?_); omega) | ((with_reducible refine cDiv_of ?_ ?_) <;> omega) | ((with_reducible refine okR_of ?_ ?_) <;> omega) | omega | (simp only [List.length_take, List.length_drop, List.length_append, List.length_cons, List.length_nil, List.length_map, List.length_range, List.length_replicate]; omega)) [-sSeq_r, -sRet_r, -sDrop_r, -sSet_r, -sIf_r, -sPar_r, -sAsg_r, -sSetIx_r, -sFor_r, -gsCons_r, -gT_r, -e1_r, -e2_r, -tV_r, -tAndM_r, -tOrM_r, -tNotM_r, -eAnd_r, -eOr_r, -eNot_r, -eIf_r, -aCons_r, -eN_r, -fCall_r, -eCallK_r, -eM_r, -eSl_r, -oSome_r, -eIsN_r, -eLc_r, -iSeq_r, -iRng_r, dExtend_c b2 c2 (by simp; omega)]
        refine ⟨?_, ?_, ⟨_, _, _, _, rfl⟩, ps ++ qs, ?_, ?_, ?_⟩
        · rw [List.getElem?_set_ne (Ne.symm ns)]
          exact d2
        · exact I2.trans (e2.trans (Ex'.set (by simp)))
        · simp
          omega
        · intro p hp
          rcases List.mem_append.mp hp with hp | hp
          · exact I4 p hp
          · exact hq p hp
        · rw [List.map_append]
          exact get_set b2
  · obtain ⟨I1, I2, ⟨a2, a3, a4, a5, rfl⟩, ps, I3, I4, I5⟩ := I
    have lp : ps.length ≤ 70 := by omega
    have es := dSort_d (ds := ps) (items_c I5) (sort_pairs fun d hd => (I4 d hd).str) (by omega)
    have ll : (srt ps).length = ps.length := srt_len ps
    simp -implicitDefEqProofs (disch := first | (with_reducible assumption) | ((with_reducible show List.length _ = _); rfl) | (simp only [allD_cons, allD_nil, Option.map_some, Option.isSome_some]; done) | (simp only [List.length_cons, List.length_nil, List.length_map]; done) | ((with_reducible refine cMod_of ?_); omega) | ((with_reducible refine cDiv_of ?_ ?_) <;> omega) | ((with_reducible refine okR_of ?_ ?_) <;> omega) | omega | (simp only [List.length_take, List.length_drop, List.length_append, List.length_cons, List.length_nil, List.length_map, List.length_range, List.length_replicate]; omega)) [-sSeq_r, -sRet_r, -sDrop_r, -sSet_r, -sIf_r, -sPar_r, -sAsg_r, -sSetIx_r, -sFor_r, -gsCons_r, -gT_r, -e1_r, -e2_r, -tV_r, -tAndM_r, -tOrM_r, -tNotM_r, -eAnd_r, -eOr_r, -eNot_r, -eIf_r, -aCons_r, -eN_r, -fCall_r, -eCallK_r, -eM_r, -eSl_r, -oSome_r, -eIsN_r, -eLc_r, -iSeq_r, -iRng_r, r2_l_behinds, es, dToTup_l]
    refine fin _ μ' (fun b hb => I4 b (srt_mem.mp hb)) (by omega) ⟨?_, fun i hi _ => ?_⟩
    · have := I2.1
      simp at this
      omega
    · rw [I2.2 i (by simp; omega) (by simp; omega), List.getElem?_append_left hi]
end
end LW

namespace LW
open PySem PySem.Spec PyProof.Rows L2 DL
def kAT (n : Nat) (gs : MGs) (ρ : DEnv) (P : Fl → Store → Prop) : List Dv → Store → Prop := fun bs μ => (bs.length = n ∧ bs.length ≤ 1000) ∧ Wp (gs bs ρ μ) (kNx P)
@[simp ↓] theorem kAT_r {n : Nat} {gs : MGs} {ρ : DEnv} {μ : Store} {P : Fl → Store → Prop} {bs : List Dv} (h : bs.length = n) (h2 : bs.length ≤ 1000) : kAT n gs ρ P bs μ = Wp (gs bs ρ μ) (kNx P) := by
  unfold kAT
  simp only [h, true_and, and_iff_right_iff_imp]
  rw [← h]
  simp [h2]
@[simp ↓] theorem Wp_sAsgT {n : Nat} {ma : MA} {gs : MGs} {ρ : DEnv} {μ : Store} {P : Fl → Store → Prop} : Wp (sAsgT n ma gs ρ μ) P = Wp (ma ρ μ) (kAT n gs ρ P) := by
  unfold sAsgT
  rw [Wp_bind]
  congr 1
  funext bs μ
  unfold kAT
  split
  · rename_i c
    rw [Wp_gb]
    rw [eq_true c, true_and]
    congr 1
    funext ρ μ
    exact Wp_ok
  · rename_i c
    simp only [c, false_and, Wp_bad]
theorem Ext.then {h : Nat} {S : List Nat} {a b c : Store} (x : Ext h a b) (y : Ex' S b c) (hS : ∀ i ∈ S, i = h ∨ a.length ≤ i) : Ext h a c := by
  refine ⟨Nat.le_trans x.1 y.1, fun i hi hn => (y.2 i (Nat.lt_of_lt_of_le hi x.1) fun z => ?_).trans (x.2 i hi hn)⟩
  rcases hS i z with e | e
  · exact hn e
  · omega
theorem Ex'.trans' {S S' : List Nat} {a b c : Store} (x : Ex' S a b) (y : Ex' S' b c) (h : ∀ i ∈ S, i ∈ S') : Ex' S' a c := Ex'.trans ⟨x.1, fun i hi hn => x.2 i hi fun z => hn (h i z)⟩ y
theorem dAdd_tt {xs ys : List D} {μ : Store} (h : xs.length + ys.length ≤ 16000000) : dAdd (.d (.tuple xs)) (.d (.tuple ys)) μ = .ok (.d (.tuple (xs ++ ys))) μ := by
  show (if xs.length + ys.length ≤ sizeLine then _ else _) = _
  rw [if_pos (Nat.le_trans h line_big)]
theorem dToTup_c {n : Nat} {ds : List D} {μ : Store} (e : μ[n]? = some (.lst (ds.map .d))) (h : ds.length ≤ 16000000) : dToTup (.c n) μ = .ok (.d (.tuple ds)) μ := by
  show (match items (.c n) μ with | some bs => dTup bs μ | none => .bad) = _
  rw [items_c e]
  exact dTup_l h
theorem dIx_cd {n : Nat} {ds : List D} {k : Nat} {μ : Store} (e : μ[n]? = some (.lst (ds.map .d))) (h : k < ds.length) : dIx (.c n) (.d (.int k)) μ = .ok (.d ds[k]) μ := dIx_c e (atI_nn (by simp [h]))
theorem atI_c {α : Type} {xs : List α} {k : Nat} (h : k < xs.length) : L2.atI xs (k : Int) = some xs[k] := atI_nn (by simp [h])
/-- a program's one table of one source -/
structure Plan (p : D) where
  nm : D
  pre : List D
  cols : List D
  n1 : D
  n2 : D
  ss : List D
  bs : List D
  eq : p = .tuple [.tuple [.tuple [nm, .tuple (pre ++ [.tuple cols])]], .tuple [.tuple [n1, .tuple [.str (T [111, 102]), n2], .tuple ss, .tuple bs]]]
  hnm : Sx nm
  hsh : Sm 2 8000 (.tuple (pre ++ [.tuple cols]))
  hc : ∀ d ∈ cols, Sx d
  c0 : 0 < cols.length
  c6 : cols.length ≤ 6
  hn1 : Sx n1
  hn2 : Sx n2
  hss : ∀ s ∈ ss, St s
  ls : ss.length ≤ 6
  hbs : ∀ b ∈ bs, Pr b
  lb : bs.length ≤ 100
section
variable {h m : Nat} {μ : Store} {P : Dv → Store → Prop}
theorem w_plan (H : Bx h m μ) (hm : m + 1000 ≤ 10 ^ 9) (fin : ∀ p μ', Nonempty (Plan p) → Bx h (m + 1000) μ' → Ext h μ μ' → P (.d p) μ') : Wp (F_l_plan [.c h, .d (.int 6)] μ) P := by
  unfold F_l_plan B_l_plan
  apply Wp_run
  simp -implicitDefEqProofs (disch := first | (with_reducible assumption) | ((with_reducible show List.length _ = _); rfl) | (simp only [allD_cons, allD_nil, Option.map_some, Option.isSome_some]; done) | (simp only [List.length_cons, List.length_nil, List.length_map]; done) | ((with_reducible refine cMod_of ?_); omega) | ((with_reducible refine cDiv_of ?_ ?_) <;> omega) | ((with_reducible refine okR_of ?_ ?_) <;> omega) | omega | (simp only [List.length_take, List.length_drop, List.length_append, List.length_cons, List.length_nil, List.length_map, List.length_range, List.length_replicate]; omega)) [-sSeq_r, -sRet_r, -sDrop_r, -sSet_r, -sIf_r, -sPar_r, -sAsg_r, -sSetIx_r, -sFor_r, -gsCons_r, -gT_r, -e1_r, -e2_r, -tV_r, -tAndM_r, -tOrM_r, -tNotM_r, -eAnd_r, -eOr_r, -eNot_r, -eIf_r, -aCons_r, -eN_r, -fCall_r, -eCallK_r, -eM_r, -eSl_r, -oSome_r, -eIsN_r, -eLc_r, -iSeq_r, -iRng_r, ]
  refine w_words H (by omega) (k := 24) (by omega) fun nn μ1 ns hn0 hnh ln hns e1 H1 E1 => ?_
  simp -implicitDefEqProofs (disch := first | (with_reducible assumption) | ((with_reducible show List.length _ = _); rfl) | (simp only [allD_cons, allD_nil, Option.map_some, Option.isSome_some]; done) | (simp only [List.length_cons, List.length_nil, List.length_map]; done) | ((with_reducible refine cMod_of ?_); omega) | ((with_reducible refine cDiv_of ?_ ?_) <;> omega) | ((with_reducible refine okR_of ?_ ?_) <;> omega) | omega | (simp only [List.length_take, List.length_drop, List.length_append, List.length_cons, List.length_nil, List.length_map, List.length_range, List.length_replicate]; omega)) [-sSeq_r, -sRet_r, -sDrop_r, -sSet_r, -sIf_r, -sPar_r, -sAsg_r, -sSetIx_r, -sFor_r, -gsCons_r, -gT_r, -e1_r, -e2_r, -tV_r, -tAndM_r, -tOrM_r, -tNotM_r, -eAnd_r, -eOr_r, -eNot_r, -eIf_r, -aCons_r, -eN_r, -fCall_r, -eCallK_r, -eM_r, -eSl_r, -oSome_r, -eIsN_r, -eLc_r, -iSeq_r, -iRng_r, ]
  refine w_words H1 (by omega) (k := 12) (by omega) fun cn μ2 cs hc0 hch lc hcs e2 H2 E2 => ?_
  have e1' : μ2[nn]? = some (.lst (ns.map .d)) := E2.at hnh e1
  have ncn : nn ≠ cn := by have := lt_of_get e1; omega
  simp -implicitDefEqProofs (disch := first | (with_reducible assumption) | ((with_reducible show List.length _ = _); rfl) | (simp only [allD_cons, allD_nil, Option.map_some, Option.isSome_some]; done) | (simp only [List.length_cons, List.length_nil, List.length_map]; done) | ((with_reducible refine cMod_of ?_); omega) | ((with_reducible refine cDiv_of ?_ ?_) <;> omega) | ((with_reducible refine okR_of ?_ ?_) <;> omega) | omega | (simp only [List.length_take, List.length_drop, List.length_append, List.length_cons, List.length_nil, List.length_map, List.length_range, List.length_replicate]; omega)) [-sSeq_r, -sRet_r, -sDrop_r, -sSet_r, -sIf_r, -sPar_r, -sAsg_r, -sSetIx_r, -sFor_r, -gsCons_r, -gT_r, -e1_r, -e2_r, -tV_r, -tAndM_r, -tOrM_r, -tNotM_r, -eAnd_r, -eOr_r, -eNot_r, -eIf_r, -aCons_r, -eN_r, -fCall_r, -eCallK_r, -eM_r, -eSl_r, -oSome_r, -eIsN_r, -eLc_r, -iSeq_r, -iRng_r, r6_l_plan]
  refine w_take H2 (by omega) (by decide) (by decide) fun r μ3 hr H3 O3 => ?_
  obtain ⟨k, ek, hk⟩ : ∃ k : Nat, (1 : Int) + (r : Int) = (k : Int) ∧ 1 ≤ k ∧ k ≤ 3 := ⟨1 + r, by omega, by omega⟩
  simp -implicitDefEqProofs (disch := first | (with_reducible assumption) | ((with_reducible show List.length _ = _); rfl) | (simp only [allD_cons, allD_nil, Option.map_some, Option.isSome_some]; done) | (simp only [List.length_cons, List.length_nil, List.length_map]; done) | ((with_reducible refine cMod_of ?_); omega) | ((with_reducible refine cDiv_of ?_ ?_) <;> omega) | ((with_reducible refine okR_of ?_ ?_) <;> omega) | omega | (simp only [List.length_take, List.length_drop, List.length_append, List.length_cons, List.length_nil, List.length_map, List.length_range, List.length_replicate]; omega)) [-sSeq_r, -sRet_r, -sDrop_r, -sSet_r, -sIf_r, -sPar_r, -sAsg_r, -sSetIx_r, -sFor_r, -gsCons_r, -gT_r, -e1_r, -e2_r, -tV_r, -tAndM_r, -tOrM_r, -tNotM_r, -eAnd_r, -eOr_r, -eNot_r, -eIf_r, -aCons_r, -eN_r, -fCall_r, -eCallK_r, -eM_r, -eSl_r, -oSome_r, -eIsN_r, -eLc_r, -iSeq_r, -iRng_r, ek, rng1_n (show k ≤ 1000000 by omega)]
  refine Wp_lcF (by simp; omega) ?_
  refine Wp_lcM_y (fun j μ' => Bx h (m + 21) μ' ∧ Ex' [h, nn] μ3 μ' ∧ ∃ ns', ns'.length + j = 24 ∧ (∀ d ∈ ns', Sx d) ∧ μ'[nn]? = some (.lst (ns'.map .d))) (fun y => ∃ d, y = .d d ∧ Sx d) (i := 0) ⟨H3, Ex'.refl _ _, ns, ln, hns, by rw [O3.2 nn hnh]; exact e1'⟩ (fun j b μ' hb I => ?_) fun ys μ' hl2 hy I => ?_
  · obtain ⟨i, hi, rfl⟩ := mem_rng hb
    have hj : j < 3 := by
      have := (List.getElem?_eq_some_iff.mp hb).1
      simp at this
      omega
    obtain ⟨I1, I2, ns', l', s', a'⟩ := I
    obtain ⟨ns2, x, rfl⟩ := snoc_of (l := ns') (by omega)
    have a'' : μ'[nn]? = some (.lst (ns2.map .d ++ [.d x])) := by rw [a', List.map_append]; rfl
    have hL := isLst_c a''
    simp -implicitDefEqProofs (disch := first | (with_reducible assumption) | ((with_reducible show List.length _ = _); rfl) | (simp only [allD_cons, allD_nil, Option.map_some, Option.isSome_some]; done) | (simp only [List.length_cons, List.length_nil, List.length_map]; done) | ((with_reducible refine cMod_of ?_); omega) | ((with_reducible refine cDiv_of ?_ ?_) <;> omega) | ((with_reducible refine okR_of ?_ ?_) <;> omega) | omega | (simp only [List.length_take, List.length_drop, List.length_append, List.length_cons, List.length_nil, List.length_map, List.length_range, List.length_replicate]; omega)) [-sSeq_r, -sRet_r, -sDrop_r, -sSet_r, -sIf_r, -sPar_r, -sAsg_r, -sSetIx_r, -sFor_r, -gsCons_r, -gT_r, -e1_r, -e2_r, -tV_r, -tAndM_r, -tOrM_r, -tNotM_r, -eAnd_r, -eOr_r, -eNot_r, -eIf_r, -aCons_r, -eN_r, -fCall_r, -eCallK_r, -eM_r, -eSl_r, -oSome_r, -eIsN_r, -eLc_r, -iSeq_r, -iRng_r, c1_l_plan, wipeD, dPop_c a'']
    exact ⟨s' x (by simp), I1.set hnh, I2.trans (Ex'.set (by simp)), ns2, by simp at l'; omega, fun d hd => s' d (by simp [hd]), get_set a'⟩
  · obtain ⟨I1, I2, ns', l', s', a'⟩ := I
    obtain ⟨vs, rfl, hv⟩ := all_d hy
    have lv : vs.length = k := by simpa using hl2
    have l' : ns'.length + k = 24 := by simpa using l'
    have e2' : μ'[cn]? = some (.lst (cs.map .d)) := I2.at (by simp; omega) (by rw [O3.2 cn hch]; exact e2)
    have F1 : Ext h μ μ' := ((E1.trans E2).trans (.oth O3)).then I2 (by simp; omega)
    rw [dList_map (by omega)]
    simp -implicitDefEqProofs (disch := first | (with_reducible assumption) | ((with_reducible show List.length _ = _); rfl) | (simp only [allD_cons, allD_nil, Option.map_some, Option.isSome_some]; done) | (simp only [List.length_cons, List.length_nil, List.length_map]; done) | ((with_reducible refine cMod_of ?_); omega) | ((with_reducible refine cDiv_of ?_ ?_) <;> omega) | ((with_reducible refine okR_of ?_ ?_) <;> omega) | omega | (simp only [List.length_take, List.length_drop, List.length_append, List.length_cons, List.length_nil, List.length_map, List.length_range, List.length_replicate]; omega)) [-sSeq_r, -sRet_r, -sDrop_r, -sSet_r, -sIf_r, -sPar_r, -sAsg_r, -sSetIx_r, -sFor_r, -gsCons_r, -gT_r, -e1_r, -e2_r, -tV_r, -tAndM_r, -tOrM_r, -tNotM_r, -eAnd_r, -eOr_r, -eNot_r, -eIf_r, -aCons_r, -eN_r, -fCall_r, -eCallK_r, -eM_r, -eSl_r, -oSome_r, -eIsN_r, -eLc_r, -iSeq_r, -iRng_r, r5_l_plan]
    refine Wp_lcF (by simp; omega) ?_
    have ec := lcM_map (g := gN 10) (te := c2_l_plan) (ρ := wipeD [some (.c h), some (.d (.int 6)), some (.c nn), some (.c cn), some (.d (.list vs)), none, none, none, none, none, none] [10]) (μ := μ') (f := fun b => match b with | .d x => .d (.tuple [x, kindS true]) | b => b) (bs := vs.map .d) (by
      intro b hb
      obtain ⟨x, hx, rfl⟩ := List.mem_map.mp hb
      refine ⟨_, rfl, ?_⟩
      simp [c2_l_plan, wipeD, kindS])
    refine Wp_eq ec ?_
    have ev : (vs.map Dv.d).map (fun b => match b with | .d x => Dv.d (.tuple [x, kindS true]) | b => b) = (vs.map fun x => PyData.tuple [x, kindS true]).map .d := by
      rw [List.map_map, List.map_map]; rfl
    rw [ev, cList_c (by simp; omega), Wp_ok]
    have hkn : (μ' ++ [Cell.lst ((vs.map fun x => PyData.tuple [x, kindS true]).map .d)])[μ'.length]? = some (.lst ((vs.map fun x => PyData.tuple [x, kindS true]).map .d)) := by simp
    have X1 : Ext h μ' (μ' ++ [Cell.lst ((vs.map fun x => PyData.tuple [x, kindS true]).map .d)]) := Ext.app h _ _
    have hl1 : (μ' ++ [Cell.lst ((vs.map fun x => PyData.tuple [x, kindS true]).map .d)]).length = μ'.length + 1 := by simp
    have B1 : Bx h (m + 21) (μ' ++ [Cell.lst ((vs.map fun x => PyData.tuple [x, kindS true]).map .d)]) := I1.app
    have hh : h < μ'.length := by obtain ⟨_, _, _, e, _⟩ := I1; exact lt_of_get e
    have a1 := X1.at hnh a'
    have e3 := X1.at hch e2'
    have lnn := lt_of_get a'
    have lcn := lt_of_get e2'
    generalize μ' ++ [Cell.lst ((vs.map fun x => PyData.tuple [x, kindS true]).map .d)] = ν at hkn X1 B1 hl1 a1 e3 ⊢
    simp -implicitDefEqProofs (disch := first | (with_reducible assumption) | ((with_reducible show List.length _ = _); rfl) | (simp only [allD_cons, allD_nil, Option.map_some, Option.isSome_some]; done) | (simp only [List.length_cons, List.length_nil, List.length_map]; done) | ((with_reducible refine cMod_of ?_); omega) | ((with_reducible refine cDiv_of ?_ ?_) <;> omega) | ((with_reducible refine okR_of ?_ ?_) <;> omega) | omega | (simp only [List.length_take, List.length_drop, List.length_append, List.length_cons, List.length_nil, List.length_map, List.length_range, List.length_replicate]; omega)) [-sSeq_r, -sRet_r, -sDrop_r, -sSet_r, -sIf_r, -sPar_r, -sAsg_r, -sSetIx_r, -sFor_r, -gsCons_r, -gT_r, -e1_r, -e2_r, -tV_r, -tAndM_r, -tOrM_r, -tNotM_r, -eAnd_r, -eOr_r, -eNot_r, -eIf_r, -aCons_r, -eN_r, -fCall_r, -eCallK_r, -eM_r, -eSl_r, -oSome_r, -eIsN_r, -eLc_r, -iSeq_r, -iRng_r, cList_c (xs := []) (by decide)]
    have X2 : Ext h ν (ν ++ [Cell.lst []]) := Ext.app h _ _
    have hsn : (ν ++ [Cell.lst []])[ν.length]? = some (.lst (([] : List D).map .d)) := by simp
    have B2 : Bx h (m + 21) (ν ++ [Cell.lst []]) := B1.app
    have hkn2 := X2.at (by omega) hkn
    have a2 := X2.at hnh a1
    have e4 := X2.at hch e3
    have F2 : Ext h μ (ν ++ [Cell.lst []]) := (F1.trans X1).trans X2
    rw [hl1] at hsn
    have hl2' : (ν ++ [Cell.lst []]).length = μ'.length + 2 := by simp [hl1]
    rw [hl1]
    generalize ν ++ [Cell.lst []] = ν2 at hsn B2 hkn2 a2 e4 F2 hl2' ⊢
    simp -implicitDefEqProofs (disch := first | (with_reducible assumption) | ((with_reducible show List.length _ = _); rfl) | (simp only [allD_cons, allD_nil, Option.map_some, Option.isSome_some]; done) | (simp only [List.length_cons, List.length_nil, List.length_map]; done) | ((with_reducible refine cMod_of ?_); omega) | ((with_reducible refine cDiv_of ?_ ?_) <;> omega) | ((with_reducible refine okR_of ?_ ?_) <;> omega) | omega | (simp only [List.length_take, List.length_drop, List.length_append, List.length_cons, List.length_nil, List.length_map, List.length_range, List.length_replicate]; omega)) [-sSeq_r, -sRet_r, -sDrop_r, -sSet_r, -sIf_r, -sPar_r, -sAsg_r, -sSetIx_r, -sFor_r, -gsCons_r, -gT_r, -e1_r, -e2_r, -tV_r, -tAndM_r, -tOrM_r, -tNotM_r, -eAnd_r, -eOr_r, -eNot_r, -eIf_r, -aCons_r, -eN_r, -fCall_r, -eCallK_r, -eM_r, -eSl_r, -oSome_r, -eIsN_r, -eLc_r, -iSeq_r, -iRng_r, r4_l_plan]
    refine w_shape B2 (by omega) hv (by omega) fun pre μ4 hsh H4 E4 => ?_
    have N4 : Nk h nn μ'.length μ4 ns' (vs.map fun x => PyData.tuple [x, kindS true]) := by
      obtain ⟨v0, vr, rfl⟩ : ∃ a b, vs = a :: b := by
        match vs, lv with
        | a :: b, _ => exact ⟨a, b, rfl⟩
        | [], e => simp at e; omega
      refine ⟨hnh, by omega, by omega, E4.at hnh a2, E4.at (by omega) hkn2, s', fun d hd => ?_, by simp at lv ⊢; omega, by simp at lv ⊢; omega, v0, vr.map fun x => PyData.tuple [x, kindS true], hv v0 (by simp), rfl⟩
      obtain ⟨x, hx, rfl⟩ := List.mem_map.mp hd
      exact ⟨x, true, hv x hx, rfl⟩
    have S4 := E4.at (by omega) hsn
    have C4 := E4.at hch e4
    have F4 := F2.trans E4
    have L4 := E4.1
    simp -implicitDefEqProofs (disch := first | (with_reducible assumption) | ((with_reducible show List.length _ = _); rfl) | (simp only [allD_cons, allD_nil, Option.map_some, Option.isSome_some]; done) | (simp only [List.length_cons, List.length_nil, List.length_map]; done) | ((with_reducible refine cMod_of ?_); omega) | ((with_reducible refine cDiv_of ?_ ?_) <;> omega) | ((with_reducible refine okR_of ?_ ?_) <;> omega) | omega | (simp only [List.length_take, List.length_drop, List.length_append, List.length_cons, List.length_nil, List.length_map, List.length_range, List.length_replicate]; omega)) [-sSeq_r, -sRet_r, -sDrop_r, -sSet_r, -sIf_r, -sPar_r, -sAsg_r, -sSetIx_r, -sFor_r, -gsCons_r, -gT_r, -e1_r, -e2_r, -tV_r, -tAndM_r, -tOrM_r, -tNotM_r, -eAnd_r, -eOr_r, -eNot_r, -eIf_r, -aCons_r, -eN_r, -fCall_r, -eCallK_r, -eM_r, -eSl_r, -oSome_r, -eIsN_r, -eLc_r, -iSeq_r, -iRng_r, r3_l_plan]
    refine w_take H4 (by omega) (by decide) (by decide) fun q μ5 hq H5 O5 => ?_
    simp -implicitDefEqProofs (disch := first | (with_reducible assumption) | ((with_reducible show List.length _ = _); rfl) | (simp only [allD_cons, allD_nil, Option.map_some, Option.isSome_some]; done) | (simp only [List.length_cons, List.length_nil, List.length_map]; done) | ((with_reducible refine cMod_of ?_); omega) | ((with_reducible refine cDiv_of ?_ ?_) <;> omega) | ((with_reducible refine okR_of ?_ ?_) <;> omega) | omega | (simp only [List.length_take, List.length_drop, List.length_append, List.length_cons, List.length_nil, List.length_map, List.length_range, List.length_replicate]; omega)) [-sSeq_r, -sRet_r, -sDrop_r, -sSet_r, -sIf_r, -sPar_r, -sAsg_r, -sSetIx_r, -sFor_r, -gsCons_r, -gT_r, -e1_r, -e2_r, -tV_r, -tAndM_r, -tOrM_r, -tNotM_r, -eAnd_r, -eOr_r, -eNot_r, -eIf_r, -aCons_r, -eN_r, -fCall_r, -eCallK_r, -eM_r, -eSl_r, -oSome_r, -eIsN_r, -eLc_r, -iSeq_r, -iRng_r, rng1_n (show q ≤ 1000000 by omega)]
    refine Wp_forL (fun i ρ μ6 => (∃ a8, ρ = [some (.c h), some (.d (.int 6)), some (.c nn), some (.c cn), some (.d (.list vs)), some (.c μ'.length), some (.c (μ'.length + 1)), some (.d (.tuple (pre ++ [.tuple vs]))), a8, none, none]) ∧ Bx h (m + 40 + 60 * i) μ6 ∧ (∃ ns ks, Nk h nn μ'.length μ6 ns ks) ∧ μ6[cn]? = some (.lst (cs.map .d)) ∧ (∃ ss : List D, ss.length = i ∧ (∀ s ∈ ss, St s) ∧ μ6[μ'.length + 1]? = some (.lst (ss.map .d))) ∧ Ext h μ μ6) (i := 0)
      ⟨⟨_, rfl⟩, H5.mono (by omega), ⟨_, _, N4.ext (.oth O5)⟩, by rw [O5.2 cn hch]; exact C4, ⟨[], rfl, (fun s hs => by cases hs), by rw [O5.2 _ (by omega)]; exact S4⟩, F4.trans (.oth O5)⟩ (fun j b ρ μ6 hb I => ?_) fun ρ' μ6 I => ?_
    · obtain ⟨⟨a8, rfl⟩, J1, ⟨ns6, ks6, J2⟩, J3, ⟨ss, J4, J5, J6⟩, J7⟩ := I
      obtain ⟨i, hi, rfl⟩ := mem_rng hb
      have hj : j < q := by
        have := (List.getElem?_eq_some_iff.mp hb).1
        simpa using this
      have hL := isLst_c J6
      have hic : i < cs.length := by omega
      simp -implicitDefEqProofs (disch := first | (with_reducible assumption) | ((with_reducible show List.length _ = _); rfl) | (simp only [allD_cons, allD_nil, Option.map_some, Option.isSome_some]; done) | (simp only [List.length_cons, List.length_nil, List.length_map]; done) | ((with_reducible refine cMod_of ?_); omega) | ((with_reducible refine cDiv_of ?_ ?_) <;> omega) | ((with_reducible refine okR_of ?_ ?_) <;> omega) | omega | (simp only [List.length_take, List.length_drop, List.length_append, List.length_cons, List.length_nil, List.length_map, List.length_range, List.length_replicate]; omega)) [-sSeq_r, -sRet_r, -sDrop_r, -sSet_r, -sIf_r, -sPar_r, -sAsg_r, -sSetIx_r, -sFor_r, -gsCons_r, -gT_r, -e1_r, -e2_r, -tV_r, -tAndM_r, -tOrM_r, -tNotM_r, -eAnd_r, -eOr_r, -eNot_r, -eIf_r, -aCons_r, -eN_r, -fCall_r, -eCallK_r, -eM_r, -eSl_r, -oSome_r, -eIsN_r, -eLc_r, -iSeq_r, -iRng_r, w1_l_plan, dIx_cd J3 hic]
      have lsn : μ'.length + 1 ∉ [h, nn, μ'.length] := by simp; omega
      have lcn2 : cn ∉ [h, nn, μ'.length] := by simp; omega
      refine w_deed J1 (by omega) J2 fun d μ7 ns7 ks7 hd H7 N7 E7 => ?_
      obtain ⟨ds, rfl, dd, ld, sd⟩ := hd
      have J6' := E7.at lsn J6
      simp -implicitDefEqProofs (disch := first | (with_reducible assumption) | ((with_reducible show List.length _ = _); rfl) | (simp only [allD_cons, allD_nil, Option.map_some, Option.isSome_some]; done) | (simp only [List.length_cons, List.length_nil, List.length_map]; done) | ((with_reducible refine cMod_of ?_); omega) | ((with_reducible refine cDiv_of ?_ ?_) <;> omega) | ((with_reducible refine okR_of ?_ ?_) <;> omega) | omega | (simp only [List.length_take, List.length_drop, List.length_append, List.length_cons, List.length_nil, List.length_map, List.length_range, List.length_replicate]; omega)) [-sSeq_r, -sRet_r, -sDrop_r, -sSet_r, -sIf_r, -sPar_r, -sAsg_r, -sSetIx_r, -sFor_r, -gsCons_r, -gT_r, -e1_r, -e2_r, -tV_r, -tAndM_r, -tOrM_r, -tNotM_r, -eAnd_r, -eOr_r, -eNot_r, -eIf_r, -aCons_r, -eN_r, -fCall_r, -eCallK_r, -eM_r, -eSl_r, -oSome_r, -eIsN_r, -eLc_r, -iSeq_r, -iRng_r, dAdd_tt, dAppend_c J6' (by simp; omega)]
      refine ⟨⟨_, rfl⟩, (H7.set (by omega)).mono (by omega), ⟨ns7, ks7, ?_⟩, ?_, ⟨ss ++ [.tuple (cs[i] :: ds)], by simp; omega, fun s hs => ?_, ?_⟩, ?_⟩
      · obtain ⟨a, b, c, e1, e2, r1, r2, r3, r4, r5⟩ := N7
        exact ⟨a, b, c, by rw [List.getElem?_set_ne (by omega)]; exact e1, by rw [List.getElem?_set_ne (by omega)]; exact e2, r1, r2, r3, r4, r5⟩
      · rw [List.getElem?_set_ne (by omega)]
        exact E7.at lcn2 J3
      · rcases List.mem_append.mp hs with hs | hs
        · exact J5 s hs
        · rw [List.mem_singleton.mp hs]
          exact ⟨_, ds, rfl, hcs _ (List.getElem_mem hic), dd, ld, sd⟩
      · rw [List.map_append]
        exact get_set J6'
      · exact J7.then (E7.trans' (Ex'.set (n := μ'.length + 1) (S := [h, nn, μ'.length, μ'.length + 1]) (by simp)) (by simp)) (by simp; omega)
    · obtain ⟨⟨a8, rfl⟩, J1, ⟨ns6, ks6, J2⟩, J3, ⟨ss, J4, J5, J6⟩, J7⟩ := I
      have lss : ss.length ≤ 6 := by simp at J4; omega
      have c11 : (11 : Nat) < cs.length := by omega
      have c10 : (10 : Nat) < cs.length := by omega
      have d11 : dIx (.c cn) (.d (.int 11)) μ6 = .ok (.d cs[11]) μ6 := dIx_cd J3 c11
      have d10 : dIx (.c cn) (.d (.int 10)) μ6 = .ok (.d cs[10]) μ6 := dIx_cd J3 c10
      simp -implicitDefEqProofs (disch := first | (with_reducible assumption) | ((with_reducible show List.length _ = _); rfl) | (simp only [allD_cons, allD_nil, Option.map_some, Option.isSome_some]; done) | (simp only [List.length_cons, List.length_nil, List.length_map]; done) | ((with_reducible refine cMod_of ?_); omega) | ((with_reducible refine cDiv_of ?_ ?_) <;> omega) | ((with_reducible refine okR_of ?_ ?_) <;> omega) | omega | (simp only [List.length_take, List.length_drop, List.length_append, List.length_cons, List.length_nil, List.length_map, List.length_range, List.length_replicate]; omega)) [-sSeq_r, -sRet_r, -sDrop_r, -sSet_r, -sIf_r, -sPar_r, -sAsg_r, -sSetIx_r, -sFor_r, -gsCons_r, -gT_r, -e1_r, -e2_r, -tV_r, -tAndM_r, -tOrM_r, -tNotM_r, -eAnd_r, -eOr_r, -eNot_r, -eIf_r, -aCons_r, -eN_r, -fCall_r, -eCallK_r, -eM_r, -eSl_r, -oSome_r, -eIsN_r, -eLc_r, -iSeq_r, -iRng_r, r2_l_plan, d11, d10, dToTup_c J6]
      refine w_behinds J6 J5 (by omega) fun bs μ7 hbs lbs E7 => ?_
      have J3' : μ7[cn]? = some (.lst (cs.map .d)) := E7.at (by simp) J3
      have d10 : dIx (.c cn) (.d (.int 10)) μ7 = .ok (.d cs[10]) μ7 := dIx_cd J3' c10
      simp -implicitDefEqProofs (disch := first | (with_reducible assumption) | ((with_reducible show List.length _ = _); rfl) | (simp only [allD_cons, allD_nil, Option.map_some, Option.isSome_some]; done) | (simp only [List.length_cons, List.length_nil, List.length_map]; done) | ((with_reducible refine cMod_of ?_); omega) | ((with_reducible refine cDiv_of ?_ ?_) <;> omega) | ((with_reducible refine okR_of ?_ ?_) <;> omega) | omega | (simp only [List.length_take, List.length_drop, List.length_append, List.length_cons, List.length_nil, List.length_map, List.length_range, List.length_replicate]; omega)) [-sSeq_r, -sRet_r, -sDrop_r, -sSet_r, -sIf_r, -sPar_r, -sAsg_r, -sSetIx_r, -sFor_r, -gsCons_r, -gT_r, -e1_r, -e2_r, -tV_r, -tAndM_r, -tOrM_r, -tNotM_r, -eAnd_r, -eOr_r, -eNot_r, -eIf_r, -aCons_r, -eN_r, -fCall_r, -eCallK_r, -eM_r, -eSl_r, -oSome_r, -eIsN_r, -eLc_r, -iSeq_r, -iRng_r, r1_l_plan, d10]
      have H7 : Bx h (m + 1000) μ7 := by
        obtain ⟨a, b, c, e, r1, r2, r3, r4, r5⟩ := J1
        exact ⟨a, b, c, E7.at (by simp) e, r1, r2, r3, r4, by simp at r5; omega⟩
      refine fin _ μ7 ⟨⟨cs[10], pre, vs, cs[11], cs[10], ss, bs, rfl, hcs _ (List.getElem_mem _), hsh, hv, by omega, by omega, hcs _ (List.getElem_mem _), hcs _ (List.getElem_mem _), J5, lss, hbs, lbs⟩⟩ H7 (J7.then E7 (by simp))
end
end LW

namespace LW
open PySem PySem.Spec PyProof.Rows L2 DL
/-- a step of any word -/
def Sg (s : D) : Prop := ∃ n w r, s = .tuple (n :: .str (T w) :: r) ∧ Sx n ∧ Sm 3 16000 s ∧ (w = [102, 105, 108, 108] → ∃ c cs r', r = c :: .tuple cs :: r' ∧ ∀ d ∈ cs, Sx d)
theorem step_sm {n : D} {ds : List D} (hn : Sx n) (l : ds.length ≤ 5) (h : ∀ e ∈ ds, Sm 2 2500 e) : Sm 3 16000 (.tuple (n :: ds)) := by
  refine (Sm.tup (n := 6) (c := 2500) (k := 2) (fun d hd => ?_) (by simp; omega)).mono (Nat.le_refl _) (by decide)
  rcases List.mem_cons.mp hd with e | hd
  · rw [e]; exact hn.s2
  · exact h d hd
theorem St.sg {s : D} (h : St s) : Sg s := by
  obtain ⟨n, ds, rfl, hn, hd, l, sm⟩ := h
  have s3 := step_sm hn l sm
  cases hd with
  | fill hc => exact ⟨_, _, _, rfl, hn, s3, fun _ => ⟨_, [], [], rfl, fun d h => by cases h⟩⟩
  | _ => exact ⟨_, _, _, rfl, hn, s3, fun e => by simp at e⟩
def bad (w : List Nat) (r : List D) : Bool := (decide ([117, 110, 108, 105, 107, 101] = w) || decide ([108, 111, 111, 107] = w)) || (decide (w = [102, 105, 108, 108]) && match r with
  | _ :: .tuple cs :: _ => !cs.isEmpty
  | _ => false)
def badS (s : D) : Bool := match s with
  | .tuple (_ :: .str w :: r) => bad w.cps.toList r
  | _ => false
theorem dEq_e {cs : List D} {μ : Store} (h : ∀ d ∈ cs, Sx d) : dEq true (.d (.tuple cs)) (.d (.tuple [])) μ = .ok (.d (.bool (!cs.isEmpty))) μ := by
  rw [dEq_dd (by rw [shaped_tup h]; rfl)]
  cases cs <;> rfl
theorem dEq_self {x : Str} {μ : Store} : dEq false (.d (.str x)) (.d (.str x)) μ = .ok (.d (.bool true)) μ := by
  rw [dEq_dd rfl]
  show Out.ok (Dv.d (.bool (x == x))) μ = _
  rw [beq_self_eq_true]
/-- a program that is looked at -/
def FinP (p : D) (v : Bool) : Prop := ∃ srcs n o orr ss tr ts, p = .tuple [srcs, .tuple (.tuple (n :: .tuple (.str (T o) :: orr) :: .tuple ss :: tr) :: ts)] ∧ (∀ s ∈ ss, Sg s) ∧ ss.length ≤ 100 ∧ ts.length ≤ 100 ∧ Sm 40 16000000 p ∧ v = ((ts.isEmpty && decide (o = [111, 102])) && !ss.any badS)
section
variable {h m : Nat} {μ : Store} {P : Dv → Store → Prop}
theorem c1_goes {s : D} (hs : Sg s) {a0 a1 a2 a3 : Option Dv} : c1_goes_by_rows [a0, a1, a2, a3, some (.d s)] μ = .ok (.d (.bool (badS s))) μ := by
  obtain ⟨n, w, r, rfl, hn, _, hf⟩ := hs
  have e : badS (.tuple (n :: .str (T w) :: r)) = bad w r := rfl
  rw [e]
  unfold bad
  by_cases q1 : [117, 110, 108, 105, 107, 101] = w
  · simp [c1_goes_by_rows, dIx1, q1]
  · by_cases q2 : [108, 111, 111, 107] = w
    · simp [c1_goes_by_rows, dIx1, q1, q2]
    · by_cases q3 : w = [102, 105, 108, 108]
      · obtain ⟨c, cs, r', rfl, hc⟩ := hf q3
        subst q3
        simp [c1_goes_by_rows, dIx1, dIx3, dEq_e hc]
      · simp [c1_goes_by_rows, dIx1, q1, q2, q3]
theorem w_goes {p : D} {v : Bool} (hp : FinP p v) (fin : P (.d (.bool v)) μ) : Wp (F_goes_by_rows [.d p] μ) P := by
  obtain ⟨srcs, n, o, orr, ss, tr, ts, rfl, hs, l1, l2, _, ev⟩ := hp
  unfold F_goes_by_rows B_goes_by_rows
  apply Wp_run
  simp -implicitDefEqProofs (disch := first | (with_reducible assumption) | ((with_reducible show List.length _ = _); rfl) | (simp only [allD_cons, allD_nil, Option.map_some, Option.isSome_some]; done) | (simp only [List.length_cons, List.length_nil, List.length_map]; done) | ((with_reducible refine cMod_of ?_); omega) | ((with_reducible refine cDiv_of ?_ ?_) <;> omega) | ((with_reducible refine okR_of ?_ ?_) <;> omega) | omega | (simp only [List.length_take, List.length_drop, List.length_append, List.length_cons, List.length_nil, List.length_map, List.length_range, List.length_replicate]; omega)) [-sSeq_r, -sRet_r, -sDrop_r, -sSet_r, -sIf_r, -sPar_r, -sAsg_r, -sSetIx_r, -sFor_r, -gsCons_r, -gT_r, -e1_r, -e2_r, -tV_r, -tAndM_r, -tOrM_r, -tNotM_r, -eAnd_r, -eOr_r, -eNot_r, -eIf_r, -aCons_r, -eN_r, -fCall_r, -eCallK_r, -eM_r, -eSl_r, -oSome_r, -eIsN_r, -eLc_r, -iSeq_r, -iRng_r, r3_goes_by_rows]
  cases ts with
  | cons t ts =>
    have ev : v = false := ev
    subst ev
    have ne : ¬ ((((ts.length + 1 + 1 : Nat) : Int)) = 1) := by omega
    simp -implicitDefEqProofs (disch := first | (with_reducible assumption) | ((with_reducible show List.length _ = _); rfl) | (simp only [allD_cons, allD_nil, Option.map_some, Option.isSome_some]; done) | (simp only [List.length_cons, List.length_nil, List.length_map]; done) | ((with_reducible refine cMod_of ?_); omega) | ((with_reducible refine cDiv_of ?_ ?_) <;> omega) | ((with_reducible refine okR_of ?_ ?_) <;> omega) | omega | (simp only [List.length_take, List.length_drop, List.length_append, List.length_cons, List.length_nil, List.length_map, List.length_range, List.length_replicate]; omega)) [-sSeq_r, -sRet_r, -sDrop_r, -sSet_r, -sIf_r, -sPar_r, -sAsg_r, -sSetIx_r, -sFor_r, -gsCons_r, -gT_r, -e1_r, -e2_r, -tV_r, -tAndM_r, -tOrM_r, -tNotM_r, -eAnd_r, -eOr_r, -eNot_r, -eIf_r, -aCons_r, -eN_r, -fCall_r, -eCallK_r, -eM_r, -eSl_r, -oSome_r, -eIsN_r, -eLc_r, -iSeq_r, -iRng_r, ]
    have e2 : (decide ((ts.length : Int) + 1 + 1 = 1)) = false := decide_eq_false (by omega)
    simp -implicitDefEqProofs (disch := first | (with_reducible assumption) | ((with_reducible show List.length _ = _); rfl) | (simp only [allD_cons, allD_nil, Option.map_some, Option.isSome_some]; done) | (simp only [List.length_cons, List.length_nil, List.length_map]; done) | ((with_reducible refine cMod_of ?_); omega) | ((with_reducible refine cDiv_of ?_ ?_) <;> omega) | ((with_reducible refine okR_of ?_ ?_) <;> omega) | omega | (simp only [List.length_take, List.length_drop, List.length_append, List.length_cons, List.length_nil, List.length_map, List.length_range, List.length_replicate]; omega)) [-sSeq_r, -sRet_r, -sDrop_r, -sSet_r, -sIf_r, -sPar_r, -sAsg_r, -sSetIx_r, -sFor_r, -gsCons_r, -gT_r, -e1_r, -e2_r, -tV_r, -tAndM_r, -tOrM_r, -tNotM_r, -eAnd_r, -eOr_r, -eNot_r, -eIf_r, -aCons_r, -eN_r, -fCall_r, -eCallK_r, -eM_r, -eSl_r, -oSome_r, -eIsN_r, -eLc_r, -iSeq_r, -iRng_r, e2]
    first
      | exact fin
      | (refine kOr_s (fun q => ?_) fun q => ?_
         · simp -implicitDefEqProofs (disch := first | (with_reducible assumption) | ((with_reducible show List.length _ = _); rfl) | (simp only [allD_cons, allD_nil, Option.map_some, Option.isSome_some]; done) | (simp only [List.length_cons, List.length_nil, List.length_map]; done) | ((with_reducible refine cMod_of ?_); omega) | ((with_reducible refine cDiv_of ?_ ?_) <;> omega) | ((with_reducible refine okR_of ?_ ?_) <;> omega) | omega | (simp only [List.length_take, List.length_drop, List.length_append, List.length_cons, List.length_nil, List.length_map, List.length_range, List.length_replicate]; omega)) [-sSeq_r, -sRet_r, -sDrop_r, -sSet_r, -sIf_r, -sPar_r, -sAsg_r, -sSetIx_r, -sFor_r, -gsCons_r, -gT_r, -e1_r, -e2_r, -tV_r, -tAndM_r, -tOrM_r, -tNotM_r, -eAnd_r, -eOr_r, -eNot_r, -eIf_r, -aCons_r, -eN_r, -fCall_r, -eCallK_r, -eM_r, -eSl_r, -oSome_r, -eIsN_r, -eLc_r, -iSeq_r, -iRng_r, ]
           exact fin
         · simp at q
           omega)
  | nil =>
    simp -implicitDefEqProofs (disch := first | (with_reducible assumption) | ((with_reducible show List.length _ = _); rfl) | (simp only [allD_cons, allD_nil, Option.map_some, Option.isSome_some]; done) | (simp only [List.length_cons, List.length_nil, List.length_map]; done) | ((with_reducible refine cMod_of ?_); omega) | ((with_reducible refine cDiv_of ?_ ?_) <;> omega) | ((with_reducible refine okR_of ?_ ?_) <;> omega) | omega | (simp only [List.length_take, List.length_drop, List.length_append, List.length_cons, List.length_nil, List.length_map, List.length_range, List.length_replicate]; omega)) [-sSeq_r, -sRet_r, -sDrop_r, -sSet_r, -sIf_r, -sPar_r, -sAsg_r, -sSetIx_r, -sFor_r, -gsCons_r, -gT_r, -e1_r, -e2_r, -tV_r, -tAndM_r, -tOrM_r, -tNotM_r, -eAnd_r, -eOr_r, -eNot_r, -eIf_r, -aCons_r, -eN_r, -fCall_r, -eCallK_r, -eM_r, -eSl_r, -oSome_r, -eIsN_r, -eLc_r, -iSeq_r, -iRng_r, dIx0, dIx1]
    by_cases q : o = [111, 102]
    · simp -implicitDefEqProofs (disch := first | (with_reducible assumption) | ((with_reducible show List.length _ = _); rfl) | (simp only [allD_cons, allD_nil, Option.map_some, Option.isSome_some]; done) | (simp only [List.length_cons, List.length_nil, List.length_map]; done) | ((with_reducible refine cMod_of ?_); omega) | ((with_reducible refine cDiv_of ?_ ?_) <;> omega) | ((with_reducible refine okR_of ?_ ?_) <;> omega) | omega | (simp only [List.length_take, List.length_drop, List.length_append, List.length_cons, List.length_nil, List.length_map, List.length_range, List.length_replicate]; omega)) [-sSeq_r, -sRet_r, -sDrop_r, -sSet_r, -sIf_r, -sPar_r, -sAsg_r, -sSetIx_r, -sFor_r, -gsCons_r, -gT_r, -e1_r, -e2_r, -tV_r, -tAndM_r, -tOrM_r, -tNotM_r, -eAnd_r, -eOr_r, -eNot_r, -eIf_r, -aCons_r, -eN_r, -fCall_r, -eCallK_r, -eM_r, -eSl_r, -oSome_r, -eIsN_r, -eLc_r, -iSeq_r, -iRng_r, q, r2_goes_by_rows, r1_goes_by_rows, dIx0, dIx1, dIx2]
      refine Wp_lcF (by simp; omega) ?_
      have ec := lcM_map (g := gN 4) (te := c1_goes_by_rows) (ρ := wipeD [some (.d (.tuple [srcs, .tuple [.tuple (n :: .tuple (.str (T [111, 102]) :: orr) :: .tuple ss :: tr)]])), some (.d srcs), some (.d (.tuple [.tuple (n :: .tuple (.str (T [111, 102]) :: orr) :: .tuple ss :: tr)])), some (.d (.tuple ss)), none] [4]) (μ := μ) (f := fun b => match b with | .d x => .d (.bool (badS x)) | b => b) (bs := ss.map .d) (by
        intro b hb
        obtain ⟨x, hx, rfl⟩ := List.mem_map.mp hb
        exact ⟨_, rfl, c1_goes (hs x hx)⟩)
      subst q
      refine Wp_eq ec ?_
      have e2 : (ss.map Dv.d).map (fun b => match b with | .d x => Dv.d (.bool (badS x)) | b => b) = ((ss.map badS).map PyData.bool).map .d := by
        rw [List.map_map, List.map_map, List.map_map]; rfl
      rw [e2, dList_map (by simp; omega)]
      have e3 : (ss.map badS).any id = ss.any badS := by rw [List.any_map]; rfl
      have ea : dAll (fun ks => ks.any id) [.d (.list ((ss.map badS).map PyData.bool))] μ = .ok (.d (.bool (ss.any badS))) μ := by rw [dAll_b, e3]
      rw [List.map_map] at ea
      simp -implicitDefEqProofs (disch := first | (with_reducible assumption) | ((with_reducible show List.length _ = _); rfl) | (simp only [allD_cons, allD_nil, Option.map_some, Option.isSome_some]; done) | (simp only [List.length_cons, List.length_nil, List.length_map]; done) | ((with_reducible refine cMod_of ?_); omega) | ((with_reducible refine cDiv_of ?_ ?_) <;> omega) | ((with_reducible refine okR_of ?_ ?_) <;> omega) | omega | (simp only [List.length_take, List.length_drop, List.length_append, List.length_cons, List.length_nil, List.length_map, List.length_range, List.length_replicate]; omega)) [-sSeq_r, -sRet_r, -sDrop_r, -sSet_r, -sIf_r, -sPar_r, -sAsg_r, -sSetIx_r, -sFor_r, -gsCons_r, -gT_r, -e1_r, -e2_r, -tV_r, -tAndM_r, -tOrM_r, -tNotM_r, -eAnd_r, -eOr_r, -eNot_r, -eIf_r, -aCons_r, -eN_r, -fCall_r, -eCallK_r, -eM_r, -eSl_r, -oSome_r, -eIsN_r, -eLc_r, -iSeq_r, -iRng_r, ea]
      have ev : v = !ss.any badS := by rw [ev]; simp
      rw [← ev]
      exact fin
    · have ev : v = false := by rw [ev]; simp [q]
      subst ev
      simp -implicitDefEqProofs (disch := first | (with_reducible assumption) | ((with_reducible show List.length _ = _); rfl) | (simp only [allD_cons, allD_nil, Option.map_some, Option.isSome_some]; done) | (simp only [List.length_cons, List.length_nil, List.length_map]; done) | ((with_reducible refine cMod_of ?_); omega) | ((with_reducible refine cDiv_of ?_ ?_) <;> omega) | ((with_reducible refine okR_of ?_ ?_) <;> omega) | omega | (simp only [List.length_take, List.length_drop, List.length_append, List.length_cons, List.length_nil, List.length_map, List.length_range, List.length_replicate]; omega)) [-sSeq_r, -sRet_r, -sDrop_r, -sSet_r, -sIf_r, -sPar_r, -sAsg_r, -sSetIx_r, -sFor_r, -gsCons_r, -gT_r, -e1_r, -e2_r, -tV_r, -tAndM_r, -tOrM_r, -tNotM_r, -eAnd_r, -eOr_r, -eNot_r, -eIf_r, -aCons_r, -eN_r, -fCall_r, -eCallK_r, -eM_r, -eSl_r, -oSome_r, -eIsN_r, -eLc_r, -iSeq_r, -iRng_r, q]
      exact fin
theorem w_goesL {p : D} {Q : Fl → Store → Prop} : ∀ {ss : List D} {a : Option Dv}, (∀ s ∈ ss, Sg s) → (ss.any badS = true → Q (.rt (.d (.bool false))) μ) → (ss.any badS = false → ∀ a, Q (.nx [some (.d p), a]) μ) → Wp (forL (gN 1) w1_l_goes (ss.map .d) [some (.d p), a] μ) Q
  | [], a, _, _, f2 => .mk (f2 rfl a)
  | s :: ss, a, hs, f1, f2 => by
    have ih := w_goesL (p := p) (Q := Q) (ss := ss) (a := some (.d s)) fun t ht => hs t (List.mem_cons_of_mem _ ht)
    rw [List.any_cons] at f1 f2
    unfold forL
    obtain ⟨n, w, r, rfl, hn, _, hf⟩ := hs s List.mem_cons_self
    have e : badS (.tuple (n :: .str (T w) :: r)) = bad w r := rfl
    rw [e] at f1 f2
    unfold bad at f1 f2
    show Wp (((w1_l_goes [some (.d p), some (.d (.tuple (n :: .str (T w) :: r)))] μ).bind _)) Q
    rw [Wp_bind]
    by_cases q1 : [117, 110, 108, 105, 107, 101] = w
    · simp -implicitDefEqProofs (disch := first | (with_reducible assumption) | ((with_reducible show List.length _ = _); rfl) | (simp only [allD_cons, allD_nil, Option.map_some, Option.isSome_some]; done) | (simp only [List.length_cons, List.length_nil, List.length_map]; done) | ((with_reducible refine cMod_of ?_); omega) | ((with_reducible refine cDiv_of ?_ ?_) <;> omega) | ((with_reducible refine okR_of ?_ ?_) <;> omega) | omega | (simp only [List.length_take, List.length_drop, List.length_append, List.length_cons, List.length_nil, List.length_map, List.length_range, List.length_replicate]; omega)) [-sSeq_r, -sRet_r, -sDrop_r, -sSet_r, -sIf_r, -sPar_r, -sAsg_r, -sSetIx_r, -sFor_r, -gsCons_r, -gT_r, -e1_r, -e2_r, -tV_r, -tAndM_r, -tOrM_r, -tNotM_r, -eAnd_r, -eOr_r, -eNot_r, -eIf_r, -aCons_r, -eN_r, -fCall_r, -eCallK_r, -eM_r, -eSl_r, -oSome_r, -eIsN_r, -eLc_r, -iSeq_r, -iRng_r, w1_l_goes, dIx1, q1]
      exact f1 (by simp [q1])
    · by_cases q2 : [108, 111, 111, 107] = w
      · simp -implicitDefEqProofs (disch := first | (with_reducible assumption) | ((with_reducible show List.length _ = _); rfl) | (simp only [allD_cons, allD_nil, Option.map_some, Option.isSome_some]; done) | (simp only [List.length_cons, List.length_nil, List.length_map]; done) | ((with_reducible refine cMod_of ?_); omega) | ((with_reducible refine cDiv_of ?_ ?_) <;> omega) | ((with_reducible refine okR_of ?_ ?_) <;> omega) | omega | (simp only [List.length_take, List.length_drop, List.length_append, List.length_cons, List.length_nil, List.length_map, List.length_range, List.length_replicate]; omega)) [-sSeq_r, -sRet_r, -sDrop_r, -sSet_r, -sIf_r, -sPar_r, -sAsg_r, -sSetIx_r, -sFor_r, -gsCons_r, -gT_r, -e1_r, -e2_r, -tV_r, -tAndM_r, -tOrM_r, -tNotM_r, -eAnd_r, -eOr_r, -eNot_r, -eIf_r, -aCons_r, -eN_r, -fCall_r, -eCallK_r, -eM_r, -eSl_r, -oSome_r, -eIsN_r, -eLc_r, -iSeq_r, -iRng_r, w1_l_goes, dIx1, q1, q2]
        exact f1 (by simp [q2])
      · by_cases q3 : w = [102, 105, 108, 108]
        · obtain ⟨c, cs, r', rfl, hc⟩ := hf q3
          subst q3
          simp -implicitDefEqProofs (disch := first | (with_reducible assumption) | ((with_reducible show List.length _ = _); rfl) | (simp only [allD_cons, allD_nil, Option.map_some, Option.isSome_some]; done) | (simp only [List.length_cons, List.length_nil, List.length_map]; done) | ((with_reducible refine cMod_of ?_); omega) | ((with_reducible refine cDiv_of ?_ ?_) <;> omega) | ((with_reducible refine okR_of ?_ ?_) <;> omega) | omega | (simp only [List.length_take, List.length_drop, List.length_append, List.length_cons, List.length_nil, List.length_map, List.length_range, List.length_replicate]; omega)) [-sSeq_r, -sRet_r, -sDrop_r, -sSet_r, -sIf_r, -sPar_r, -sAsg_r, -sSetIx_r, -sFor_r, -gsCons_r, -gT_r, -e1_r, -e2_r, -tV_r, -tAndM_r, -tOrM_r, -tNotM_r, -eAnd_r, -eOr_r, -eNot_r, -eIf_r, -aCons_r, -eN_r, -fCall_r, -eCallK_r, -eM_r, -eSl_r, -oSome_r, -eIsN_r, -eLc_r, -iSeq_r, -iRng_r, w1_l_goes, dIx1, dIx3, dEq_e hc]
          cases cs with
          | nil =>
            simp -implicitDefEqProofs (disch := first | (with_reducible assumption) | ((with_reducible show List.length _ = _); rfl) | (simp only [allD_cons, allD_nil, Option.map_some, Option.isSome_some]; done) | (simp only [List.length_cons, List.length_nil, List.length_map]; done) | ((with_reducible refine cMod_of ?_); omega) | ((with_reducible refine cDiv_of ?_ ?_) <;> omega) | ((with_reducible refine okR_of ?_ ?_) <;> omega) | omega | (simp only [List.length_take, List.length_drop, List.length_append, List.length_cons, List.length_nil, List.length_map, List.length_range, List.length_replicate]; omega)) [-sSeq_r, -sRet_r, -sDrop_r, -sSet_r, -sIf_r, -sPar_r, -sAsg_r, -sSetIx_r, -sFor_r, -gsCons_r, -gT_r, -e1_r, -e2_r, -tV_r, -tAndM_r, -tOrM_r, -tNotM_r, -eAnd_r, -eOr_r, -eNot_r, -eIf_r, -aCons_r, -eN_r, -fCall_r, -eCallK_r, -eM_r, -eSl_r, -oSome_r, -eIsN_r, -eLc_r, -iSeq_r, -iRng_r, ]
            exact ih (fun z => f1 (by simp [z])) fun z => f2 (by simp [z])
          | cons x xs =>
            simp -implicitDefEqProofs (disch := first | (with_reducible assumption) | ((with_reducible show List.length _ = _); rfl) | (simp only [allD_cons, allD_nil, Option.map_some, Option.isSome_some]; done) | (simp only [List.length_cons, List.length_nil, List.length_map]; done) | ((with_reducible refine cMod_of ?_); omega) | ((with_reducible refine cDiv_of ?_ ?_) <;> omega) | ((with_reducible refine okR_of ?_ ?_) <;> omega) | omega | (simp only [List.length_take, List.length_drop, List.length_append, List.length_cons, List.length_nil, List.length_map, List.length_range, List.length_replicate]; omega)) [-sSeq_r, -sRet_r, -sDrop_r, -sSet_r, -sIf_r, -sPar_r, -sAsg_r, -sSetIx_r, -sFor_r, -gsCons_r, -gT_r, -e1_r, -e2_r, -tV_r, -tAndM_r, -tOrM_r, -tNotM_r, -eAnd_r, -eOr_r, -eNot_r, -eIf_r, -aCons_r, -eN_r, -fCall_r, -eCallK_r, -eM_r, -eSl_r, -oSome_r, -eIsN_r, -eLc_r, -iSeq_r, -iRng_r, ]
            exact f1 (by simp)
        · simp -implicitDefEqProofs (disch := first | (with_reducible assumption) | ((with_reducible show List.length _ = _); rfl) | (simp only [allD_cons, allD_nil, Option.map_some, Option.isSome_some]; done) | (simp only [List.length_cons, List.length_nil, List.length_map]; done) | ((with_reducible refine cMod_of ?_); omega) | ((with_reducible refine cDiv_of ?_ ?_) <;> omega) | ((with_reducible refine okR_of ?_ ?_) <;> omega) | omega | (simp only [List.length_take, List.length_drop, List.length_append, List.length_cons, List.length_nil, List.length_map, List.length_range, List.length_replicate]; omega)) [-sSeq_r, -sRet_r, -sDrop_r, -sSet_r, -sIf_r, -sPar_r, -sAsg_r, -sSetIx_r, -sFor_r, -gsCons_r, -gT_r, -e1_r, -e2_r, -tV_r, -tAndM_r, -tOrM_r, -tNotM_r, -eAnd_r, -eOr_r, -eNot_r, -eIf_r, -aCons_r, -eN_r, -fCall_r, -eCallK_r, -eM_r, -eSl_r, -oSome_r, -eIsN_r, -eLc_r, -iSeq_r, -iRng_r, w1_l_goes, dIx1, q1, q2, q3]
          exact ih (fun z => f1 (by simp [z])) fun z => f2 (by simp [z, q1, q2, q3])
theorem w_lgoes {p : D} {v : Bool} (hp : FinP p v) (fin : P (.d (.bool v)) μ) : Wp (F_l_goes [.d p] μ) P := by
  obtain ⟨srcs, n, o, orr, ss, tr, ts, rfl, hs, l1, l2, _, ev⟩ := hp
  unfold F_l_goes B_l_goes
  apply Wp_run
  simp -implicitDefEqProofs (disch := first | (with_reducible assumption) | ((with_reducible show List.length _ = _); rfl) | (simp only [allD_cons, allD_nil, Option.map_some, Option.isSome_some]; done) | (simp only [List.length_cons, List.length_nil, List.length_map]; done) | ((with_reducible refine cMod_of ?_); omega) | ((with_reducible refine cDiv_of ?_ ?_) <;> omega) | ((with_reducible refine okR_of ?_ ?_) <;> omega) | omega | (simp only [List.length_take, List.length_drop, List.length_append, List.length_cons, List.length_nil, List.length_map, List.length_range, List.length_replicate]; omega)) [-sSeq_r, -sRet_r, -sDrop_r, -sSet_r, -sIf_r, -sPar_r, -sAsg_r, -sSetIx_r, -sFor_r, -gsCons_r, -gT_r, -e1_r, -e2_r, -tV_r, -tAndM_r, -tOrM_r, -tNotM_r, -eAnd_r, -eOr_r, -eNot_r, -eIf_r, -aCons_r, -eN_r, -fCall_r, -eCallK_r, -eM_r, -eSl_r, -oSome_r, -eIsN_r, -eLc_r, -iSeq_r, -iRng_r, dIx0, dIx1]
  cases ts with
  | cons t ts =>
    have ev : v = false := ev
    subst ev
    have e2 : (decide ((1 : Int) < (ts.length : Int) + 1 + 1)) = true := decide_eq_true (by omega)
    simp -implicitDefEqProofs (disch := first | (with_reducible assumption) | ((with_reducible show List.length _ = _); rfl) | (simp only [allD_cons, allD_nil, Option.map_some, Option.isSome_some]; done) | (simp only [List.length_cons, List.length_nil, List.length_map]; done) | ((with_reducible refine cMod_of ?_); omega) | ((with_reducible refine cDiv_of ?_ ?_) <;> omega) | ((with_reducible refine okR_of ?_ ?_) <;> omega) | omega | (simp only [List.length_take, List.length_drop, List.length_append, List.length_cons, List.length_nil, List.length_map, List.length_range, List.length_replicate]; omega)) [-sSeq_r, -sRet_r, -sDrop_r, -sSet_r, -sIf_r, -sPar_r, -sAsg_r, -sSetIx_r, -sFor_r, -gsCons_r, -gT_r, -e1_r, -e2_r, -tV_r, -tAndM_r, -tOrM_r, -tNotM_r, -eAnd_r, -eOr_r, -eNot_r, -eIf_r, -aCons_r, -eN_r, -fCall_r, -eCallK_r, -eM_r, -eSl_r, -oSome_r, -eIsN_r, -eLc_r, -iSeq_r, -iRng_r, e2]
    first
      | exact fin
      | (refine kOr_s (fun q => ?_) fun q => ?_
         · simp -implicitDefEqProofs (disch := first | (with_reducible assumption) | ((with_reducible show List.length _ = _); rfl) | (simp only [allD_cons, allD_nil, Option.map_some, Option.isSome_some]; done) | (simp only [List.length_cons, List.length_nil, List.length_map]; done) | ((with_reducible refine cMod_of ?_); omega) | ((with_reducible refine cDiv_of ?_ ?_) <;> omega) | ((with_reducible refine okR_of ?_ ?_) <;> omega) | omega | (simp only [List.length_take, List.length_drop, List.length_append, List.length_cons, List.length_nil, List.length_map, List.length_range, List.length_replicate]; omega)) [-sSeq_r, -sRet_r, -sDrop_r, -sSet_r, -sIf_r, -sPar_r, -sAsg_r, -sSetIx_r, -sFor_r, -gsCons_r, -gT_r, -e1_r, -e2_r, -tV_r, -tAndM_r, -tOrM_r, -tNotM_r, -eAnd_r, -eOr_r, -eNot_r, -eIf_r, -aCons_r, -eN_r, -fCall_r, -eCallK_r, -eM_r, -eSl_r, -oSome_r, -eIsN_r, -eLc_r, -iSeq_r, -iRng_r, ]
           exact fin
         · simp at q
           omega)
  | nil =>
    simp -implicitDefEqProofs (disch := first | (with_reducible assumption) | ((with_reducible show List.length _ = _); rfl) | (simp only [allD_cons, allD_nil, Option.map_some, Option.isSome_some]; done) | (simp only [List.length_cons, List.length_nil, List.length_map]; done) | ((with_reducible refine cMod_of ?_); omega) | ((with_reducible refine cDiv_of ?_ ?_) <;> omega) | ((with_reducible refine okR_of ?_ ?_) <;> omega) | omega | (simp only [List.length_take, List.length_drop, List.length_append, List.length_cons, List.length_nil, List.length_map, List.length_range, List.length_replicate]; omega)) [-sSeq_r, -sRet_r, -sDrop_r, -sSet_r, -sIf_r, -sPar_r, -sAsg_r, -sSetIx_r, -sFor_r, -gsCons_r, -gT_r, -e1_r, -e2_r, -tV_r, -tAndM_r, -tOrM_r, -tNotM_r, -eAnd_r, -eOr_r, -eNot_r, -eIf_r, -aCons_r, -eN_r, -fCall_r, -eCallK_r, -eM_r, -eSl_r, -oSome_r, -eIsN_r, -eLc_r, -iSeq_r, -iRng_r, ]
    by_cases q : o = [111, 102]
    · subst q
      simp -implicitDefEqProofs (disch := first | (with_reducible assumption) | ((with_reducible show List.length _ = _); rfl) | (simp only [allD_cons, allD_nil, Option.map_some, Option.isSome_some]; done) | (simp only [List.length_cons, List.length_nil, List.length_map]; done) | ((with_reducible refine cMod_of ?_); omega) | ((with_reducible refine cDiv_of ?_ ?_) <;> omega) | ((with_reducible refine okR_of ?_ ?_) <;> omega) | omega | (simp only [List.length_take, List.length_drop, List.length_append, List.length_cons, List.length_nil, List.length_map, List.length_range, List.length_replicate]; omega)) [-sSeq_r, -sRet_r, -sDrop_r, -sSet_r, -sIf_r, -sPar_r, -sAsg_r, -sSetIx_r, -sFor_r, -gsCons_r, -gT_r, -e1_r, -e2_r, -tV_r, -tAndM_r, -tOrM_r, -tNotM_r, -eAnd_r, -eOr_r, -eNot_r, -eIf_r, -aCons_r, -eN_r, -fCall_r, -eCallK_r, -eM_r, -eSl_r, -oSome_r, -eIsN_r, -eLc_r, -iSeq_r, -iRng_r, r2_l_goes, dIx0, dIx1, dIx2]
      refine w_goesL hs (fun z => ?_) fun z a => ?_
      · simp -implicitDefEqProofs (disch := first | (with_reducible assumption) | ((with_reducible show List.length _ = _); rfl) | (simp only [allD_cons, allD_nil, Option.map_some, Option.isSome_some]; done) | (simp only [List.length_cons, List.length_nil, List.length_map]; done) | ((with_reducible refine cMod_of ?_); omega) | ((with_reducible refine cDiv_of ?_ ?_) <;> omega) | ((with_reducible refine okR_of ?_ ?_) <;> omega) | omega | (simp only [List.length_take, List.length_drop, List.length_append, List.length_cons, List.length_nil, List.length_map, List.length_range, List.length_replicate]; omega)) [-sSeq_r, -sRet_r, -sDrop_r, -sSet_r, -sIf_r, -sPar_r, -sAsg_r, -sSetIx_r, -sFor_r, -gsCons_r, -gT_r, -e1_r, -e2_r, -tV_r, -tAndM_r, -tOrM_r, -tNotM_r, -eAnd_r, -eOr_r, -eNot_r, -eIf_r, -aCons_r, -eN_r, -fCall_r, -eCallK_r, -eM_r, -eSl_r, -oSome_r, -eIsN_r, -eLc_r, -iSeq_r, -iRng_r, ]
        have ev : v = false := by rw [ev, z]; rfl
        rw [← ev]
        exact fin
      · simp -implicitDefEqProofs (disch := first | (with_reducible assumption) | ((with_reducible show List.length _ = _); rfl) | (simp only [allD_cons, allD_nil, Option.map_some, Option.isSome_some]; done) | (simp only [List.length_cons, List.length_nil, List.length_map]; done) | ((with_reducible refine cMod_of ?_); omega) | ((with_reducible refine cDiv_of ?_ ?_) <;> omega) | ((with_reducible refine okR_of ?_ ?_) <;> omega) | omega | (simp only [List.length_take, List.length_drop, List.length_append, List.length_cons, List.length_nil, List.length_map, List.length_range, List.length_replicate]; omega)) [-sSeq_r, -sRet_r, -sDrop_r, -sSet_r, -sIf_r, -sPar_r, -sAsg_r, -sSetIx_r, -sFor_r, -gsCons_r, -gT_r, -e1_r, -e2_r, -tV_r, -tAndM_r, -tOrM_r, -tNotM_r, -eAnd_r, -eOr_r, -eNot_r, -eIf_r, -aCons_r, -eN_r, -fCall_r, -eCallK_r, -eM_r, -eSl_r, -oSome_r, -eIsN_r, -eLc_r, -iSeq_r, -iRng_r, r1_l_goes]
        have ev : v = true := by rw [ev, z]; rfl
        rw [← ev]
        exact fin
    · have ev : v = false := by rw [ev]; simp [q]
      subst ev
      simp -implicitDefEqProofs (disch := first | (with_reducible assumption) | ((with_reducible show List.length _ = _); rfl) | (simp only [allD_cons, allD_nil, Option.map_some, Option.isSome_some]; done) | (simp only [List.length_cons, List.length_nil, List.length_map]; done) | ((with_reducible refine cMod_of ?_); omega) | ((with_reducible refine cDiv_of ?_ ?_) <;> omega) | ((with_reducible refine okR_of ?_ ?_) <;> omega) | omega | (simp only [List.length_take, List.length_drop, List.length_append, List.length_cons, List.length_nil, List.length_map, List.length_range, List.length_replicate]; omega)) [-sSeq_r, -sRet_r, -sDrop_r, -sSet_r, -sIf_r, -sPar_r, -sAsg_r, -sSetIx_r, -sFor_r, -gsCons_r, -gT_r, -e1_r, -e2_r, -tV_r, -tAndM_r, -tOrM_r, -tNotM_r, -eAnd_r, -eOr_r, -eNot_r, -eIf_r, -aCons_r, -eN_r, -fCall_r, -eCallK_r, -eM_r, -eSl_r, -oSome_r, -eIsN_r, -eLc_r, -iSeq_r, -iRng_r, q, dIx0, dIx1]
      exact fin
theorem w_right {p : D} {v : Bool} (hp : FinP p v) (fin : P (.d (.bool true)) μ) : Wp (F_l_right [.d p] μ) P := by
  have sm : Sm 40 16000000 p := by obtain ⟨_, _, _, _, _, _, _, _, _, _, _, sm, _⟩ := hp; exact sm
  have sv : Sm 40 16000000 (.list [.bool v, .bool v, .bool v]) := (Sm.list (n := 3) (c := 5) (k := 0) (fun d hd => by
    simp only [List.mem_cons, List.not_mem_nil, or_false] at hd
    rcases hd with rfl | rfl | rfl <;> exact Sm.bool v) (by simp)).mono (by decide) (by decide)
  have er := dRepr_sm (μ := μ) sm
  have ev := dRepr_sm (μ := μ) sv
  unfold F_l_right B_l_right
  apply Wp_run
  simp -implicitDefEqProofs (disch := first | (with_reducible assumption) | ((with_reducible show List.length _ = _); rfl) | (simp only [allD_cons, allD_nil, Option.map_some, Option.isSome_some]; done) | (simp only [List.length_cons, List.length_nil, List.length_map]; done) | ((with_reducible refine cMod_of ?_); omega) | ((with_reducible refine cDiv_of ?_ ?_) <;> omega) | ((with_reducible refine okR_of ?_ ?_) <;> omega) | omega | (simp only [List.length_take, List.length_drop, List.length_append, List.length_cons, List.length_nil, List.length_map, List.length_range, List.length_replicate]; omega)) [-sSeq_r, -sRet_r, -sDrop_r, -sSet_r, -sIf_r, -sPar_r, -sAsg_r, -sSetIx_r, -sFor_r, -gsCons_r, -gT_r, -e1_r, -e2_r, -tV_r, -tAndM_r, -tOrM_r, -tNotM_r, -eAnd_r, -eOr_r, -eNot_r, -eIf_r, -aCons_r, -eN_r, -fCall_r, -eCallK_r, -eM_r, -eSl_r, -oSome_r, -eIsN_r, -eLc_r, -iSeq_r, -iRng_r, er]
  refine w_lgoes hp ?_
  simp -implicitDefEqProofs (disch := first | (with_reducible assumption) | ((with_reducible show List.length _ = _); rfl) | (simp only [allD_cons, allD_nil, Option.map_some, Option.isSome_some]; done) | (simp only [List.length_cons, List.length_nil, List.length_map]; done) | ((with_reducible refine cMod_of ?_); omega) | ((with_reducible refine cDiv_of ?_ ?_) <;> omega) | ((with_reducible refine okR_of ?_ ?_) <;> omega) | omega | (simp only [List.length_take, List.length_drop, List.length_append, List.length_cons, List.length_nil, List.length_map, List.length_range, List.length_replicate]; omega)) [-sSeq_r, -sRet_r, -sDrop_r, -sSet_r, -sIf_r, -sPar_r, -sAsg_r, -sSetIx_r, -sFor_r, -gsCons_r, -gT_r, -e1_r, -e2_r, -tV_r, -tAndM_r, -tOrM_r, -tNotM_r, -eAnd_r, -eOr_r, -eNot_r, -eIf_r, -aCons_r, -eN_r, -fCall_r, -eCallK_r, -eM_r, -eSl_r, -oSome_r, -eIsN_r, -eLc_r, -iSeq_r, -iRng_r, r2_l_right]
  refine w_goes hp ?_
  simp -implicitDefEqProofs (disch := first | (with_reducible assumption) | ((with_reducible show List.length _ = _); rfl) | (simp only [allD_cons, allD_nil, Option.map_some, Option.isSome_some]; done) | (simp only [List.length_cons, List.length_nil, List.length_map]; done) | ((with_reducible refine cMod_of ?_); omega) | ((with_reducible refine cDiv_of ?_ ?_) <;> omega) | ((with_reducible refine okR_of ?_ ?_) <;> omega) | omega | (simp only [List.length_take, List.length_drop, List.length_append, List.length_cons, List.length_nil, List.length_map, List.length_range, List.length_replicate]; omega)) [-sSeq_r, -sRet_r, -sDrop_r, -sSet_r, -sIf_r, -sPar_r, -sAsg_r, -sSetIx_r, -sFor_r, -gsCons_r, -gT_r, -e1_r, -e2_r, -tV_r, -tAndM_r, -tOrM_r, -tNotM_r, -eAnd_r, -eOr_r, -eNot_r, -eIf_r, -aCons_r, -eN_r, -fCall_r, -eCallK_r, -eM_r, -eSl_r, -oSome_r, -eIsN_r, -eLc_r, -iSeq_r, -iRng_r, pickL]
  refine w_goes hp ?_
  simp -implicitDefEqProofs (disch := first | (with_reducible assumption) | ((with_reducible show List.length _ = _); rfl) | (simp only [allD_cons, allD_nil, Option.map_some, Option.isSome_some]; done) | (simp only [List.length_cons, List.length_nil, List.length_map]; done) | ((with_reducible refine cMod_of ?_); omega) | ((with_reducible refine cDiv_of ?_ ?_) <;> omega) | ((with_reducible refine okR_of ?_ ?_) <;> omega) | omega | (simp only [List.length_take, List.length_drop, List.length_append, List.length_cons, List.length_nil, List.length_map, List.length_range, List.length_replicate]; omega)) [-sSeq_r, -sRet_r, -sDrop_r, -sSet_r, -sIf_r, -sPar_r, -sAsg_r, -sSetIx_r, -sFor_r, -gsCons_r, -gT_r, -e1_r, -e2_r, -tV_r, -tAndM_r, -tOrM_r, -tNotM_r, -eAnd_r, -eOr_r, -eNot_r, -eIf_r, -aCons_r, -eN_r, -fCall_r, -eCallK_r, -eM_r, -eSl_r, -oSome_r, -eIsN_r, -eLc_r, -iSeq_r, -iRng_r, ]
  refine w_goes hp ?_
  simp -implicitDefEqProofs (disch := first | (with_reducible assumption) | ((with_reducible show List.length _ = _); rfl) | (simp only [allD_cons, allD_nil, Option.map_some, Option.isSome_some]; done) | (simp only [List.length_cons, List.length_nil, List.length_map]; done) | ((with_reducible refine cMod_of ?_); omega) | ((with_reducible refine cDiv_of ?_ ?_) <;> omega) | ((with_reducible refine okR_of ?_ ?_) <;> omega) | omega | (simp only [List.length_take, List.length_drop, List.length_append, List.length_cons, List.length_nil, List.length_map, List.length_range, List.length_replicate]; omega)) [-sSeq_r, -sRet_r, -sDrop_r, -sSet_r, -sIf_r, -sPar_r, -sAsg_r, -sSetIx_r, -sFor_r, -gsCons_r, -gT_r, -e1_r, -e2_r, -tV_r, -tAndM_r, -tOrM_r, -tNotM_r, -eAnd_r, -eOr_r, -eNot_r, -eIf_r, -aCons_r, -eN_r, -fCall_r, -eCallK_r, -eM_r, -eSl_r, -oSome_r, -eIsN_r, -eLc_r, -iSeq_r, -iRng_r, r1_l_right, ev, dEq_self, er]
  exact fin
end
end LW

namespace LW
open PySem PySem.Spec PyProof.Rows L2 DL
/-- a program's one table of one source, steps of any word -/
structure PlanG (p : D) where
  nm : D
  pre : List D
  cols : List D
  n1 : D
  n2 : D
  ss : List D
  bs : List D
  eq : p = .tuple [.tuple [.tuple [nm, .tuple (pre ++ [.tuple cols])]], .tuple [.tuple [n1, .tuple [.str (T [111, 102]), n2], .tuple ss, .tuple bs]]]
  hnm : Sx nm
  hsh : Sm 2 8000 (.tuple (pre ++ [.tuple cols]))
  hc : ∀ d ∈ cols, Sx d
  c0 : 0 < cols.length
  c6 : cols.length ≤ 6
  hn1 : Sx n1
  hn2 : Sx n2
  hss : ∀ s ∈ ss, Sg s
  ls : ss.length ≤ 8
  hbs : ∀ b ∈ bs, Pr b
  lb : bs.length ≤ 200
def Plan.g {p : D} (P : Plan p) : PlanG p := ⟨P.nm, P.pre, P.cols, P.n1, P.n2, P.ss, P.bs, P.eq, P.hnm, P.hsh, P.hc, P.c0, P.c6, P.hn1, P.hn2, fun s hs => (P.hss s hs).sg, Nat.le_trans P.ls (by decide), P.hbs, Nat.le_trans P.lb (by decide)⟩
theorem sm_one {k c : Nat} {a : D} (h : Sm k c a) : Sm (k + 1) (c + 5) (.tuple [a]) := (Sm.tup (n := 1) (fun d hd => by rw [List.mem_singleton.mp hd]; exact h) (by simp)).mono (Nat.le_refl _) (by omega)
theorem sm_two {k c : Nat} {a b : D} (h : Sm k c a) (h2 : Sm k c b) : Sm (k + 1) (2 * (c + 2) + 3) (.tuple [a, b]) := Sm.tup (n := 2) (fun d hd => by
  simp only [List.mem_cons, List.not_mem_nil, or_false] at hd
  rcases hd with rfl | rfl
  · exact h
  · exact h2) (by simp)
theorem sm_four {k c : Nat} {a b d e : D} (h : Sm k c a) (h2 : Sm k c b) (h3 : Sm k c d) (h4 : Sm k c e) : Sm (k + 1) (4 * (c + 2) + 3) (.tuple [a, b, d, e]) := Sm.tup (n := 4) (fun x hd => by
  simp only [List.mem_cons, List.not_mem_nil, or_false] at hd
  rcases hd with rfl | rfl | rfl | rfl
  · exact h
  · exact h2
  · exact h3
  · exact h4) (by simp)
theorem PlanG.src {p : D} (G : PlanG p) : Sm 3 17000 (.tuple [G.nm, .tuple (G.pre ++ [.tuple G.cols])]) := (sm_two (k := 2) (c := 8000) (G.hnm.sm.mono (by decide) (by decide)) G.hsh).mono (Nat.le_refl _) (by decide)
theorem PlanG.tab {p : D} (G : PlanG p) : Sm 5 600000 (.tuple [G.n1, .tuple [.str (T [111, 102]), G.n2], .tuple G.ss, .tuple G.bs]) := by
  have of : Sx (.str (T [111, 102])) := Sx.of (by decide)
  have a : Sm 4 130000 (.tuple G.ss) := (Sm.tup (n := 8) (c := 16000) (k := 3) (fun d hd => by obtain ⟨_, _, _, _, _, s, _⟩ := G.hss d hd; exact s) G.ls).mono (Nat.le_refl _) (by decide)
  have b : Sm 4 130000 (.tuple G.bs) := (Sm.tup (n := 200) (c := 500) (k := 1) (fun d hd => (G.hbs d hd).sm) G.lb).mono (by decide) (by decide)
  exact (sm_four (k := 4) (c := 130000) (G.hn1.sm.mono (by decide) (by decide)) ((sm_two (of.sm) (G.hn2.sm)).mono (by decide) (by decide)) a b).mono (Nat.le_refl _) (by decide)
/-- a program is made of its sources and tables -/
theorem fin_of {p : D} (G : PlanG p) {srcs ts : List D} (hs : ∀ d ∈ srcs, Sm 3 17000 d) (ls : srcs.length ≤ 3) (ht : ∀ d ∈ ts, Sm 5 600000 d) (lt : ts.length ≤ 3) :
    ∃ v, FinP (.tuple [.tuple srcs, .tuple (.tuple [G.n1, .tuple [.str (T [111, 102]), G.n2], .tuple G.ss, .tuple G.bs] :: ts)]) v := by
  refine ⟨_, .tuple srcs, G.n1, [111, 102], [G.n2], G.ss, [.tuple G.bs], ts, rfl, G.hss, Nat.le_trans G.ls (by decide), Nat.le_trans lt (by decide), ?_, rfl⟩
  have a : Sm 6 3000000 (.tuple srcs) := (Sm.tup (n := 3) (c := 17000) (k := 3) hs ls).mono (by decide) (by decide)
  have b : Sm 6 3000000 (.tuple (.tuple [G.n1, .tuple [.str (T [111, 102]), G.n2], .tuple G.ss, .tuple G.bs] :: ts)) := (Sm.tup (n := 4) (c := 600000) (k := 5) (fun d hd => by
    rcases List.mem_cons.mp hd with e | hd
    · rw [e]; exact G.tab
    · exact ht d hd) (by simp; omega)).mono (by decide) (by decide)
  exact (sm_two a b).mono (by decide) (by decide)
theorem PlanG.fin {p : D} (G : PlanG p) : ∃ v, FinP p v := by
  have := fin_of G (srcs := [_]) (ts := []) (fun d hd => by rw [List.mem_singleton.mp hd]; exact G.src) (by simp) (fun d hd => by cases hd) (by simp)
  obtain ⟨v, hv⟩ := this
  refine ⟨v, ?_⟩
  rw [G.eq]
  exact hv
section
variable {h m : Nat} {μ : Store} {P : Dv → Store → Prop}
theorem w_pickT (H : Bx h m μ) (hm : m ≤ 10 ^ 9) {ds : List D} (h0 : 0 < ds.length) (h1 : ds.length < 10 ^ 6) (fin : ∀ c μ', c ∈ ds → Bx h (m + 1) μ' → Oth h μ μ' → P (.d c) μ') : Wp (F_l_pick [.c h, .d (.tuple ds)] μ) P := by
  unfold F_l_pick B_l_pick
  apply Wp_run
  simp -implicitDefEqProofs (disch := first | (with_reducible assumption) | ((with_reducible show List.length _ = _); rfl) | (simp only [allD_cons, allD_nil, Option.map_some, Option.isSome_some]; done) | (simp only [List.length_cons, List.length_nil, List.length_map]; done) | ((with_reducible refine cMod_of ?_); omega) | ((with_reducible refine cDiv_of ?_ ?_) <;> omega) | ((with_reducible refine okR_of ?_ ?_) <;> omega) | omega | (simp only [List.length_take, List.length_drop, List.length_append, List.length_cons, List.length_nil, List.length_map, List.length_range, List.length_replicate]; omega)) [-sSeq_r, -sRet_r, -sDrop_r, -sSet_r, -sIf_r, -sPar_r, -sAsg_r, -sSetIx_r, -sFor_r, -gsCons_r, -gT_r, -e1_r, -e2_r, -tV_r, -tAndM_r, -tOrM_r, -tNotM_r, -eAnd_r, -eOr_r, -eNot_r, -eIf_r, -aCons_r, -eN_r, -fCall_r, -eCallK_r, -eM_r, -eSl_r, -oSome_r, -eIsN_r, -eLc_r, -iSeq_r, -iRng_r, ]
  refine w_take H hm (by omega) (by omega) fun r μ' hr H' O => ?_
  have hi : r < ds.length := by omega
  simp -implicitDefEqProofs (disch := first | (with_reducible assumption) | ((with_reducible show List.length _ = _); rfl) | (simp only [allD_cons, allD_nil, Option.map_some, Option.isSome_some]; done) | (simp only [List.length_cons, List.length_nil, List.length_map]; done) | ((with_reducible refine cMod_of ?_); omega) | ((with_reducible refine cDiv_of ?_ ?_) <;> omega) | ((with_reducible refine okR_of ?_ ?_) <;> omega) | omega | (simp only [List.length_take, List.length_drop, List.length_append, List.length_cons, List.length_nil, List.length_map, List.length_range, List.length_replicate]; omega)) [-sSeq_r, -sRet_r, -sDrop_r, -sSet_r, -sIf_r, -sPar_r, -sAsg_r, -sSetIx_r, -sFor_r, -gsCons_r, -gT_r, -e1_r, -e2_r, -tV_r, -tAndM_r, -tOrM_r, -tNotM_r, -eAnd_r, -eOr_r, -eNot_r, -eIf_r, -aCons_r, -eN_r, -fCall_r, -eCallK_r, -eM_r, -eSl_r, -oSome_r, -eIsN_r, -eLc_r, -iSeq_r, -iRng_r, dIx_t (atI_nn (show ds[r]? = some ds[r] by simp [hi]))]
  exact fin _ μ' (List.getElem_mem hi) H' O
theorem cPow_ok {j : Int} (h0 : 0 ≤ j) (h1 : j ≤ 1000000) : cPow 10 j = true := by
  unfold cPow
  rw [decide_eq_true h0, decide_eq_true h1]
  decide
theorem w_box {ns : List Int} {k : Nat} (hn : ns.length ≤ 63) (hk : k ≤ 100) (hb : ∀ i ∈ ns, Builtin.Int.intBits i ≤ 1048576) (fin : ∀ n μ', μ.length ≤ n → Bx n 1 μ' → P (.c n) μ') : Wp (F_l_box [.d (.list (ns.map PyData.int)), .d (.int k)] μ) P := by
  have main : ∀ cell : Int, Builtin.Int.intBits cell ≤ 1048576 → Wp (r2_l_box [some (.d (.list (ns.map PyData.int))), some (.d (.int k)), some (.d (.int cell)), none] μ) (finP P) := by
    intro cell hc
    have q1 : (cell % 2305843009213693921).natAbs < 2 ^ 62 := by omega
    have c1 : cMul 7907 (k : Int) = true := cMul_ok (a := 20) (b := 20) (by decide) (by omega) (by decide) (by decide) (by decide)
    have c2 : cMul (7907 * (k : Int)) (k : Int) = true := cMul_ok (a := 40) (b := 20) (by omega) (by omega) (by decide) (by decide) (by decide)
    have p18 : dPow (.d (.int 10)) (.d (.int 18)) μ = .ok (.d (.int (10 ^ 18))) μ := dNum_ii (cPow_ok (by decide) (by decide))
    have ab : dAbs [.d (.int cell)] μ = .ok (.d (.int cell.natAbs)) μ := by
      rw [dAbs_i]
      have : (if cell < 0 then -cell else cell) = (cell.natAbs : Int) := by split <;> omega
      rw [this]
    generalize hA : (cell.natAbs : Int) = A
    have A0 : 0 ≤ A := by omega
    have bits : ∀ b : Int, Builtin.Int.intBits b ≤ 10 → cMul A b = true := fun b hb => by
      unfold cMul
      have : Builtin.Int.intBits A = Builtin.Int.intBits cell := by
        unfold Builtin.Int.intBits
        subst hA
        by_cases z : cell = 0
        · subst z; rfl
        · have : ¬ ((cell.natAbs : Int) = 0) := by omega
          simp [z]
      rw [this]
      exact decide_eq_true (by omega)
    rw [hA] at ab
    generalize hM : (cell % 2305843009213693921 + 7907 * (k : Int) * (k : Int) + 31) % 2305843009213693907 = M
    have M0 : 0 ≤ M ∧ M < 2 ^ 62 := by omega
    generalize hT : (10 : Int) ^ 18 = t at p18
    have last : ∀ b : Int, 0 ≤ A * b → Wp (cList [.d (.int (A * b)), .d (.int M), .d (.int 0)] μ) (kRet (finP P)) := fun b h0 => by
      rw [cList_c (by simp), Wp_ok]
      exact fin μ.length _ (Nat.le_refl _) ⟨A * b, M, 0, by simp, h0, M0.1, M0.2, by decide, by decide⟩
    by_cases g : t ≤ A
    · have dec : dGe (.d (.int A)) (.d (.int t)) μ = .ok (.d (.bool true)) μ := by
        show Out.ok (Dv.d (PyData.bool (decide (A ≥ t)))) μ = _
        rw [decide_eq_true g]
      have b1 := bits 1 (by decide)
      have l1 := last 1 (by omega)
      simp -implicitDefEqProofs (disch := first | (with_reducible assumption) | ((with_reducible show List.length _ = _); rfl) | (simp only [allD_cons, allD_nil, Option.map_some, Option.isSome_some]; done) | (simp only [List.length_cons, List.length_nil, List.length_map]; done) | ((with_reducible refine cMod_of ?_); omega) | ((with_reducible refine cDiv_of ?_ ?_) <;> omega) | ((with_reducible refine okR_of ?_ ?_) <;> omega) | omega | (simp only [List.length_take, List.length_drop, List.length_append, List.length_cons, List.length_nil, List.length_map, List.length_range, List.length_replicate]; omega)) [-sSeq_r, -sRet_r, -sDrop_r, -sSet_r, -sIf_r, -sPar_r, -sAsg_r, -sSetIx_r, -sFor_r, -gsCons_r, -gT_r, -e1_r, -e2_r, -tV_r, -tAndM_r, -tOrM_r, -tNotM_r, -eAnd_r, -eOr_r, -eNot_r, -eIf_r, -aCons_r, -eN_r, -fCall_r, -eCallK_r, -eM_r, -eSl_r, -oSome_r, -eIsN_r, -eLc_r, -iSeq_r, -iRng_r, -dAbs_i, r2_l_box, r1_l_box, hM, ab, p18, dec]
      simpa using l1
    · have dec : dGe (.d (.int A)) (.d (.int t)) μ = .ok (.d (.bool false)) μ := by
        show Out.ok (Dv.d (PyData.bool (decide (A ≥ t)))) μ = _
        rw [decide_eq_false g]
      have b0 := bits 0 (by decide)
      have l0 := last 0 (by simp)
      simp -implicitDefEqProofs (disch := first | (with_reducible assumption) | ((with_reducible show List.length _ = _); rfl) | (simp only [allD_cons, allD_nil, Option.map_some, Option.isSome_some]; done) | (simp only [List.length_cons, List.length_nil, List.length_map]; done) | ((with_reducible refine cMod_of ?_); omega) | ((with_reducible refine cDiv_of ?_ ?_) <;> omega) | ((with_reducible refine okR_of ?_ ?_) <;> omega) | omega | (simp only [List.length_take, List.length_drop, List.length_append, List.length_cons, List.length_nil, List.length_map, List.length_range, List.length_replicate]; omega)) [-sSeq_r, -sRet_r, -sDrop_r, -sSet_r, -sIf_r, -sPar_r, -sAsg_r, -sSetIx_r, -sFor_r, -gsCons_r, -gT_r, -e1_r, -e2_r, -tV_r, -tAndM_r, -tOrM_r, -tNotM_r, -eAnd_r, -eOr_r, -eNot_r, -eIf_r, -aCons_r, -eN_r, -fCall_r, -eCallK_r, -eM_r, -eSl_r, -oSome_r, -eIsN_r, -eLc_r, -iSeq_r, -iRng_r, -dAbs_i, r2_l_box, r1_l_box, hM, ab, p18, dec]
      simpa using l0
  unfold F_l_box B_l_box
  apply Wp_run
  simp -implicitDefEqProofs (disch := first | (with_reducible assumption) | ((with_reducible show List.length _ = _); rfl) | (simp only [allD_cons, allD_nil, Option.map_some, Option.isSome_some]; done) | (simp only [List.length_cons, List.length_nil, List.length_map]; done) | ((with_reducible refine cMod_of ?_); omega) | ((with_reducible refine cDiv_of ?_ ?_) <;> omega) | ((with_reducible refine okR_of ?_ ?_) <;> omega) | omega | (simp only [List.length_take, List.length_drop, List.length_append, List.length_cons, List.length_nil, List.length_map, List.length_range, List.length_replicate]; omega)) [-sSeq_r, -sRet_r, -sDrop_r, -sSet_r, -sIf_r, -sPar_r, -sAsg_r, -sSetIx_r, -sFor_r, -gsCons_r, -gT_r, -e1_r, -e2_r, -tV_r, -tAndM_r, -tOrM_r, -tNotM_r, -eAnd_r, -eOr_r, -eNot_r, -eIf_r, -aCons_r, -eN_r, -fCall_r, -eCallK_r, -eM_r, -eSl_r, -oSome_r, -eIsN_r, -eLc_r, -iSeq_r, -iRng_r, r3_l_box]
  refine kIf_s (fun q => ?_) fun q => ?_
  · have hk2 : k < ns.length := by simpa using q
    have e : (ns.map PyData.int)[k]? = some (.int ns[k]) := by simp [hk2]
    simp -implicitDefEqProofs (disch := first | (with_reducible assumption) | ((with_reducible show List.length _ = _); rfl) | (simp only [allD_cons, allD_nil, Option.map_some, Option.isSome_some]; done) | (simp only [List.length_cons, List.length_nil, List.length_map]; done) | ((with_reducible refine cMod_of ?_); omega) | ((with_reducible refine cDiv_of ?_ ?_) <;> omega) | ((with_reducible refine okR_of ?_ ?_) <;> omega) | omega | (simp only [List.length_take, List.length_drop, List.length_append, List.length_cons, List.length_nil, List.length_map, List.length_range, List.length_replicate]; omega)) [-sSeq_r, -sRet_r, -sDrop_r, -sSet_r, -sIf_r, -sPar_r, -sAsg_r, -sSetIx_r, -sFor_r, -gsCons_r, -gT_r, -e1_r, -e2_r, -tV_r, -tAndM_r, -tOrM_r, -tNotM_r, -eAnd_r, -eOr_r, -eNot_r, -eIf_r, -aCons_r, -eN_r, -fCall_r, -eCallK_r, -eM_r, -eSl_r, -oSome_r, -eIsN_r, -eLc_r, -iSeq_r, -iRng_r, dIx_l (atI_nn e)]
    exact main _ (hb _ (List.getElem_mem hk2))
  · simp -implicitDefEqProofs (disch := first | (with_reducible assumption) | ((with_reducible show List.length _ = _); rfl) | (simp only [allD_cons, allD_nil, Option.map_some, Option.isSome_some]; done) | (simp only [List.length_cons, List.length_nil, List.length_map]; done) | ((with_reducible refine cMod_of ?_); omega) | ((with_reducible refine cDiv_of ?_ ?_) <;> omega) | ((with_reducible refine okR_of ?_ ?_) <;> omega) | omega | (simp only [List.length_take, List.length_drop, List.length_append, List.length_cons, List.length_nil, List.length_map, List.length_range, List.length_replicate]; omega)) [-sSeq_r, -sRet_r, -sDrop_r, -sSet_r, -sIf_r, -sPar_r, -sAsg_r, -sSetIx_r, -sFor_r, -gsCons_r, -gT_r, -e1_r, -e2_r, -tV_r, -tAndM_r, -tOrM_r, -tNotM_r, -eAnd_r, -eOr_r, -eNot_r, -eIf_r, -aCons_r, -eN_r, -fCall_r, -eCallK_r, -eM_r, -eSl_r, -oSome_r, -eIsN_r, -eLc_r, -iSeq_r, -iRng_r, ]
    exact main 0 (by decide)
end
end LW

namespace LW
open PySem PySem.Spec PyProof.Rows L2 DL
theorem dIx_last {r : List D} {x : D} {μ : Store} : dIx (.d (.tuple (r ++ [x]))) (.d (.int (-1))) μ = .ok (.d x) μ := dIx_t atIlast
section
variable {h m : Nat} {μ : Store} {P : Dv → Store → Prop}
theorem w_ms3 (H : Bx h m μ) {p : D} (pl : Plan p) {col z zn : D} {zr rest : List D} {lot : Nat} (hz : z = .tuple (zn :: zr)) (hzn : Sx zn) (sz : Sg z)
    (fin : ∀ p', PlanG p' → P (.d p') μ) :
    Wp (r3_l_more_step [some (.c h), some (.d (.tuple [.tuple [.tuple [pl.nm, .tuple (pl.pre ++ [.tuple pl.cols])]], .tuple [.tuple [pl.n1, .tuple [.str (T [111, 102]), pl.n2], .tuple pl.ss, .tuple pl.bs]]])), some (.d pl.n1), some (.d (.tuple [.str (T [111, 102]), pl.n2])), some (.d (.tuple pl.ss)), some (.d (.tuple pl.bs)), some (.d (.tuple pl.cols)), some (.d (.int lot)), some (.d col), some (.d (.list rest)), some (.d z), none, none, none, none] μ) (finP P) := by
  have lss := pl.ls
  have lbs := pl.lb
  subst hz
  simp -implicitDefEqProofs (disch := first | (with_reducible assumption) | ((with_reducible show List.length _ = _); rfl) | (simp only [allD_cons, allD_nil, Option.map_some, Option.isSome_some]; done) | (simp only [List.length_cons, List.length_nil, List.length_map]; done) | ((with_reducible refine cMod_of ?_); omega) | ((with_reducible refine cDiv_of ?_ ?_) <;> omega) | ((with_reducible refine okR_of ?_ ?_) <;> omega) | omega | (simp only [List.length_take, List.length_drop, List.length_append, List.length_cons, List.length_nil, List.length_map, List.length_range, List.length_replicate]; omega)) [-sSeq_r, -sRet_r, -sDrop_r, -sSet_r, -sIf_r, -sPar_r, -sAsg_r, -sSetIx_r, -sFor_r, -gsCons_r, -gT_r, -e1_r, -e2_r, -tV_r, -tAndM_r, -tOrM_r, -tNotM_r, -eAnd_r, -eOr_r, -eNot_r, -eIf_r, -aCons_r, -eN_r, -fCall_r, -eCallK_r, -eM_r, -eSl_r, -oSome_r, -eIsN_r, -eLc_r, -iSeq_r, -iRng_r, r3_l_more_step, dAdd_tt, r2_l_more_step]
  refine Wp_lcF (by simp; omega) ?_
  refine Wp_lcM_y (fun _ μ' => μ' = μ) (fun y => ∃ d, y = .d d ∧ Pr d) (i := 0) rfl (fun j b μ' hb e => ?_) fun ys μ' hl hy e => ?_
  · subst e
    obtain ⟨s, hs, rfl⟩ := mem_map_d hb
    obtain ⟨n, ds, rfl, hn, _⟩ := pl.hss s hs
    simp -implicitDefEqProofs (disch := first | (with_reducible assumption) | ((with_reducible show List.length _ = _); rfl) | (simp only [allD_cons, allD_nil, Option.map_some, Option.isSome_some]; done) | (simp only [List.length_cons, List.length_nil, List.length_map]; done) | ((with_reducible refine cMod_of ?_); omega) | ((with_reducible refine cDiv_of ?_ ?_) <;> omega) | ((with_reducible refine okR_of ?_ ?_) <;> omega) | omega | (simp only [List.length_take, List.length_drop, List.length_append, List.length_cons, List.length_nil, List.length_map, List.length_range, List.length_replicate]; omega)) [-sSeq_r, -sRet_r, -sDrop_r, -sSet_r, -sIf_r, -sPar_r, -sAsg_r, -sSetIx_r, -sFor_r, -gsCons_r, -gT_r, -e1_r, -e2_r, -tV_r, -tAndM_r, -tOrM_r, -tNotM_r, -eAnd_r, -eOr_r, -eNot_r, -eIf_r, -aCons_r, -eN_r, -fCall_r, -eCallK_r, -eM_r, -eSl_r, -oSome_r, -eIsN_r, -eLc_r, -iSeq_r, -iRng_r, c2_l_more_step, wipeD, dIx0]
    exact ⟨n, zn, rfl, hn, hzn⟩
  · subst e
    obtain ⟨qs, rfl, hq⟩ := all_d hy
    have lq : qs.length = pl.ss.length := by simpa using hl
    rw [dList_map (by omega)]
    have hall : ∀ d ∈ pl.bs ++ qs, Pr d := fun d hd => by
      rcases List.mem_append.mp hd with hd | hd
      · exact pl.hbs d hd
      · exact hq d hd
    have es := dSort_d (ds := pl.bs ++ qs) (b := .d (.list (pl.bs ++ qs))) (μ := μ') rfl (sort_pairs fun d hd => (hall d hd).str) (by simp; omega)
    have ls : (srt (pl.bs ++ qs)).length ≤ 200 := by rw [srt_len]; simp; omega
    simp -implicitDefEqProofs (disch := first | (with_reducible assumption) | ((with_reducible show List.length _ = _); rfl) | (simp only [allD_cons, allD_nil, Option.map_some, Option.isSome_some]; done) | (simp only [List.length_cons, List.length_nil, List.length_map]; done) | ((with_reducible refine cMod_of ?_); omega) | ((with_reducible refine cDiv_of ?_ ?_) <;> omega) | ((with_reducible refine okR_of ?_ ?_) <;> omega) | omega | (simp only [List.length_take, List.length_drop, List.length_append, List.length_cons, List.length_nil, List.length_map, List.length_range, List.length_replicate]; omega)) [-sSeq_r, -sRet_r, -sDrop_r, -sSet_r, -sIf_r, -sPar_r, -sAsg_r, -sSetIx_r, -sFor_r, -gsCons_r, -gT_r, -e1_r, -e2_r, -tV_r, -tAndM_r, -tOrM_r, -tNotM_r, -eAnd_r, -eOr_r, -eNot_r, -eIf_r, -aCons_r, -eN_r, -fCall_r, -eCallK_r, -eM_r, -eSl_r, -oSome_r, -eIsN_r, -eLc_r, -iSeq_r, -iRng_r, r1_l_more_step, dIx0, dToList_t, dAdd_ll, es, dToTup_l]
    refine fin _ ⟨pl.nm, pl.pre, pl.cols, pl.n1, pl.n2, pl.ss ++ [.tuple (zn :: zr)], srt (pl.bs ++ qs), rfl, pl.hnm, pl.hsh, pl.hc, pl.c0, pl.c6, pl.hn1, pl.hn2, fun s hs => ?_, by simp; omega, fun b hb => hall b (srt_mem.mp hb), ls⟩
    rcases List.mem_append.mp hs with hs | hs
    · exact (pl.hss s hs).sg
    · rw [List.mem_singleton.mp hs]
      exact sz
theorem w_more_step (H : Bx h m μ) (hm : m + 10 ≤ 10 ^ 9) {p : D} (pl : Plan p) (fin : ∀ p' μ', PlanG p' → Bx h (m + 10) μ' → Ext h μ μ' → P (.d p') μ') : Wp (F_l_more_step [.c h, .d p] μ) P := by
  have zn : Sx (.str (T [122, 122, 122, 122, 122, 122, 122, 122])) := Sx.of (by decide)
  have hsc := fun d hd => (pl.hc d hd)
  unfold F_l_more_step B_l_more_step
  apply Wp_run
  have ep := pl.eq
  rw [ep]
  simp -implicitDefEqProofs (disch := first | (with_reducible assumption) | ((with_reducible show List.length _ = _); rfl) | (simp only [allD_cons, allD_nil, Option.map_some, Option.isSome_some]; done) | (simp only [List.length_cons, List.length_nil, List.length_map]; done) | ((with_reducible refine cMod_of ?_); omega) | ((with_reducible refine cDiv_of ?_ ?_) <;> omega) | ((with_reducible refine okR_of ?_ ?_) <;> omega) | omega | (simp only [List.length_take, List.length_drop, List.length_append, List.length_cons, List.length_nil, List.length_map, List.length_range, List.length_replicate]; omega)) [-sSeq_r, -sRet_r, -sDrop_r, -sSet_r, -sIf_r, -sPar_r, -sAsg_r, -sSetIx_r, -sFor_r, -gsCons_r, -gT_r, -e1_r, -e2_r, -tV_r, -tAndM_r, -tOrM_r, -tNotM_r, -eAnd_r, -eOr_r, -eNot_r, -eIf_r, -aCons_r, -eN_r, -fCall_r, -eCallK_r, -eM_r, -eSl_r, -oSome_r, -eIsN_r, -eLc_r, -iSeq_r, -iRng_r, dIx0, dIx1]
  simp -implicitDefEqProofs (disch := first | (with_reducible assumption) | ((with_reducible show List.length _ = _); rfl) | (simp only [allD_cons, allD_nil, Option.map_some, Option.isSome_some]; done) | (simp only [List.length_cons, List.length_nil, List.length_map]; done) | ((with_reducible refine cMod_of ?_); omega) | ((with_reducible refine cDiv_of ?_ ?_) <;> omega) | ((with_reducible refine okR_of ?_ ?_) <;> omega) | omega | (simp only [List.length_take, List.length_drop, List.length_append, List.length_cons, List.length_nil, List.length_map, List.length_range, List.length_replicate]; omega)) [-sSeq_r, -sRet_r, -sDrop_r, -sSet_r, -sIf_r, -sPar_r, -sAsg_r, -sSetIx_r, -sFor_r, -gsCons_r, -gT_r, -e1_r, -e2_r, -tV_r, -tAndM_r, -tOrM_r, -tNotM_r, -eAnd_r, -eOr_r, -eNot_r, -eIf_r, -aCons_r, -eN_r, -fCall_r, -eCallK_r, -eM_r, -eSl_r, -oSome_r, -eIsN_r, -eLc_r, -iSeq_r, -iRng_r, r9_l_more_step, dIx0, dIx1, dIx_last, r8_l_more_step]
  refine w_take H (by omega) (by decide) (by decide) fun lot μ1 hlot H1 O1 => ?_
  simp -implicitDefEqProofs (disch := first | (with_reducible assumption) | ((with_reducible show List.length _ = _); rfl) | (simp only [allD_cons, allD_nil, Option.map_some, Option.isSome_some]; done) | (simp only [List.length_cons, List.length_nil, List.length_map]; done) | ((with_reducible refine cMod_of ?_); omega) | ((with_reducible refine cDiv_of ?_ ?_) <;> omega) | ((with_reducible refine okR_of ?_ ?_) <;> omega) | omega | (simp only [List.length_take, List.length_drop, List.length_append, List.length_cons, List.length_nil, List.length_map, List.length_range, List.length_replicate]; omega)) [-sSeq_r, -sRet_r, -sDrop_r, -sSet_r, -sIf_r, -sPar_r, -sAsg_r, -sSetIx_r, -sFor_r, -gsCons_r, -gT_r, -e1_r, -e2_r, -tV_r, -tAndM_r, -tOrM_r, -tNotM_r, -eAnd_r, -eOr_r, -eNot_r, -eIf_r, -aCons_r, -eN_r, -fCall_r, -eCallK_r, -eM_r, -eSl_r, -oSome_r, -eIsN_r, -eLc_r, -iSeq_r, -iRng_r, ]
  have lc := pl.c6
  refine w_pickT H1 (by omega) pl.c0 (by omega) fun col μ2 hcol H2 O2 => ?_
  have scol := pl.hc col hcol
  simp -implicitDefEqProofs (disch := first | (with_reducible assumption) | ((with_reducible show List.length _ = _); rfl) | (simp only [allD_cons, allD_nil, Option.map_some, Option.isSome_some]; done) | (simp only [List.length_cons, List.length_nil, List.length_map]; done) | ((with_reducible refine cMod_of ?_); omega) | ((with_reducible refine cDiv_of ?_ ?_) <;> omega) | ((with_reducible refine okR_of ?_ ?_) <;> omega) | omega | (simp only [List.length_take, List.length_drop, List.length_append, List.length_cons, List.length_nil, List.length_map, List.length_range, List.length_replicate]; omega)) [-sSeq_r, -sRet_r, -sDrop_r, -sSet_r, -sIf_r, -sPar_r, -sAsg_r, -sSetIx_r, -sFor_r, -gsCons_r, -gT_r, -e1_r, -e2_r, -tV_r, -tAndM_r, -tOrM_r, -tNotM_r, -eAnd_r, -eOr_r, -eNot_r, -eIf_r, -aCons_r, -eN_r, -fCall_r, -eCallK_r, -eM_r, -eSl_r, -oSome_r, -eIsN_r, -eLc_r, -iSeq_r, -iRng_r, r7_l_more_step]
  refine Wp_lcF (by simp; omega) ?_
  refine Wp_lcM (fun _ μ' => μ' = μ2) (fun y => ∃ d, y = .d d ∧ Sx d) (i := 0) rfl (fun j b μ' hb e => ?_) fun ys μ' hl hy e => ?_
  · subst e
    obtain ⟨s, hs, rfl⟩ := mem_map_d hb
    obtain ⟨l1, rfl, _, _⟩ := id scol
    have ss := pl.hc s hs
    obtain ⟨l2, rfl, _, _⟩ := id ss
    simp -implicitDefEqProofs (disch := first | (with_reducible assumption) | ((with_reducible show List.length _ = _); rfl) | (simp only [allD_cons, allD_nil, Option.map_some, Option.isSome_some]; done) | (simp only [List.length_cons, List.length_nil, List.length_map]; done) | ((with_reducible refine cMod_of ?_); omega) | ((with_reducible refine cDiv_of ?_ ?_) <;> omega) | ((with_reducible refine okR_of ?_ ?_) <;> omega) | omega | (simp only [List.length_take, List.length_drop, List.length_append, List.length_cons, List.length_nil, List.length_map, List.length_range, List.length_replicate]; omega)) [-sSeq_r, -sRet_r, -sDrop_r, -sSet_r, -sIf_r, -sPar_r, -sAsg_r, -sSetIx_r, -sFor_r, -gsCons_r, -gT_r, -e1_r, -e2_r, -tV_r, -tAndM_r, -tOrM_r, -tNotM_r, -eAnd_r, -eOr_r, -eNot_r, -eIf_r, -aCons_r, -eN_r, -fCall_r, -eCallK_r, -eM_r, -eSl_r, -oSome_r, -eIsN_r, -eLc_r, -iSeq_r, -iRng_r, wipeD, t1_l_more_step, c1_l_more_step]
    exact fun _ => ss
  · subst e
    obtain ⟨rest, rfl, hr⟩ := all_d hy
    have lr : rest.length ≤ 6 := by simp at hl; omega
    rw [dList_map (by omega)]
    simp -implicitDefEqProofs (disch := first | (with_reducible assumption) | ((with_reducible show List.length _ = _); rfl) | (simp only [allD_cons, allD_nil, Option.map_some, Option.isSome_some]; done) | (simp only [List.length_cons, List.length_nil, List.length_map]; done) | ((with_reducible refine cMod_of ?_); omega) | ((with_reducible refine cDiv_of ?_ ?_) <;> omega) | ((with_reducible refine okR_of ?_ ?_) <;> omega) | omega | (simp only [List.length_take, List.length_drop, List.length_append, List.length_cons, List.length_nil, List.length_map, List.length_range, List.length_replicate]; omega)) [-sSeq_r, -sRet_r, -sDrop_r, -sSet_r, -sIf_r, -sPar_r, -sAsg_r, -sSetIx_r, -sFor_r, -gsCons_r, -gT_r, -e1_r, -e2_r, -tV_r, -tAndM_r, -tOrM_r, -tNotM_r, -eAnd_r, -eOr_r, -eNot_r, -eIf_r, -aCons_r, -eN_r, -fCall_r, -eCallK_r, -eM_r, -eSl_r, -oSome_r, -eIsN_r, -eLc_r, -iSeq_r, -iRng_r, r6_l_more_step]
    refine w_take H2 (by omega) (by decide) (by decide) fun j μ3 hj H3 O3 => ?_
    have O123 := (O1.trans O2).trans O3
    have ec : cutL rest none (some (j : Int)) = rest.take j := by rw [cut_to _ (by omega), Int.toNat_natCast]
    have lt : (rest.take j).length ≤ 6 := by rw [List.length_take]; omega
    have ht : ∀ d ∈ rest.take j, Sx d := fun d hd => hr d (List.mem_of_mem_take hd)
    simp -implicitDefEqProofs (disch := first | (with_reducible assumption) | ((with_reducible show List.length _ = _); rfl) | (simp only [allD_cons, allD_nil, Option.map_some, Option.isSome_some]; done) | (simp only [List.length_cons, List.length_nil, List.length_map]; done) | ((with_reducible refine cMod_of ?_); omega) | ((with_reducible refine cDiv_of ?_ ?_) <;> omega) | ((with_reducible refine okR_of ?_ ?_) <;> omega) | omega | (simp only [List.length_take, List.length_drop, List.length_append, List.length_cons, List.length_nil, List.length_map, List.length_range, List.length_replicate]; omega)) [-sSeq_r, -sRet_r, -sDrop_r, -sSet_r, -sIf_r, -sPar_r, -sAsg_r, -sSetIx_r, -sFor_r, -gsCons_r, -gT_r, -e1_r, -e2_r, -tV_r, -tAndM_r, -tOrM_r, -tNotM_r, -eAnd_r, -eOr_r, -eNot_r, -eIf_r, -aCons_r, -eN_r, -fCall_r, -eCallK_r, -eM_r, -eSl_r, -oSome_r, -eIsN_r, -eLc_r, -iSeq_r, -iRng_r, dSl_l, ec, dToTup_l, dAdd_tt]
    generalize rest.take j = rt at lt ht ⊢
    have sU : Sg (.tuple [.str (T [122, 122, 122, 122, 122, 122, 122, 122]), .str (T [117, 110, 108, 105, 107, 101]), .tuple (col :: rt)]) := by
      refine ⟨_, _, _, rfl, zn, step_sm (ds := [.str (T [117, 110, 108, 105, 107, 101]), .tuple (col :: rt)]) zn (by simp) (fun e he => ?_), fun e => by simp at e⟩
      simp only [List.mem_cons, List.not_mem_nil, or_false] at he
      rcases he with rfl | rfl
      · exact (Sx.of (by decide)).s2
      · refine (Sm.tup (n := 7) (c := 202) (k := 0) (fun d hd => ?_) (by simp; omega)).mono (by decide) (by decide)
        rcases List.mem_cons.mp hd with e | hd
        · rw [e]; exact scol.sm
        · exact (ht d hd).sm
    have done : ∀ {z z1 : D} {zr : List D} {μ4 : Store} (k : Nat), z = .tuple (z1 :: zr) → Sx z1 → Sg z → k ≤ 6 → Bx h (m + 4 + k) μ4 → Oth h μ μ4 → Wp (r3_l_more_step [some (.c h), some (.d (.tuple [.tuple [.tuple [pl.nm, .tuple (pl.pre ++ [.tuple pl.cols])]], .tuple [.tuple [pl.n1, .tuple [.str (T [111, 102]), pl.n2], .tuple pl.ss, .tuple pl.bs]]])), some (.d pl.n1), some (.d (.tuple [.str (T [111, 102]), pl.n2])), some (.d (.tuple pl.ss)), some (.d (.tuple pl.bs)), some (.d (.tuple pl.cols)), some (.d (.int lot)), some (.d col), some (.d (.list rest)), some (.d z), none, none, none, none] μ4) (finP P) := fun k e1 e2 e3 hk e4 e5 =>
      w_ms3 e4 pl e1 e2 e3 fun p' hp => fin p' _ hp (e4.mono (by omega)) (.oth e5)
    simp -implicitDefEqProofs (disch := first | (with_reducible assumption) | ((with_reducible show List.length _ = _); rfl) | (simp only [allD_cons, allD_nil, Option.map_some, Option.isSome_some]; done) | (simp only [List.length_cons, List.length_nil, List.length_map]; done) | ((with_reducible refine cMod_of ?_); omega) | ((with_reducible refine cDiv_of ?_ ?_) <;> omega) | ((with_reducible refine okR_of ?_ ?_) <;> omega) | omega | (simp only [List.length_take, List.length_drop, List.length_append, List.length_cons, List.length_nil, List.length_map, List.length_range, List.length_replicate]; omega)) [-sSeq_r, -sRet_r, -sDrop_r, -sSet_r, -sIf_r, -sPar_r, -sAsg_r, -sSetIx_r, -sFor_r, -gsCons_r, -gT_r, -e1_r, -e2_r, -tV_r, -tAndM_r, -tOrM_r, -tNotM_r, -eAnd_r, -eOr_r, -eNot_r, -eIf_r, -aCons_r, -eN_r, -fCall_r, -eCallK_r, -eM_r, -eSl_r, -oSome_r, -eIsN_r, -eLc_r, -iSeq_r, -iRng_r, r5_l_more_step]
    refine kIf_s (fun q => ?_) fun q => ?_
    · simp -implicitDefEqProofs (disch := first | (with_reducible assumption) | ((with_reducible show List.length _ = _); rfl) | (simp only [allD_cons, allD_nil, Option.map_some, Option.isSome_some]; done) | (simp only [List.length_cons, List.length_nil, List.length_map]; done) | ((with_reducible refine cMod_of ?_); omega) | ((with_reducible refine cDiv_of ?_ ?_) <;> omega) | ((with_reducible refine okR_of ?_ ?_) <;> omega) | omega | (simp only [List.length_take, List.length_drop, List.length_append, List.length_cons, List.length_nil, List.length_map, List.length_range, List.length_replicate]; omega)) [-sSeq_r, -sRet_r, -sDrop_r, -sSet_r, -sIf_r, -sPar_r, -sAsg_r, -sSetIx_r, -sFor_r, -gsCons_r, -gT_r, -e1_r, -e2_r, -tV_r, -tAndM_r, -tOrM_r, -tNotM_r, -eAnd_r, -eOr_r, -eNot_r, -eIf_r, -aCons_r, -eN_r, -fCall_r, -eCallK_r, -eM_r, -eSl_r, -oSome_r, -eIsN_r, -eLc_r, -iSeq_r, -iRng_r, ]
      refine w_take H3 (by omega) (by decide) (by decide) fun i μ4 hi H4 O4 => ?_
      obtain ⟨g, eg, hg⟩ : ∃ g : Nat, (1 : Int) + (i : Int) = (g : Int) ∧ g ≤ 2 := ⟨1 + i, by omega, by omega⟩
      have ec : cutL rest none (some (g : Int)) = rest.take g := by rw [cut_to _ (by omega), Int.toNat_natCast]
      have lt : (rest.take g).length ≤ 6 := by rw [List.length_take]; omega
      have ht : ∀ d ∈ rest.take g, Sx d := fun d hd => hr d (List.mem_of_mem_take hd)
      have nq : decide ((1 : Int) < (lot : Int)) = false := by simp at q; exact decide_eq_false (by omega)
      simp -implicitDefEqProofs (disch := first | (with_reducible assumption) | ((with_reducible show List.length _ = _); rfl) | (simp only [allD_cons, allD_nil, Option.map_some, Option.isSome_some]; done) | (simp only [List.length_cons, List.length_nil, List.length_map]; done) | ((with_reducible refine cMod_of ?_); omega) | ((with_reducible refine cDiv_of ?_ ?_) <;> omega) | ((with_reducible refine okR_of ?_ ?_) <;> omega) | omega | (simp only [List.length_take, List.length_drop, List.length_append, List.length_cons, List.length_nil, List.length_map, List.length_range, List.length_replicate]; omega)) [-sSeq_r, -sRet_r, -sDrop_r, -sSet_r, -sIf_r, -sPar_r, -sAsg_r, -sSetIx_r, -sFor_r, -gsCons_r, -gT_r, -e1_r, -e2_r, -tV_r, -tAndM_r, -tOrM_r, -tNotM_r, -eAnd_r, -eOr_r, -eNot_r, -eIf_r, -aCons_r, -eN_r, -fCall_r, -eCallK_r, -eM_r, -eSl_r, -oSome_r, -eIsN_r, -eLc_r, -iSeq_r, -iRng_r, eg, dSl_l, ec, dToTup_l, r4_l_more_step, nq]
      generalize rest.take g = rt2 at lt ht ⊢
      refine done 6 rfl zn ?_ (by omega) (H4.mono (by omega)) (O123.trans O4)
      refine ⟨_, _, _, rfl, zn, step_sm (ds := [.str (T [102, 105, 108, 108]), col, .tuple rt2]) zn (by simp) (fun e he => ?_), fun _ => ⟨col, rt2, [], rfl, ht⟩⟩
      simp only [List.mem_cons, List.not_mem_nil, or_false] at he
      rcases he with rfl | rfl | rfl
      · exact (Sx.of (by decide)).s2
      · exact scol.s2
      · exact (Sm.tup (n := 6) (c := 202) (k := 0) (fun d hd => (ht d hd).sm) lt).mono (by decide) (by decide)
    · simp -implicitDefEqProofs (disch := first | (with_reducible assumption) | ((with_reducible show List.length _ = _); rfl) | (simp only [allD_cons, allD_nil, Option.map_some, Option.isSome_some]; done) | (simp only [List.length_cons, List.length_nil, List.length_map]; done) | ((with_reducible refine cMod_of ?_); omega) | ((with_reducible refine cDiv_of ?_ ?_) <;> omega) | ((with_reducible refine okR_of ?_ ?_) <;> omega) | omega | (simp only [List.length_take, List.length_drop, List.length_append, List.length_cons, List.length_nil, List.length_map, List.length_range, List.length_replicate]; omega)) [-sSeq_r, -sRet_r, -sDrop_r, -sSet_r, -sIf_r, -sPar_r, -sAsg_r, -sSetIx_r, -sFor_r, -gsCons_r, -gT_r, -e1_r, -e2_r, -tV_r, -tAndM_r, -tOrM_r, -tNotM_r, -eAnd_r, -eOr_r, -eNot_r, -eIf_r, -aCons_r, -eN_r, -fCall_r, -eCallK_r, -eM_r, -eSl_r, -oSome_r, -eIsN_r, -eLc_r, -iSeq_r, -iRng_r, r4_l_more_step]
      refine kIf_s (fun q2 => ?_) fun q2 => ?_
      · have : lot = 2 ∨ lot = 3 := by simp at q2; omega
        rcases this with rfl | rfl
        · simp -implicitDefEqProofs (disch := first | (with_reducible assumption) | ((with_reducible show List.length _ = _); rfl) | (simp only [allD_cons, allD_nil, Option.map_some, Option.isSome_some]; done) | (simp only [List.length_cons, List.length_nil, List.length_map]; done) | ((with_reducible refine cMod_of ?_); omega) | ((with_reducible refine cDiv_of ?_ ?_) <;> omega) | ((with_reducible refine okR_of ?_ ?_) <;> omega) | omega | (simp only [List.length_take, List.length_drop, List.length_append, List.length_cons, List.length_nil, List.length_map, List.length_range, List.length_replicate]; omega)) [-sSeq_r, -sRet_r, -sDrop_r, -sSet_r, -sIf_r, -sPar_r, -sAsg_r, -sSetIx_r, -sFor_r, -gsCons_r, -gT_r, -e1_r, -e2_r, -tV_r, -tAndM_r, -tOrM_r, -tNotM_r, -eAnd_r, -eOr_r, -eNot_r, -eIf_r, -aCons_r, -eN_r, -fCall_r, -eCallK_r, -eM_r, -eSl_r, -oSome_r, -eIsN_r, -eLc_r, -iSeq_r, -iRng_r, dIxl0, dAdd_tt]
          refine done 0 rfl zn ?_ (by omega) (H3.mono (by omega)) O123
          refine ⟨_, _, _, rfl, zn, step_sm (ds := [.str (T [103, 105, 118, 101, 110]), col]) zn (by simp) (fun e he => ?_), fun e => by simp at e⟩
          simp only [List.mem_cons, List.not_mem_nil, or_false] at he
          rcases he with rfl | rfl
          · exact (Sx.of (by decide)).s2
          · exact scol.s2
        · simp -implicitDefEqProofs (disch := first | (with_reducible assumption) | ((with_reducible show List.length _ = _); rfl) | (simp only [allD_cons, allD_nil, Option.map_some, Option.isSome_some]; done) | (simp only [List.length_cons, List.length_nil, List.length_map]; done) | ((with_reducible refine cMod_of ?_); omega) | ((with_reducible refine cDiv_of ?_ ?_) <;> omega) | ((with_reducible refine okR_of ?_ ?_) <;> omega) | omega | (simp only [List.length_take, List.length_drop, List.length_append, List.length_cons, List.length_nil, List.length_map, List.length_range, List.length_replicate]; omega)) [-sSeq_r, -sRet_r, -sDrop_r, -sSet_r, -sIf_r, -sPar_r, -sAsg_r, -sSetIx_r, -sFor_r, -gsCons_r, -gT_r, -e1_r, -e2_r, -tV_r, -tAndM_r, -tOrM_r, -tNotM_r, -eAnd_r, -eOr_r, -eNot_r, -eIf_r, -aCons_r, -eN_r, -fCall_r, -eCallK_r, -eM_r, -eSl_r, -oSome_r, -eIsN_r, -eLc_r, -iSeq_r, -iRng_r, dIxl1, dAdd_tt]
          refine done 0 rfl zn ?_ (by omega) (H3.mono (by omega)) O123
          refine ⟨_, _, _, rfl, zn, step_sm (ds := [.str (T [102, 105, 108, 108]), col, .tuple []]) zn (by simp) (fun e he => ?_), fun _ => ⟨col, [], [], rfl, fun d hd => by cases hd⟩⟩
          simp only [List.mem_cons, List.not_mem_nil, or_false] at he
          rcases he with rfl | rfl | rfl
          · exact (Sx.of (by decide)).s2
          · exact scol.s2
          · exact (Sm.tup (n := 1) (c := 202) (k := 0) (fun d hd => by cases hd) (by simp)).mono (by decide) (by decide)
      · simp -implicitDefEqProofs (disch := first | (with_reducible assumption) | ((with_reducible show List.length _ = _); rfl) | (simp only [allD_cons, allD_nil, Option.map_some, Option.isSome_some]; done) | (simp only [List.length_cons, List.length_nil, List.length_map]; done) | ((with_reducible refine cMod_of ?_); omega) | ((with_reducible refine cDiv_of ?_ ?_) <;> omega) | ((with_reducible refine okR_of ?_ ?_) <;> omega) | omega | (simp only [List.length_take, List.length_drop, List.length_append, List.length_cons, List.length_nil, List.length_map, List.length_range, List.length_replicate]; omega)) [-sSeq_r, -sRet_r, -sDrop_r, -sSet_r, -sIf_r, -sPar_r, -sAsg_r, -sSetIx_r, -sFor_r, -gsCons_r, -gT_r, -e1_r, -e2_r, -tV_r, -tAndM_r, -tOrM_r, -tNotM_r, -eAnd_r, -eOr_r, -eNot_r, -eIf_r, -aCons_r, -eN_r, -fCall_r, -eCallK_r, -eM_r, -eSl_r, -oSome_r, -eIsN_r, -eLc_r, -iSeq_r, -iRng_r, ]
        exact done 0 rfl zn sU (by omega) (H3.mono (by omega)) O123
theorem w_more_table (H : Bx h m μ) (hm : m + 10 ≤ 10 ^ 9) {p : D} (G : PlanG p) (fin : ∀ p' μ' v, FinP p' v → Bx h (m + 10) μ' → Ext h μ μ' → P (.d p') μ') : Wp (F_l_more_table [.c h, .d p] μ) P := by
  have of : Sx (.str (T [111, 102])) := Sx.of (by decide)
  obtain ⟨c0, cr, ec⟩ : ∃ c0 cr, G.cols = c0 :: cr := by
    have := G.c0
    match e : G.cols with
    | [] => rw [e] at this; cases this
    | a :: b => exact ⟨a, b, rfl⟩
  have sc0 : Sx c0 := G.hc c0 (by rw [ec]; simp)
  have sO : Sm 4 20000 (.tuple [.str (T [111, 102]), G.n2]) := (sm_two of.sm G.hn2.sm).mono (by decide) (by decide)
  unfold F_l_more_table B_l_more_table
  apply Wp_run
  have ep := G.eq
  rw [ep]
  simp -implicitDefEqProofs (disch := first | (with_reducible assumption) | ((with_reducible show List.length _ = _); rfl) | (simp only [allD_cons, allD_nil, Option.map_some, Option.isSome_some]; done) | (simp only [List.length_cons, List.length_nil, List.length_map]; done) | ((with_reducible refine cMod_of ?_); omega) | ((with_reducible refine cDiv_of ?_ ?_) <;> omega) | ((with_reducible refine okR_of ?_ ?_) <;> omega) | omega | (simp only [List.length_take, List.length_drop, List.length_append, List.length_cons, List.length_nil, List.length_map, List.length_range, List.length_replicate]; omega)) [-sSeq_r, -sRet_r, -sDrop_r, -sSet_r, -sIf_r, -sPar_r, -sAsg_r, -sSetIx_r, -sFor_r, -gsCons_r, -gT_r, -e1_r, -e2_r, -tV_r, -tAndM_r, -tOrM_r, -tNotM_r, -eAnd_r, -eOr_r, -eNot_r, -eIf_r, -aCons_r, -eN_r, -fCall_r, -eCallK_r, -eM_r, -eSl_r, -oSome_r, -eIsN_r, -eLc_r, -iSeq_r, -iRng_r, dIx0, dIx1, r4_l_more_table, dIx_last]
  simp -implicitDefEqProofs (disch := first | (with_reducible assumption) | ((with_reducible show List.length _ = _); rfl) | (simp only [allD_cons, allD_nil, Option.map_some, Option.isSome_some]; done) | (simp only [List.length_cons, List.length_nil, List.length_map]; done) | ((with_reducible refine cMod_of ?_); omega) | ((with_reducible refine cDiv_of ?_ ?_) <;> omega) | ((with_reducible refine okR_of ?_ ?_) <;> omega) | omega | (simp only [List.length_take, List.length_drop, List.length_append, List.length_cons, List.length_nil, List.length_map, List.length_range, List.length_replicate]; omega)) [-sSeq_r, -sRet_r, -sDrop_r, -sSet_r, -sIf_r, -sPar_r, -sAsg_r, -sSetIx_r, -sFor_r, -gsCons_r, -gT_r, -e1_r, -e2_r, -tV_r, -tAndM_r, -tOrM_r, -tNotM_r, -eAnd_r, -eOr_r, -eNot_r, -eIf_r, -aCons_r, -eN_r, -fCall_r, -eCallK_r, -eM_r, -eSl_r, -oSome_r, -eIsN_r, -eLc_r, -iSeq_r, -iRng_r, ec, dIx0, r3_l_more_table, cList_c (xs := [_, _]) (by simp)]
  have e1 : (μ ++ [Cell.lst [.d (.tuple [.str (T [111, 102]), G.n2]), .d (.tuple [.str (T [103, 114, 111, 117, 112]), G.n1, .tuple [c0], .tuple [.tuple [.str (T [122, 122, 122, 122, 122, 122, 122, 97]), .str (T [99, 111, 117, 110, 116]), .none]]])]])[μ.length]? = some (.lst (([.tuple [.str (T [111, 102]), G.n2], .tuple [.str (T [103, 114, 111, 117, 112]), G.n1, .tuple [c0], .tuple [.tuple [.str (T [122, 122, 122, 122, 122, 122, 122, 97]), .str (T [99, 111, 117, 110, 116]), .none]]]] : List D).map .d)) := by simp
  have X1 := Ext.app h μ [Cell.lst [.d (.tuple [.str (T [111, 102]), G.n2]), .d (.tuple [.str (T [103, 114, 111, 117, 112]), G.n1, .tuple [c0], .tuple [.tuple [.str (T [122, 122, 122, 122, 122, 122, 122, 97]), .str (T [99, 111, 117, 110, 116]), .none]]])]]
  have H1 := H.app (ν := [Cell.lst [.d (.tuple [.str (T [111, 102]), G.n2]), .d (.tuple [.str (T [103, 114, 111, 117, 112]), G.n1, .tuple [c0], .tuple [.tuple [.str (T [122, 122, 122, 122, 122, 122, 122, 97]), .str (T [99, 111, 117, 110, 116]), .none]]])]])
  have hh : h < μ.length := by obtain ⟨_, _, _, e, _⟩ := H; exact lt_of_get e
  generalize μ ++ [Cell.lst [.d (.tuple [.str (T [111, 102]), G.n2]), .d (.tuple [.str (T [103, 114, 111, 117, 112]), G.n1, .tuple [c0], .tuple [.tuple [.str (T [122, 122, 122, 122, 122, 122, 122, 97]), .str (T [99, 111, 117, 110, 116]), .none]]])]] = ν at e1 X1 H1 ⊢
  have hL := isLst_c e1
  simp -implicitDefEqProofs (disch := first | (with_reducible assumption) | ((with_reducible show List.length _ = _); rfl) | (simp only [allD_cons, allD_nil, Option.map_some, Option.isSome_some]; done) | (simp only [List.length_cons, List.length_nil, List.length_map]; done) | ((with_reducible refine cMod_of ?_); omega) | ((with_reducible refine cDiv_of ?_ ?_) <;> omega) | ((with_reducible refine okR_of ?_ ?_) <;> omega) | omega | (simp only [List.length_take, List.length_drop, List.length_append, List.length_cons, List.length_nil, List.length_map, List.length_range, List.length_replicate]; omega)) [-sSeq_r, -sRet_r, -sDrop_r, -sSet_r, -sIf_r, -sPar_r, -sAsg_r, -sSetIx_r, -sFor_r, -gsCons_r, -gT_r, -e1_r, -e2_r, -tV_r, -tAndM_r, -tOrM_r, -tNotM_r, -eAnd_r, -eOr_r, -eNot_r, -eIf_r, -aCons_r, -eN_r, -fCall_r, -eCallK_r, -eM_r, -eSl_r, -oSome_r, -eIsN_r, -eLc_r, -iSeq_r, -iRng_r, r2_l_more_table, dAppend_c e1 (by simp)]
  have e2 := get_set (c := Cell.lst (([.tuple [.str (T [111, 102]), G.n2], .tuple [.str (T [103, 114, 111, 117, 112]), G.n1, .tuple [c0], .tuple [.tuple [.str (T [122, 122, 122, 122, 122, 122, 122, 97]), .str (T [99, 111, 117, 110, 116]), .none]]], .tuple [.str (T [108, 111, 110, 103]), G.n1, .tuple [c0], .str (T [122, 122, 122, 122, 122, 122, 122, 97]), .str (T [122, 122, 122, 122, 122, 122, 122, 98])]] : List D).map .d)) e1
  simp only [List.map_cons, List.map_nil] at e2
  simp -implicitDefEqProofs (disch := first | (with_reducible assumption) | ((with_reducible show List.length _ = _); rfl) | (simp only [allD_cons, allD_nil, Option.map_some, Option.isSome_some]; done) | (simp only [List.length_cons, List.length_nil, List.length_map]; done) | ((with_reducible refine cMod_of ?_); omega) | ((with_reducible refine cDiv_of ?_ ?_) <;> omega) | ((with_reducible refine okR_of ?_ ?_) <;> omega) | omega | (simp only [List.length_take, List.length_drop, List.length_append, List.length_cons, List.length_nil, List.length_map, List.length_range, List.length_replicate]; omega)) [-sSeq_r, -sRet_r, -sDrop_r, -sSet_r, -sIf_r, -sPar_r, -sAsg_r, -sSetIx_r, -sFor_r, -gsCons_r, -gT_r, -e1_r, -e2_r, -tV_r, -tAndM_r, -tOrM_r, -tNotM_r, -eAnd_r, -eOr_r, -eNot_r, -eIf_r, -aCons_r, -eN_r, -fCall_r, -eCallK_r, -eM_r, -eSl_r, -oSome_r, -eIsN_r, -eLc_r, -iSeq_r, -iRng_r, r1_l_more_table, dIx0, dIx1]
  refine w_pickC (m := m) (H1.set (by omega)) (by omega) (n := μ.length) (ds := [.tuple [.str (T [111, 102]), G.n2], .tuple [.str (T [103, 114, 111, 117, 112]), G.n1, .tuple [c0], .tuple [.tuple [.str (T [122, 122, 122, 122, 122, 122, 122, 97]), .str (T [99, 111, 117, 110, 116]), .none]]], .tuple [.str (T [108, 111, 110, 103]), G.n1, .tuple [c0], .str (T [122, 122, 122, 122, 122, 122, 122, 97]), .str (T [122, 122, 122, 122, 122, 122, 122, 98])]]) e2 (by omega) (by simp) (by simp) fun o μ2 ho H2 O2 => ?_
  have so : Sm 4 20000 o := by
    simp only [List.mem_cons, List.not_mem_nil, or_false] at ho
    have s1 : ∀ {x : D}, Sx x → Sm 2 2500 x := fun hx => hx.s2
    have s2 : Sm 2 2500 (.tuple [c0]) := (sm_one sc0.sm).mono (by decide) (by decide)
    rcases ho with rfl | rfl | rfl
    · exact sO
    · refine (sm_four (k := 2) (c := 2500) (s1 (Sx.of (by decide))) (s1 G.hn1) s2 ?_).mono (by decide) (by decide)
      refine (sm_one (k := 1) (c := 1000) ((Sm.tup (n := 3) (c := 202) (k := 0) (fun d hd => ?_) (by simp)).mono (by decide) (by decide))).mono (by decide) (by decide)
      simp only [List.mem_cons, List.not_mem_nil, or_false] at hd
      rcases hd with rfl | rfl | rfl
      · exact (Sx.of (by decide)).sm
      · exact (Sx.of (by decide)).sm
      · exact Sm.none.mono (by decide) (by decide)
    · refine (Sm.tup (n := 5) (c := 2500) (k := 2) (fun d hd => ?_) (by simp)).mono (by decide) (by decide)
      simp only [List.mem_cons, List.not_mem_nil, or_false] at hd
      rcases hd with rfl | rfl | rfl | rfl | rfl
      · exact s1 (Sx.of (by decide))
      · exact s1 G.hn1
      · exact s2
      · exact s1 (Sx.of (by decide))
      · exact s1 (Sx.of (by decide))
  simp -implicitDefEqProofs (disch := first | (with_reducible assumption) | ((with_reducible show List.length _ = _); rfl) | (simp only [allD_cons, allD_nil, Option.map_some, Option.isSome_some]; done) | (simp only [List.length_cons, List.length_nil, List.length_map]; done) | ((with_reducible refine cMod_of ?_); omega) | ((with_reducible refine cDiv_of ?_ ?_) <;> omega) | ((with_reducible refine okR_of ?_ ?_) <;> omega) | omega | (simp only [List.length_take, List.length_drop, List.length_append, List.length_cons, List.length_nil, List.length_map, List.length_range, List.length_replicate]; omega)) [-sSeq_r, -sRet_r, -sDrop_r, -sSet_r, -sIf_r, -sPar_r, -sAsg_r, -sSetIx_r, -sFor_r, -gsCons_r, -gT_r, -e1_r, -e2_r, -tV_r, -tAndM_r, -tOrM_r, -tNotM_r, -eAnd_r, -eOr_r, -eNot_r, -eIf_r, -aCons_r, -eN_r, -fCall_r, -eCallK_r, -eM_r, -eSl_r, -oSome_r, -eIsN_r, -eLc_r, -iSeq_r, -iRng_r, dAdd_tt]
  have se : Sm 4 20000 (.tuple []) := (Sm.tup (n := 1) (c := 202) (k := 0) (fun d hd => by cases hd) (by simp)).mono (by decide) (by decide)
  have zn : Sx (.str (T [122, 122, 122, 122, 122, 122, 122, 122])) := Sx.of (by decide)
  obtain ⟨v, hv⟩ := fin_of G (srcs := [.tuple [G.nm, .tuple (G.pre ++ [.tuple G.cols])]]) (ts := [.tuple [.str (T [122, 122, 122, 122, 122, 122, 122, 122]), o, .tuple [], .tuple []]]) (fun d hd => by rw [List.mem_singleton.mp hd]; exact G.src) (by simp) (fun d hd => by rw [List.mem_singleton.mp hd]; exact (sm_four (zn.sm.mono (by decide) (by decide)) so se se).mono (by decide) (by decide)) (by simp)
  rw [ec] at hv
  refine fin _ μ2 v hv (H2.mono (by omega)) ((X1.then (Ex'.set (S := [μ.length]) (by simp)) (by simp)).trans (.oth O2))
theorem w_more_source (H : Bx h m μ) (hm : m + 20 ≤ 10 ^ 9) {p : D} (G : PlanG p) (fin : ∀ p' μ' v, FinP p' v → Bx h (m + 20) μ' → Ext h μ μ' → P (.d p') μ') : Wp (F_l_more_source [.c h, .d p] μ) P := by
  have a1 : Sx (.str (T [122, 122, 97])) := Sx.of (by decide)
  have a2 : Sx (.str (T [122, 122, 98])) := Sx.of (by decide)
  unfold F_l_more_source B_l_more_source
  apply Wp_run
  have ep := G.eq
  rw [ep]
  simp -implicitDefEqProofs (disch := first | (with_reducible assumption) | ((with_reducible show List.length _ = _); rfl) | (simp only [allD_cons, allD_nil, Option.map_some, Option.isSome_some]; done) | (simp only [List.length_cons, List.length_nil, List.length_map]; done) | ((with_reducible refine cMod_of ?_); omega) | ((with_reducible refine cDiv_of ?_ ?_) <;> omega) | ((with_reducible refine okR_of ?_ ?_) <;> omega) | omega | (simp only [List.length_take, List.length_drop, List.length_append, List.length_cons, List.length_nil, List.length_map, List.length_range, List.length_replicate]; omega)) [-sSeq_r, -sRet_r, -sDrop_r, -sSet_r, -sIf_r, -sPar_r, -sAsg_r, -sSetIx_r, -sFor_r, -gsCons_r, -gT_r, -e1_r, -e2_r, -tV_r, -tAndM_r, -tOrM_r, -tNotM_r, -eAnd_r, -eOr_r, -eNot_r, -eIf_r, -aCons_r, -eN_r, -fCall_r, -eCallK_r, -eM_r, -eSl_r, -oSome_r, -eIsN_r, -eLc_r, -iSeq_r, -iRng_r, ]
  refine w_shape H (by omega) (ns := [.str (T [122, 122, 97]), .str (T [122, 122, 98])]) (fun d hd => ?_) (by simp) fun pre μ1 hs H1 E1 => ?_
  · simp only [List.mem_cons, List.not_mem_nil, or_false] at hd
    rcases hd with rfl | rfl
    · exact a1
    · exact a2
  · simp -implicitDefEqProofs (disch := first | (with_reducible assumption) | ((with_reducible show List.length _ = _); rfl) | (simp only [allD_cons, allD_nil, Option.map_some, Option.isSome_some]; done) | (simp only [List.length_cons, List.length_nil, List.length_map]; done) | ((with_reducible refine cMod_of ?_); omega) | ((with_reducible refine cDiv_of ?_ ?_) <;> omega) | ((with_reducible refine okR_of ?_ ?_) <;> omega) | omega | (simp only [List.length_take, List.length_drop, List.length_append, List.length_cons, List.length_nil, List.length_map, List.length_range, List.length_replicate]; omega)) [-sSeq_r, -sRet_r, -sDrop_r, -sSet_r, -sIf_r, -sPar_r, -sAsg_r, -sSetIx_r, -sFor_r, -gsCons_r, -gT_r, -e1_r, -e2_r, -tV_r, -tAndM_r, -tOrM_r, -tNotM_r, -eAnd_r, -eOr_r, -eNot_r, -eIf_r, -aCons_r, -eN_r, -fCall_r, -eCallK_r, -eM_r, -eSl_r, -oSome_r, -eIsN_r, -eLc_r, -iSeq_r, -iRng_r, r1_l_more_source]
    refine w_take H1 (by omega) (by decide) (by decide) fun r μ2 hr H2 O2 => ?_
    have s2 : Sm 3 17000 (.tuple [.str (T [122, 122, 122, 122, 122, 122, 122, 115]), .tuple (pre ++ [.tuple [.str (T [122, 122, 97]), .str (T [122, 122, 98])]])]) := (sm_two (k := 2) (c := 8000) ((Sx.of (by decide)).sm.mono (by decide) (by decide)) hs).mono (by decide) (by decide)
    have s1 := G.src
    simp -implicitDefEqProofs (disch := first | (with_reducible assumption) | ((with_reducible show List.length _ = _); rfl) | (simp only [allD_cons, allD_nil, Option.map_some, Option.isSome_some]; done) | (simp only [List.length_cons, List.length_nil, List.length_map]; done) | ((with_reducible refine cMod_of ?_); omega) | ((with_reducible refine cDiv_of ?_ ?_) <;> omega) | ((with_reducible refine okR_of ?_ ?_) <;> omega) | omega | (simp only [List.length_take, List.length_drop, List.length_append, List.length_cons, List.length_nil, List.length_map, List.length_range, List.length_replicate]; omega)) [-sSeq_r, -sRet_r, -sDrop_r, -sSet_r, -sIf_r, -sPar_r, -sAsg_r, -sSetIx_r, -sFor_r, -gsCons_r, -gT_r, -e1_r, -e2_r, -tV_r, -tAndM_r, -tOrM_r, -tNotM_r, -eAnd_r, -eOr_r, -eNot_r, -eIf_r, -aCons_r, -eN_r, -fCall_r, -eCallK_r, -eM_r, -eSl_r, -oSome_r, -eIsN_r, -eLc_r, -iSeq_r, -iRng_r, ]
    refine kEI_s (fun q => ?_) fun q => ?_
    · simp -implicitDefEqProofs (disch := first | (with_reducible assumption) | ((with_reducible show List.length _ = _); rfl) | (simp only [allD_cons, allD_nil, Option.map_some, Option.isSome_some]; done) | (simp only [List.length_cons, List.length_nil, List.length_map]; done) | ((with_reducible refine cMod_of ?_); omega) | ((with_reducible refine cDiv_of ?_ ?_) <;> omega) | ((with_reducible refine okR_of ?_ ?_) <;> omega) | omega | (simp only [List.length_take, List.length_drop, List.length_append, List.length_cons, List.length_nil, List.length_map, List.length_range, List.length_replicate]; omega)) [-sSeq_r, -sRet_r, -sDrop_r, -sSet_r, -sIf_r, -sPar_r, -sAsg_r, -sSetIx_r, -sFor_r, -gsCons_r, -gT_r, -e1_r, -e2_r, -tV_r, -tAndM_r, -tOrM_r, -tNotM_r, -eAnd_r, -eOr_r, -eNot_r, -eIf_r, -aCons_r, -eN_r, -fCall_r, -eCallK_r, -eM_r, -eSl_r, -oSome_r, -eIsN_r, -eLc_r, -iSeq_r, -iRng_r, dIx0, dIx1, dAdd_tt]
      obtain ⟨v, hv⟩ := fin_of G (srcs := [_, _]) (ts := []) (fun d hd => by
        simp only [List.mem_cons, List.not_mem_nil, or_false] at hd
        rcases hd with rfl | rfl
        · exact s2
        · exact s1) (by simp) (fun d hd => by cases hd) (by simp)
      exact fin _ μ2 v hv (H2.mono (by omega)) (E1.trans (.oth O2))
    · simp -implicitDefEqProofs (disch := first | (with_reducible assumption) | ((with_reducible show List.length _ = _); rfl) | (simp only [allD_cons, allD_nil, Option.map_some, Option.isSome_some]; done) | (simp only [List.length_cons, List.length_nil, List.length_map]; done) | ((with_reducible refine cMod_of ?_); omega) | ((with_reducible refine cDiv_of ?_ ?_) <;> omega) | ((with_reducible refine okR_of ?_ ?_) <;> omega) | omega | (simp only [List.length_take, List.length_drop, List.length_append, List.length_cons, List.length_nil, List.length_map, List.length_range, List.length_replicate]; omega)) [-sSeq_r, -sRet_r, -sDrop_r, -sSet_r, -sIf_r, -sPar_r, -sAsg_r, -sSetIx_r, -sFor_r, -gsCons_r, -gT_r, -e1_r, -e2_r, -tV_r, -tAndM_r, -tOrM_r, -tNotM_r, -eAnd_r, -eOr_r, -eNot_r, -eIf_r, -aCons_r, -eN_r, -fCall_r, -eCallK_r, -eM_r, -eSl_r, -oSome_r, -eIsN_r, -eLc_r, -iSeq_r, -iRng_r, dIx0, dIx1, dAdd_tt]
      obtain ⟨v, hv⟩ := fin_of G (srcs := [_, _]) (ts := []) (fun d hd => by
        simp only [List.mem_cons, List.not_mem_nil, or_false] at hd
        rcases hd with rfl | rfl
        · exact s1
        · exact s2) (by simp) (fun d hd => by cases hd) (by simp)
      exact fin _ μ2 v hv (H2.mono (by omega)) (E1.trans (.oth O2))
end
end LW

namespace LW
open PySem PySem.Spec PyProof.Rows L2 DL
theorem dIxl1' {n w : D} {r : List D} {μ : Store} : dIx (.d (.list (n :: w :: r))) (.d (.int 1)) μ = .ok (.d w) μ := dIxl1
theorem w_turn {h m : Nat} {μ : Store} (H : Bx h m μ) (hm : m + 2000 ≤ 10 ^ 9) {a0 a1 a3 a4 a5 a6 : Option Dv} {Q : Fl → Store → Prop} (fin : ∀ a4 a5 a6 μ', Bx h (m + 1100) μ' → Q (.nx [a0, a1, some (.c h), a3, a4, a5, a6]) μ') : Wp (w1_law [a0, a1, some (.c h), a3, a4, a5, a6] μ) Q := by
  simp -implicitDefEqProofs (disch := first | (with_reducible assumption) | ((with_reducible show List.length _ = _); rfl) | (simp only [allD_cons, allD_nil, Option.map_some, Option.isSome_some]; done) | (simp only [List.length_cons, List.length_nil, List.length_map]; done) | ((with_reducible refine cMod_of ?_); omega) | ((with_reducible refine cDiv_of ?_ ?_) <;> omega) | ((with_reducible refine okR_of ?_ ?_) <;> omega) | omega | (simp only [List.length_take, List.length_drop, List.length_append, List.length_cons, List.length_nil, List.length_map, List.length_range, List.length_replicate]; omega)) [-sSeq_r, -sRet_r, -sDrop_r, -sSet_r, -sIf_r, -sPar_r, -sAsg_r, -sSetIx_r, -sFor_r, -gsCons_r, -gT_r, -e1_r, -e2_r, -tV_r, -tAndM_r, -tOrM_r, -tNotM_r, -eAnd_r, -eOr_r, -eNot_r, -eIf_r, -aCons_r, -eN_r, -fCall_r, -eCallK_r, -eM_r, -eSl_r, -oSome_r, -eIsN_r, -eLc_r, -iSeq_r, -iRng_r, w1_law]
  refine w_plan H (by omega) fun p μ1 hp H1 E1 => ?_
  obtain ⟨pl⟩ := hp
  simp -implicitDefEqProofs (disch := first | (with_reducible assumption) | ((with_reducible show List.length _ = _); rfl) | (simp only [allD_cons, allD_nil, Option.map_some, Option.isSome_some]; done) | (simp only [List.length_cons, List.length_nil, List.length_map]; done) | ((with_reducible refine cMod_of ?_); omega) | ((with_reducible refine cDiv_of ?_ ?_) <;> omega) | ((with_reducible refine okR_of ?_ ?_) <;> omega) | omega | (simp only [List.length_take, List.length_drop, List.length_append, List.length_cons, List.length_nil, List.length_map, List.length_range, List.length_replicate]; omega)) [-sSeq_r, -sRet_r, -sDrop_r, -sSet_r, -sIf_r, -sPar_r, -sAsg_r, -sSetIx_r, -sFor_r, -gsCons_r, -gT_r, -e1_r, -e2_r, -tV_r, -tAndM_r, -tOrM_r, -tNotM_r, -eAnd_r, -eOr_r, -eNot_r, -eIf_r, -aCons_r, -eN_r, -fCall_r, -eCallK_r, -eM_r, -eSl_r, -oSome_r, -eIsN_r, -eLc_r, -iSeq_r, -iRng_r, r4_law]
  refine w_more_step H1 (by omega) pl fun p1 μ2 g1 H2 E2 => ?_
  simp -implicitDefEqProofs (disch := first | (with_reducible assumption) | ((with_reducible show List.length _ = _); rfl) | (simp only [allD_cons, allD_nil, Option.map_some, Option.isSome_some]; done) | (simp only [List.length_cons, List.length_nil, List.length_map]; done) | ((with_reducible refine cMod_of ?_); omega) | ((with_reducible refine cDiv_of ?_ ?_) <;> omega) | ((with_reducible refine okR_of ?_ ?_) <;> omega) | omega | (simp only [List.length_take, List.length_drop, List.length_append, List.length_cons, List.length_nil, List.length_map, List.length_range, List.length_replicate]; omega)) [-sSeq_r, -sRet_r, -sDrop_r, -sSet_r, -sIf_r, -sPar_r, -sAsg_r, -sSetIx_r, -sFor_r, -gsCons_r, -gT_r, -e1_r, -e2_r, -tV_r, -tAndM_r, -tOrM_r, -tNotM_r, -eAnd_r, -eOr_r, -eNot_r, -eIf_r, -aCons_r, -eN_r, -fCall_r, -eCallK_r, -eM_r, -eSl_r, -oSome_r, -eIsN_r, -eLc_r, -iSeq_r, -iRng_r, ]
  refine w_more_step H2 (by omega) pl fun p2 μ3 g2 H3 E3 => ?_
  simp -implicitDefEqProofs (disch := first | (with_reducible assumption) | ((with_reducible show List.length _ = _); rfl) | (simp only [allD_cons, allD_nil, Option.map_some, Option.isSome_some]; done) | (simp only [List.length_cons, List.length_nil, List.length_map]; done) | ((with_reducible refine cMod_of ?_); omega) | ((with_reducible refine cDiv_of ?_ ?_) <;> omega) | ((with_reducible refine okR_of ?_ ?_) <;> omega) | omega | (simp only [List.length_take, List.length_drop, List.length_append, List.length_cons, List.length_nil, List.length_map, List.length_range, List.length_replicate]; omega)) [-sSeq_r, -sRet_r, -sDrop_r, -sSet_r, -sIf_r, -sPar_r, -sAsg_r, -sSetIx_r, -sFor_r, -gsCons_r, -gT_r, -e1_r, -e2_r, -tV_r, -tAndM_r, -tOrM_r, -tNotM_r, -eAnd_r, -eOr_r, -eNot_r, -eIf_r, -aCons_r, -eN_r, -fCall_r, -eCallK_r, -eM_r, -eSl_r, -oSome_r, -eIsN_r, -eLc_r, -iSeq_r, -iRng_r, r3_law]
  refine w_more_table H3 (by omega) pl.g fun p3 μ4 v3 f3 H4 E4 => ?_
  simp -implicitDefEqProofs (disch := first | (with_reducible assumption) | ((with_reducible show List.length _ = _); rfl) | (simp only [allD_cons, allD_nil, Option.map_some, Option.isSome_some]; done) | (simp only [List.length_cons, List.length_nil, List.length_map]; done) | ((with_reducible refine cMod_of ?_); omega) | ((with_reducible refine cDiv_of ?_ ?_) <;> omega) | ((with_reducible refine okR_of ?_ ?_) <;> omega) | omega | (simp only [List.length_take, List.length_drop, List.length_append, List.length_cons, List.length_nil, List.length_map, List.length_range, List.length_replicate]; omega)) [-sSeq_r, -sRet_r, -sDrop_r, -sSet_r, -sIf_r, -sPar_r, -sAsg_r, -sSetIx_r, -sFor_r, -gsCons_r, -gT_r, -e1_r, -e2_r, -tV_r, -tAndM_r, -tOrM_r, -tNotM_r, -eAnd_r, -eOr_r, -eNot_r, -eIf_r, -aCons_r, -eN_r, -fCall_r, -eCallK_r, -eM_r, -eSl_r, -oSome_r, -eIsN_r, -eLc_r, -iSeq_r, -iRng_r, dIxl1]
  refine w_more_table H4 (by omega) g1 fun p4 μ5 v4 f4 H5 E5 => ?_
  simp -implicitDefEqProofs (disch := first | (with_reducible assumption) | ((with_reducible show List.length _ = _); rfl) | (simp only [allD_cons, allD_nil, Option.map_some, Option.isSome_some]; done) | (simp only [List.length_cons, List.length_nil, List.length_map]; done) | ((with_reducible refine cMod_of ?_); omega) | ((with_reducible refine cDiv_of ?_ ?_) <;> omega) | ((with_reducible refine okR_of ?_ ?_) <;> omega) | omega | (simp only [List.length_take, List.length_drop, List.length_append, List.length_cons, List.length_nil, List.length_map, List.length_range, List.length_replicate]; omega)) [-sSeq_r, -sRet_r, -sDrop_r, -sSet_r, -sIf_r, -sPar_r, -sAsg_r, -sSetIx_r, -sFor_r, -gsCons_r, -gT_r, -e1_r, -e2_r, -tV_r, -tAndM_r, -tOrM_r, -tNotM_r, -eAnd_r, -eOr_r, -eNot_r, -eIf_r, -aCons_r, -eN_r, -fCall_r, -eCallK_r, -eM_r, -eSl_r, -oSome_r, -eIsN_r, -eLc_r, -iSeq_r, -iRng_r, dAdd_ll, r2_law]
  refine w_more_source H5 (by omega) pl.g fun p5 μ6 v5 f5 H6 E6 => ?_
  simp -implicitDefEqProofs (disch := first | (with_reducible assumption) | ((with_reducible show List.length _ = _); rfl) | (simp only [allD_cons, allD_nil, Option.map_some, Option.isSome_some]; done) | (simp only [List.length_cons, List.length_nil, List.length_map]; done) | ((with_reducible refine cMod_of ?_); omega) | ((with_reducible refine cDiv_of ?_ ?_) <;> omega) | ((with_reducible refine okR_of ?_ ?_) <;> omega) | omega | (simp only [List.length_take, List.length_drop, List.length_append, List.length_cons, List.length_nil, List.length_map, List.length_range, List.length_replicate]; omega)) [-sSeq_r, -sRet_r, -sDrop_r, -sSet_r, -sIf_r, -sPar_r, -sAsg_r, -sSetIx_r, -sFor_r, -gsCons_r, -gT_r, -e1_r, -e2_r, -tV_r, -tAndM_r, -tOrM_r, -tNotM_r, -eAnd_r, -eOr_r, -eNot_r, -eIf_r, -aCons_r, -eN_r, -fCall_r, -eCallK_r, -eM_r, -eSl_r, -oSome_r, -eIsN_r, -eLc_r, -iSeq_r, -iRng_r, dIxl1]
  refine w_more_source H6 (by omega) g1 fun p6 μ7 v6 f6 H7 E7 => ?_
  simp -implicitDefEqProofs (disch := first | (with_reducible assumption) | ((with_reducible show List.length _ = _); rfl) | (simp only [allD_cons, allD_nil, Option.map_some, Option.isSome_some]; done) | (simp only [List.length_cons, List.length_nil, List.length_map]; done) | ((with_reducible refine cMod_of ?_); omega) | ((with_reducible refine cDiv_of ?_ ?_) <;> omega) | ((with_reducible refine okR_of ?_ ?_) <;> omega) | omega | (simp only [List.length_take, List.length_drop, List.length_append, List.length_cons, List.length_nil, List.length_map, List.length_range, List.length_replicate]; omega)) [-sSeq_r, -sRet_r, -sDrop_r, -sSet_r, -sIf_r, -sPar_r, -sAsg_r, -sSetIx_r, -sFor_r, -gsCons_r, -gT_r, -e1_r, -e2_r, -tV_r, -tAndM_r, -tOrM_r, -tNotM_r, -eAnd_r, -eOr_r, -eNot_r, -eIf_r, -aCons_r, -eN_r, -fCall_r, -eCallK_r, -eM_r, -eSl_r, -oSome_r, -eIsN_r, -eLc_r, -iSeq_r, -iRng_r, dAdd_ll, r1_law]
  obtain ⟨v0, f0⟩ := pl.g.fin
  obtain ⟨v1, f1⟩ := g1.fin
  obtain ⟨v2, f2⟩ := g2.fin
  have all : ∀ d ∈ [p, p1, p2, p3, p4, p5, p6], ∃ v, FinP d v := fun d hd => by
    simp only [List.mem_cons, List.not_mem_nil, or_false] at hd
    rcases hd with rfl | rfl | rfl | rfl | rfl | rfl | rfl
    · exact ⟨_, f0⟩
    · exact ⟨_, f1⟩
    · exact ⟨_, f2⟩
    · exact ⟨_, f3⟩
    · exact ⟨_, f4⟩
    · exact ⟨_, f5⟩
    · exact ⟨_, f6⟩
  refine Wp_lcF (by simp) ?_
  refine Wp_lcM_y (bs := [p, p1, p2, p3, p4, p5, p6].map Dv.d) (fun _ μ' => μ' = μ7) (fun y => y = .d (.bool true)) (i := 0) rfl (fun j b μ' hb e => ?_) fun ys μ' hl hy e => ?_
  · subst e
    obtain ⟨d, hd, rfl⟩ := mem_map_d hb
    obtain ⟨v, hv⟩ := all d hd
    simp -implicitDefEqProofs (disch := first | (with_reducible assumption) | ((with_reducible show List.length _ = _); rfl) | (simp only [allD_cons, allD_nil, Option.map_some, Option.isSome_some]; done) | (simp only [List.length_cons, List.length_nil, List.length_map]; done) | ((with_reducible refine cMod_of ?_); omega) | ((with_reducible refine cDiv_of ?_ ?_) <;> omega) | ((with_reducible refine okR_of ?_ ?_) <;> omega) | omega | (simp only [List.length_take, List.length_drop, List.length_append, List.length_cons, List.length_nil, List.length_map, List.length_range, List.length_replicate]; omega)) [-sSeq_r, -sRet_r, -sDrop_r, -sSet_r, -sIf_r, -sPar_r, -sAsg_r, -sSetIx_r, -sFor_r, -gsCons_r, -gT_r, -e1_r, -e2_r, -tV_r, -tAndM_r, -tOrM_r, -tNotM_r, -eAnd_r, -eOr_r, -eNot_r, -eIf_r, -aCons_r, -eN_r, -fCall_r, -eCallK_r, -eM_r, -eSl_r, -oSome_r, -eIsN_r, -eLc_r, -iSeq_r, -iRng_r, c1_law, wipeD]
    refine w_right hv ?_
    simp -implicitDefEqProofs (disch := first | (with_reducible assumption) | ((with_reducible show List.length _ = _); rfl) | (simp only [allD_cons, allD_nil, Option.map_some, Option.isSome_some]; done) | (simp only [List.length_cons, List.length_nil, List.length_map]; done) | ((with_reducible refine cMod_of ?_); omega) | ((with_reducible refine cDiv_of ?_ ?_) <;> omega) | ((with_reducible refine okR_of ?_ ?_) <;> omega) | omega | (simp only [List.length_take, List.length_drop, List.length_append, List.length_cons, List.length_nil, List.length_map, List.length_range, List.length_replicate]; omega)) [-sSeq_r, -sRet_r, -sDrop_r, -sSet_r, -sIf_r, -sPar_r, -sAsg_r, -sSetIx_r, -sFor_r, -gsCons_r, -gT_r, -e1_r, -e2_r, -tV_r, -tAndM_r, -tOrM_r, -tNotM_r, -eAnd_r, -eOr_r, -eNot_r, -eIf_r, -aCons_r, -eN_r, -fCall_r, -eCallK_r, -eM_r, -eSl_r, -oSome_r, -eIsN_r, -eLc_r, -iSeq_r, -iRng_r, ]
  · subst e
    have ey : ys = ((List.replicate ys.length true).map PyData.bool).map Dv.d := by
      clear hl
      induction ys with
      | nil => rfl
      | cons y ys ih =>
        have e := hy y List.mem_cons_self
        subst e
        have := ih fun z hz => hy z (List.mem_cons_of_mem _ hz)
        rw [List.length_cons, List.replicate_succ, List.map_cons, List.map_cons, ← this]
    have hl : ys.length = 7 := by simpa using hl
    rw [hl] at ey
    subst ey
    rw [dList_map (by simp)]
    have ea : dAll (fun ks => ks.all id) [.d (.list [.bool true, .bool true, .bool true, .bool true, .bool true, .bool true, .bool true])] μ' = .ok (.d (.bool true)) μ' := dAll_b (ks := List.replicate 7 true)
    simp -implicitDefEqProofs (disch := first | (with_reducible assumption) | ((with_reducible show List.length _ = _); rfl) | (simp only [allD_cons, allD_nil, Option.map_some, Option.isSome_some]; done) | (simp only [List.length_cons, List.length_nil, List.length_map]; done) | ((with_reducible refine cMod_of ?_); omega) | ((with_reducible refine cDiv_of ?_ ?_) <;> omega) | ((with_reducible refine okR_of ?_ ?_) <;> omega) | omega | (simp only [List.length_take, List.length_drop, List.length_append, List.length_cons, List.length_nil, List.length_map, List.length_range, List.length_replicate]; omega)) [-sSeq_r, -sRet_r, -sDrop_r, -sSet_r, -sIf_r, -sPar_r, -sAsg_r, -sSetIx_r, -sFor_r, -gsCons_r, -gT_r, -e1_r, -e2_r, -tV_r, -tAndM_r, -tOrM_r, -tNotM_r, -eAnd_r, -eOr_r, -eNot_r, -eIf_r, -aCons_r, -eN_r, -fCall_r, -eCallK_r, -eM_r, -eSl_r, -oSome_r, -eIsN_r, -eLc_r, -iSeq_r, -iRng_r, ea]
    exact fin _ _ _ μ' (H7.mono (by omega))
theorem law_right : ∀ ns : List Int, ns.length ≤ 63 → (∀ i ∈ ns, Builtin.Int.intBits i ≤ 1048576) → ∃ μ', F_law [.d (.list (ns.map PyData.int))] [] = .ok (.d (.bool true)) μ' := by
  intro ns hn hi
  have w : Wp (F_law [.d (.list (ns.map PyData.int))] []) fun b _ => b = .d (.bool true) := by
    have ec : cutL (ns.map PyData.int) none (some 4) = (ns.map PyData.int).take 4 := cut_to _ (by decide)
    obtain ⟨k, ek, hk⟩ : ∃ k : Nat, (1 : Int) + ((min 4 ns.length : Nat) : Int) = (k : Int) ∧ k ≤ 5 := ⟨1 + min 4 ns.length, by omega, by omega⟩
    have el : ((ns.map PyData.int).take 4).length = min 4 ns.length := by simp
    unfold F_law B_law
    apply Wp_run
    have e0 : dSl (.d (.list (ns.map PyData.int))) none (some 4) [] = .ok (.d (.list ((ns.map PyData.int).take 4))) [] := by rw [dSl_l, ec]
    have e1 : dLen [.d (.list ((ns.map PyData.int).take 4))] ([] : Store) = .ok (.d (.int (min 4 ns.length : Nat))) [] := by rw [dLen_l, el]
    generalize min 4 ns.length = q at ek e1
    simp -implicitDefEqProofs (disch := first | (with_reducible assumption) | ((with_reducible show List.length _ = _); rfl) | (simp only [allD_cons, allD_nil, Option.map_some, Option.isSome_some]; done) | (simp only [List.length_cons, List.length_nil, List.length_map]; done) | ((with_reducible refine cMod_of ?_); omega) | ((with_reducible refine cDiv_of ?_ ?_) <;> omega) | ((with_reducible refine okR_of ?_ ?_) <;> omega) | omega | (simp only [List.length_take, List.length_drop, List.length_append, List.length_cons, List.length_nil, List.length_map, List.length_range, List.length_replicate]; omega)) [-sSeq_r, -sRet_r, -sDrop_r, -sSet_r, -sIf_r, -sPar_r, -sAsg_r, -sSetIx_r, -sFor_r, -gsCons_r, -gT_r, -e1_r, -e2_r, -tV_r, -tAndM_r, -tOrM_r, -tNotM_r, -eAnd_r, -eOr_r, -eNot_r, -eIf_r, -aCons_r, -eN_r, -fCall_r, -eCallK_r, -eM_r, -eSl_r, -oSome_r, -eIsN_r, -eLc_r, -iSeq_r, -iRng_r, e0, e1, ek, rng1_n (show k ≤ 1000000 by omega)]
    refine Wp_forL (fun i ρ μ' => ∃ a1 a2 a3 a4 a5 a6, ρ = [some (.d (.list (ns.map PyData.int))), a1, a2, a3, a4, a5, a6]) (i := 0) ⟨_, _, _, _, _, _, rfl⟩ (fun j b ρ μ' hb I => ?_) fun ρ' μ' I => ?_
    · obtain ⟨a1, a2, a3, a4, a5, a6, rfl⟩ := I
      obtain ⟨i, hi2, rfl⟩ := mem_rng hb
      simp -implicitDefEqProofs (disch := first | (with_reducible assumption) | ((with_reducible show List.length _ = _); rfl) | (simp only [allD_cons, allD_nil, Option.map_some, Option.isSome_some]; done) | (simp only [List.length_cons, List.length_nil, List.length_map]; done) | ((with_reducible refine cMod_of ?_); omega) | ((with_reducible refine cDiv_of ?_ ?_) <;> omega) | ((with_reducible refine okR_of ?_ ?_) <;> omega) | omega | (simp only [List.length_take, List.length_drop, List.length_append, List.length_cons, List.length_nil, List.length_map, List.length_range, List.length_replicate]; omega)) [-sSeq_r, -sRet_r, -sDrop_r, -sSet_r, -sIf_r, -sPar_r, -sAsg_r, -sSetIx_r, -sFor_r, -gsCons_r, -gT_r, -e1_r, -e2_r, -tV_r, -tAndM_r, -tOrM_r, -tNotM_r, -eAnd_r, -eOr_r, -eNot_r, -eIf_r, -aCons_r, -eN_r, -fCall_r, -eCallK_r, -eM_r, -eSl_r, -oSome_r, -eIsN_r, -eLc_r, -iSeq_r, -iRng_r, w2_law]
      refine w_box hn (by omega) hi fun n μ1 hn1 H1 => ?_
      have r4 := rng1_n (μ := μ1) (k := 4) (by decide)
      simp -implicitDefEqProofs (disch := first | (with_reducible assumption) | ((with_reducible show List.length _ = _); rfl) | (simp only [allD_cons, allD_nil, Option.map_some, Option.isSome_some]; done) | (simp only [List.length_cons, List.length_nil, List.length_map]; done) | ((with_reducible refine cMod_of ?_); omega) | ((with_reducible refine cDiv_of ?_ ?_) <;> omega) | ((with_reducible refine okR_of ?_ ?_) <;> omega) | omega | (simp only [List.length_take, List.length_drop, List.length_append, List.length_cons, List.length_nil, List.length_map, List.length_range, List.length_replicate]; omega)) [-sSeq_r, -sRet_r, -sDrop_r, -sSet_r, -sIf_r, -sPar_r, -sAsg_r, -sSetIx_r, -sFor_r, -gsCons_r, -gT_r, -e1_r, -e2_r, -tV_r, -tAndM_r, -tOrM_r, -tNotM_r, -eAnd_r, -eOr_r, -eNot_r, -eIf_r, -aCons_r, -eN_r, -fCall_r, -eCallK_r, -eM_r, -eSl_r, -oSome_r, -eIsN_r, -eLc_r, -iSeq_r, -iRng_r, r5_law]
      refine Wp_forL (bs := (List.range 4).map fun (i : Nat) => Dv.d (.int i)) (fun t ρ μ' => (∃ a3 a4 a5 a6, ρ = [some (.d (.list (ns.map PyData.int))), some (.d (.int i)), some (.c n), a3, a4, a5, a6]) ∧ Bx n (1 + 1100 * t) μ') (i := 0) ⟨⟨_, _, _, _, rfl⟩, H1⟩ (fun t b ρ μ2 hb2 I => ?_) fun ρ' μ2 I => ?_
      · obtain ⟨⟨b3, b4, b5, b6, rfl⟩, J⟩ := I
        obtain ⟨u, hu, rfl⟩ := mem_rng hb2
        have ht : t < 4 := by
          have := (List.getElem?_eq_some_iff.mp hb2).1
          simpa using this
        simp -implicitDefEqProofs (disch := first | (with_reducible assumption) | ((with_reducible show List.length _ = _); rfl) | (simp only [allD_cons, allD_nil, Option.map_some, Option.isSome_some]; done) | (simp only [List.length_cons, List.length_nil, List.length_map]; done) | ((with_reducible refine cMod_of ?_); omega) | ((with_reducible refine cDiv_of ?_ ?_) <;> omega) | ((with_reducible refine okR_of ?_ ?_) <;> omega) | omega | (simp only [List.length_take, List.length_drop, List.length_append, List.length_cons, List.length_nil, List.length_map, List.length_range, List.length_replicate]; omega)) [-sSeq_r, -sRet_r, -sDrop_r, -sSet_r, -sIf_r, -sPar_r, -sAsg_r, -sSetIx_r, -sFor_r, -gsCons_r, -gT_r, -e1_r, -e2_r, -tV_r, -tAndM_r, -tOrM_r, -tNotM_r, -eAnd_r, -eOr_r, -eNot_r, -eIf_r, -aCons_r, -eN_r, -fCall_r, -eCallK_r, -eM_r, -eSl_r, -oSome_r, -eIsN_r, -eLc_r, -iSeq_r, -iRng_r, ]
        refine w_turn J (by omega) fun a4 a5 a6 μ3 H3 => ?_
        exact ⟨⟨_, _, _, _, rfl⟩, H3.mono (by omega)⟩
      · obtain ⟨⟨b3, b4, b5, b6, rfl⟩, _⟩ := I
        exact ⟨_, _, _, _, _, _, rfl⟩
    · obtain ⟨a1, a2, a3, a4, a5, a6, rfl⟩ := I
      simp -implicitDefEqProofs (disch := first | (with_reducible assumption) | ((with_reducible show List.length _ = _); rfl) | (simp only [allD_cons, allD_nil, Option.map_some, Option.isSome_some]; done) | (simp only [List.length_cons, List.length_nil, List.length_map]; done) | ((with_reducible refine cMod_of ?_); omega) | ((with_reducible refine cDiv_of ?_ ?_) <;> omega) | ((with_reducible refine okR_of ?_ ?_) <;> omega) | omega | (simp only [List.length_take, List.length_drop, List.length_append, List.length_cons, List.length_nil, List.length_map, List.length_range, List.length_replicate]; omega)) [-sSeq_r, -sRet_r, -sDrop_r, -sSet_r, -sIf_r, -sPar_r, -sAsg_r, -sSetIx_r, -sFor_r, -gsCons_r, -gT_r, -e1_r, -e2_r, -tV_r, -tAndM_r, -tOrM_r, -tNotM_r, -eAnd_r, -eOr_r, -eNot_r, -eIf_r, -aCons_r, -eN_r, -fCall_r, -eCallK_r, -eM_r, -eSl_r, -oSome_r, -eIsN_r, -eLc_r, -iSeq_r, -iRng_r, r6_law]
  obtain ⟨b, μ', e, rfl⟩ := Wp_of w
  exact ⟨μ', e⟩
end LW

namespace LW
open PySem PySem.Spec PyProof.Rows L2 DL
/-! ### 4. What the top has written, the head -/
theorem all_mk {l : PySem.W.OpenLaw} {w : World} {K : PySem.W.Frag} {h : Heap} {mg : Str → Option Value} {fa : Addr} (X : K.In h) (G : h.Ns mainGlobals mg) (hfa : mg "law" = some (.ref fa))
    {f_l_box : Addr} {oc_l_box kV_l_box dc_l_box pm_l_box cd_l_box ct_l_box : Value} {od_l_box an_l_box : Option Addr} {sl_l_box : Array (Option Value)}
    {f_l_take : Addr} {oc_l_take kV_l_take dc_l_take pm_l_take cd_l_take ct_l_take : Value} {od_l_take an_l_take : Option Addr} {sl_l_take : Array (Option Value)}
    {f_l_pick : Addr} {oc_l_pick kV_l_pick dc_l_pick pm_l_pick cd_l_pick ct_l_pick : Value} {od_l_pick an_l_pick : Option Addr} {sl_l_pick : Array (Option Value)}
    {f_l_words : Addr} {oc_l_words kV_l_words dc_l_words pm_l_words cd_l_words ct_l_words : Value} {od_l_words an_l_words : Option Addr} {sl_l_words : Array (Option Value)}
    {f_l_shape : Addr} {oc_l_shape kV_l_shape dc_l_shape pm_l_shape cd_l_shape ct_l_shape : Value} {od_l_shape an_l_shape : Option Addr} {sl_l_shape : Array (Option Value)}
    {f_l_cells : Addr} {oc_l_cells kV_l_cells dc_l_cells pm_l_cells cd_l_cells ct_l_cells : Value} {od_l_cells an_l_cells : Option Addr} {sl_l_cells : Array (Option Value)}
    {f_l_spell : Addr} {oc_l_spell kV_l_spell dc_l_spell pm_l_spell cd_l_spell ct_l_spell : Value} {od_l_spell an_l_spell : Option Addr} {sl_l_spell : Array (Option Value)}
    {f_l_form : Addr} {oc_l_form kV_l_form dc_l_form pm_l_form cd_l_form ct_l_form : Value} {od_l_form an_l_form : Option Addr} {sl_l_form : Array (Option Value)}
    {f_l_worth : Addr} {oc_l_worth kV_l_worth dc_l_worth pm_l_worth cd_l_worth ct_l_worth : Value} {od_l_worth an_l_worth : Option Addr} {sl_l_worth : Array (Option Value)}
    {f_l_put : Addr} {oc_l_put kV_l_put dc_l_put pm_l_put cd_l_put ct_l_put : Value} {od_l_put an_l_put : Option Addr} {sl_l_put : Array (Option Value)}
    {f_l_wish : Addr} {oc_l_wish kV_l_wish dc_l_wish pm_l_wish cd_l_wish ct_l_wish : Value} {od_l_wish an_l_wish : Option Addr} {sl_l_wish : Array (Option Value)}
    {f_l_deed : Addr} {oc_l_deed kV_l_deed dc_l_deed pm_l_deed cd_l_deed ct_l_deed : Value} {od_l_deed an_l_deed : Option Addr} {sl_l_deed : Array (Option Value)}
    {f_l_touches : Addr} {oc_l_touches kV_l_touches dc_l_touches pm_l_touches cd_l_touches ct_l_touches : Value} {od_l_touches an_l_touches : Option Addr} {sl_l_touches : Array (Option Value)}
    {f_l_apart : Addr} {oc_l_apart kV_l_apart dc_l_apart pm_l_apart cd_l_apart ct_l_apart : Value} {od_l_apart an_l_apart : Option Addr} {sl_l_apart : Array (Option Value)}
    {f_l_behinds : Addr} {oc_l_behinds kV_l_behinds dc_l_behinds pm_l_behinds cd_l_behinds ct_l_behinds : Value} {od_l_behinds an_l_behinds : Option Addr} {sl_l_behinds : Array (Option Value)}
    {f_l_plan : Addr} {oc_l_plan kV_l_plan dc_l_plan pm_l_plan cd_l_plan ct_l_plan : Value} {od_l_plan an_l_plan : Option Addr} {sl_l_plan : Array (Option Value)}
    {f_l_more_step : Addr} {oc_l_more_step kV_l_more_step dc_l_more_step pm_l_more_step cd_l_more_step ct_l_more_step : Value} {od_l_more_step an_l_more_step : Option Addr} {sl_l_more_step : Array (Option Value)}
    {f_l_more_table : Addr} {oc_l_more_table kV_l_more_table dc_l_more_table pm_l_more_table cd_l_more_table ct_l_more_table : Value} {od_l_more_table an_l_more_table : Option Addr} {sl_l_more_table : Array (Option Value)}
    {f_l_more_source : Addr} {oc_l_more_source kV_l_more_source dc_l_more_source pm_l_more_source cd_l_more_source ct_l_more_source : Value} {od_l_more_source an_l_more_source : Option Addr} {sl_l_more_source : Array (Option Value)}
    {f_l_goes : Addr} {oc_l_goes kV_l_goes dc_l_goes pm_l_goes cd_l_goes ct_l_goes : Value} {od_l_goes an_l_goes : Option Addr} {sl_l_goes : Array (Option Value)}
    {f_goes_by_rows : Addr} {oc_goes_by_rows kV_goes_by_rows dc_goes_by_rows pm_goes_by_rows cd_goes_by_rows ct_goes_by_rows : Value} {od_goes_by_rows an_goes_by_rows : Option Addr} {sl_goes_by_rows : Array (Option Value)}
    {f_l_right : Addr} {oc_l_right kV_l_right dc_l_right pm_l_right cd_l_right ct_l_right : Value} {od_l_right an_l_right : Option Addr} {sl_l_right : Array (Option Value)}
    {f_law : Addr} {oc_law kV_law dc_law pm_law cd_law ct_law : Value} {od_law an_law : Option Addr} {sl_law : Array (Option Value)}
    {tk_FILL : Tok}
    {tk_OF : Tok}
    {ac_WIDE_STEPS : Addr} {dd_WIDE_STEPS : Option Addr} {its_WIDE_STEPS : Array Value} {nn_WIDE_STEPS : Nat} {sl_WIDE_STEPS : Array (Option Value)}
    (a_l_box : PySem.W.nsIn K mainGlobals "_law_box" = some (some (.ref f_l_box)))
    (l_l_box : K.lookup f_l_box = some ⟨oc_l_box, od_l_box, .func (PySem.W.fnOf "_law_box" "_law_box" (defArgs s_l_box) (defBody s_l_box) (defScope s_l_box) .none kV_l_box dc_l_box pm_l_box an_l_box cd_l_box ct_l_box), sl_l_box⟩)
    (c_l_box : PySem.W.codeIn K cd_l_box "_law_box" = true)
    (k_l_box : PySem.W.keepIn K (.ref f_l_box) = true)
    (a_l_take : PySem.W.nsIn K mainGlobals "_law_take" = some (some (.ref f_l_take)))
    (l_l_take : K.lookup f_l_take = some ⟨oc_l_take, od_l_take, .func (PySem.W.fnOf "_law_take" "_law_take" (defArgs s_l_take) (defBody s_l_take) (defScope s_l_take) .none kV_l_take dc_l_take pm_l_take an_l_take cd_l_take ct_l_take), sl_l_take⟩)
    (c_l_take : PySem.W.codeIn K cd_l_take "_law_take" = true)
    (k_l_take : PySem.W.keepIn K (.ref f_l_take) = true)
    (a_l_pick : PySem.W.nsIn K mainGlobals "_law_pick" = some (some (.ref f_l_pick)))
    (l_l_pick : K.lookup f_l_pick = some ⟨oc_l_pick, od_l_pick, .func (PySem.W.fnOf "_law_pick" "_law_pick" (defArgs s_l_pick) (defBody s_l_pick) (defScope s_l_pick) .none kV_l_pick dc_l_pick pm_l_pick an_l_pick cd_l_pick ct_l_pick), sl_l_pick⟩)
    (c_l_pick : PySem.W.codeIn K cd_l_pick "_law_pick" = true)
    (k_l_pick : PySem.W.keepIn K (.ref f_l_pick) = true)
    (a_l_words : PySem.W.nsIn K mainGlobals "_law_words" = some (some (.ref f_l_words)))
    (l_l_words : K.lookup f_l_words = some ⟨oc_l_words, od_l_words, .func (PySem.W.fnOf "_law_words" "_law_words" (defArgs s_l_words) (defBody s_l_words) (defScope s_l_words) .none kV_l_words dc_l_words pm_l_words an_l_words cd_l_words ct_l_words), sl_l_words⟩)
    (c_l_words : PySem.W.codeIn K cd_l_words "_law_words" = true)
    (k_l_words : PySem.W.keepIn K (.ref f_l_words) = true)
    (a_l_shape : PySem.W.nsIn K mainGlobals "_law_shape" = some (some (.ref f_l_shape)))
    (l_l_shape : K.lookup f_l_shape = some ⟨oc_l_shape, od_l_shape, .func (PySem.W.fnOf "_law_shape" "_law_shape" (defArgs s_l_shape) (defBody s_l_shape) (defScope s_l_shape) .none kV_l_shape dc_l_shape pm_l_shape an_l_shape cd_l_shape ct_l_shape), sl_l_shape⟩)
    (c_l_shape : PySem.W.codeIn K cd_l_shape "_law_shape" = true)
    (k_l_shape : PySem.W.keepIn K (.ref f_l_shape) = true)
    (a_l_cells : PySem.W.nsIn K mainGlobals "_law_cells" = some (some (.ref f_l_cells)))
    (l_l_cells : K.lookup f_l_cells = some ⟨oc_l_cells, od_l_cells, .func (PySem.W.fnOf "_law_cells" "_law_cells" (defArgs s_l_cells) (defBody s_l_cells) (defScope s_l_cells) .none kV_l_cells dc_l_cells pm_l_cells an_l_cells cd_l_cells ct_l_cells), sl_l_cells⟩)
    (c_l_cells : PySem.W.codeIn K cd_l_cells "_law_cells" = true)
    (k_l_cells : PySem.W.keepIn K (.ref f_l_cells) = true)
    (a_l_spell : PySem.W.nsIn K mainGlobals "_law_spell" = some (some (.ref f_l_spell)))
    (l_l_spell : K.lookup f_l_spell = some ⟨oc_l_spell, od_l_spell, .func (PySem.W.fnOf "_law_spell" "_law_spell" (defArgs s_l_spell) (defBody s_l_spell) (defScope s_l_spell) .none kV_l_spell dc_l_spell pm_l_spell an_l_spell cd_l_spell ct_l_spell), sl_l_spell⟩)
    (c_l_spell : PySem.W.codeIn K cd_l_spell "_law_spell" = true)
    (k_l_spell : PySem.W.keepIn K (.ref f_l_spell) = true)
    (a_l_form : PySem.W.nsIn K mainGlobals "_law_form" = some (some (.ref f_l_form)))
    (l_l_form : K.lookup f_l_form = some ⟨oc_l_form, od_l_form, .func (PySem.W.fnOf "_law_form" "_law_form" (defArgs s_l_form) (defBody s_l_form) (defScope s_l_form) .none kV_l_form dc_l_form pm_l_form an_l_form cd_l_form ct_l_form), sl_l_form⟩)
    (c_l_form : PySem.W.codeIn K cd_l_form "_law_form" = true)
    (k_l_form : PySem.W.keepIn K (.ref f_l_form) = true)
    (a_l_worth : PySem.W.nsIn K mainGlobals "_law_worth" = some (some (.ref f_l_worth)))
    (l_l_worth : K.lookup f_l_worth = some ⟨oc_l_worth, od_l_worth, .func (PySem.W.fnOf "_law_worth" "_law_worth" (defArgs s_l_worth) (defBody s_l_worth) (defScope s_l_worth) .none kV_l_worth dc_l_worth pm_l_worth an_l_worth cd_l_worth ct_l_worth), sl_l_worth⟩)
    (c_l_worth : PySem.W.codeIn K cd_l_worth "_law_worth" = true)
    (k_l_worth : PySem.W.keepIn K (.ref f_l_worth) = true)
    (a_l_put : PySem.W.nsIn K mainGlobals "_law_put" = some (some (.ref f_l_put)))
    (l_l_put : K.lookup f_l_put = some ⟨oc_l_put, od_l_put, .func (PySem.W.fnOf "_law_put" "_law_put" (defArgs s_l_put) (defBody s_l_put) (defScope s_l_put) .none kV_l_put dc_l_put pm_l_put an_l_put cd_l_put ct_l_put), sl_l_put⟩)
    (c_l_put : PySem.W.codeIn K cd_l_put "_law_put" = true)
    (k_l_put : PySem.W.keepIn K (.ref f_l_put) = true)
    (a_l_wish : PySem.W.nsIn K mainGlobals "_law_wish" = some (some (.ref f_l_wish)))
    (l_l_wish : K.lookup f_l_wish = some ⟨oc_l_wish, od_l_wish, .func (PySem.W.fnOf "_law_wish" "_law_wish" (defArgs s_l_wish) (defBody s_l_wish) (defScope s_l_wish) .none kV_l_wish dc_l_wish pm_l_wish an_l_wish cd_l_wish ct_l_wish), sl_l_wish⟩)
    (c_l_wish : PySem.W.codeIn K cd_l_wish "_law_wish" = true)
    (k_l_wish : PySem.W.keepIn K (.ref f_l_wish) = true)
    (a_l_deed : PySem.W.nsIn K mainGlobals "_law_deed" = some (some (.ref f_l_deed)))
    (l_l_deed : K.lookup f_l_deed = some ⟨oc_l_deed, od_l_deed, .func (PySem.W.fnOf "_law_deed" "_law_deed" (defArgs s_l_deed) (defBody s_l_deed) (defScope s_l_deed) .none kV_l_deed dc_l_deed pm_l_deed an_l_deed cd_l_deed ct_l_deed), sl_l_deed⟩)
    (c_l_deed : PySem.W.codeIn K cd_l_deed "_law_deed" = true)
    (k_l_deed : PySem.W.keepIn K (.ref f_l_deed) = true)
    (a_l_touches : PySem.W.nsIn K mainGlobals "_law_touches" = some (some (.ref f_l_touches)))
    (l_l_touches : K.lookup f_l_touches = some ⟨oc_l_touches, od_l_touches, .func (PySem.W.fnOf "_law_touches" "_law_touches" (defArgs s_l_touches) (defBody s_l_touches) (defScope s_l_touches) .none kV_l_touches dc_l_touches pm_l_touches an_l_touches cd_l_touches ct_l_touches), sl_l_touches⟩)
    (c_l_touches : PySem.W.codeIn K cd_l_touches "_law_touches" = true)
    (k_l_touches : PySem.W.keepIn K (.ref f_l_touches) = true)
    (a_l_apart : PySem.W.nsIn K mainGlobals "_law_apart" = some (some (.ref f_l_apart)))
    (l_l_apart : K.lookup f_l_apart = some ⟨oc_l_apart, od_l_apart, .func (PySem.W.fnOf "_law_apart" "_law_apart" (defArgs s_l_apart) (defBody s_l_apart) (defScope s_l_apart) .none kV_l_apart dc_l_apart pm_l_apart an_l_apart cd_l_apart ct_l_apart), sl_l_apart⟩)
    (c_l_apart : PySem.W.codeIn K cd_l_apart "_law_apart" = true)
    (k_l_apart : PySem.W.keepIn K (.ref f_l_apart) = true)
    (a_l_behinds : PySem.W.nsIn K mainGlobals "_law_behinds" = some (some (.ref f_l_behinds)))
    (l_l_behinds : K.lookup f_l_behinds = some ⟨oc_l_behinds, od_l_behinds, .func (PySem.W.fnOf "_law_behinds" "_law_behinds" (defArgs s_l_behinds) (defBody s_l_behinds) (defScope s_l_behinds) .none kV_l_behinds dc_l_behinds pm_l_behinds an_l_behinds cd_l_behinds ct_l_behinds), sl_l_behinds⟩)
    (c_l_behinds : PySem.W.codeIn K cd_l_behinds "_law_behinds" = true)
    (k_l_behinds : PySem.W.keepIn K (.ref f_l_behinds) = true)
    (a_l_plan : PySem.W.nsIn K mainGlobals "_law_plan" = some (some (.ref f_l_plan)))
    (l_l_plan : K.lookup f_l_plan = some ⟨oc_l_plan, od_l_plan, .func (PySem.W.fnOf "_law_plan" "_law_plan" (defArgs s_l_plan) (defBody s_l_plan) (defScope s_l_plan) .none kV_l_plan dc_l_plan pm_l_plan an_l_plan cd_l_plan ct_l_plan), sl_l_plan⟩)
    (c_l_plan : PySem.W.codeIn K cd_l_plan "_law_plan" = true)
    (k_l_plan : PySem.W.keepIn K (.ref f_l_plan) = true)
    (a_l_more_step : PySem.W.nsIn K mainGlobals "_law_more_step" = some (some (.ref f_l_more_step)))
    (l_l_more_step : K.lookup f_l_more_step = some ⟨oc_l_more_step, od_l_more_step, .func (PySem.W.fnOf "_law_more_step" "_law_more_step" (defArgs s_l_more_step) (defBody s_l_more_step) (defScope s_l_more_step) .none kV_l_more_step dc_l_more_step pm_l_more_step an_l_more_step cd_l_more_step ct_l_more_step), sl_l_more_step⟩)
    (c_l_more_step : PySem.W.codeIn K cd_l_more_step "_law_more_step" = true)
    (k_l_more_step : PySem.W.keepIn K (.ref f_l_more_step) = true)
    (a_l_more_table : PySem.W.nsIn K mainGlobals "_law_more_table" = some (some (.ref f_l_more_table)))
    (l_l_more_table : K.lookup f_l_more_table = some ⟨oc_l_more_table, od_l_more_table, .func (PySem.W.fnOf "_law_more_table" "_law_more_table" (defArgs s_l_more_table) (defBody s_l_more_table) (defScope s_l_more_table) .none kV_l_more_table dc_l_more_table pm_l_more_table an_l_more_table cd_l_more_table ct_l_more_table), sl_l_more_table⟩)
    (c_l_more_table : PySem.W.codeIn K cd_l_more_table "_law_more_table" = true)
    (k_l_more_table : PySem.W.keepIn K (.ref f_l_more_table) = true)
    (a_l_more_source : PySem.W.nsIn K mainGlobals "_law_more_source" = some (some (.ref f_l_more_source)))
    (l_l_more_source : K.lookup f_l_more_source = some ⟨oc_l_more_source, od_l_more_source, .func (PySem.W.fnOf "_law_more_source" "_law_more_source" (defArgs s_l_more_source) (defBody s_l_more_source) (defScope s_l_more_source) .none kV_l_more_source dc_l_more_source pm_l_more_source an_l_more_source cd_l_more_source ct_l_more_source), sl_l_more_source⟩)
    (c_l_more_source : PySem.W.codeIn K cd_l_more_source "_law_more_source" = true)
    (k_l_more_source : PySem.W.keepIn K (.ref f_l_more_source) = true)
    (a_l_goes : PySem.W.nsIn K mainGlobals "_law_goes" = some (some (.ref f_l_goes)))
    (l_l_goes : K.lookup f_l_goes = some ⟨oc_l_goes, od_l_goes, .func (PySem.W.fnOf "_law_goes" "_law_goes" (defArgs s_l_goes) (defBody s_l_goes) (defScope s_l_goes) .none kV_l_goes dc_l_goes pm_l_goes an_l_goes cd_l_goes ct_l_goes), sl_l_goes⟩)
    (c_l_goes : PySem.W.codeIn K cd_l_goes "_law_goes" = true)
    (k_l_goes : PySem.W.keepIn K (.ref f_l_goes) = true)
    (a_goes_by_rows : PySem.W.nsIn K mainGlobals "goes_by_rows" = some (some (.ref f_goes_by_rows)))
    (l_goes_by_rows : K.lookup f_goes_by_rows = some ⟨oc_goes_by_rows, od_goes_by_rows, .func (PySem.W.fnOf "goes_by_rows" "goes_by_rows" (defArgs s_goes_by_rows) (defBody s_goes_by_rows) (defScope s_goes_by_rows) .none kV_goes_by_rows dc_goes_by_rows pm_goes_by_rows an_goes_by_rows cd_goes_by_rows ct_goes_by_rows), sl_goes_by_rows⟩)
    (c_goes_by_rows : PySem.W.codeIn K cd_goes_by_rows "goes_by_rows" = true)
    (k_goes_by_rows : PySem.W.keepIn K (.ref f_goes_by_rows) = true)
    (a_l_right : PySem.W.nsIn K mainGlobals "_law_right" = some (some (.ref f_l_right)))
    (l_l_right : K.lookup f_l_right = some ⟨oc_l_right, od_l_right, .func (PySem.W.fnOf "_law_right" "_law_right" (defArgs s_l_right) (defBody s_l_right) (defScope s_l_right) .none kV_l_right dc_l_right pm_l_right an_l_right cd_l_right ct_l_right), sl_l_right⟩)
    (c_l_right : PySem.W.codeIn K cd_l_right "_law_right" = true)
    (k_l_right : PySem.W.keepIn K (.ref f_l_right) = true)
    (a_law : PySem.W.nsIn K mainGlobals "law" = some (some (.ref f_law)))
    (l_law : K.lookup f_law = some ⟨oc_law, od_law, .func (PySem.W.fnOf "law" "law" (defArgs s_law) (defBody s_law) (defScope s_law) .none kV_law dc_law pm_law an_law cd_law ct_law), sl_law⟩)
    (c_law : PySem.W.codeIn K cd_law "law" = true)
    (k_law : PySem.W.keepIn K (.ref f_law) = true)
    (zb_abs : PySem.W.nsIn K mainGlobals "abs" = some none)
    (zb_all : PySem.W.nsIn K mainGlobals "all" = some none)
    (zb_any : PySem.W.nsIn K mainGlobals "any" = some none)
    (zb_enumerate : PySem.W.nsIn K mainGlobals "enumerate" = some none)
    (zb_int : PySem.W.nsIn K mainGlobals "int" = some none)
    (zb_len : PySem.W.nsIn K mainGlobals "len" = some none)
    (zb_list : PySem.W.nsIn K mainGlobals "list" = some none)
    (zb_range : PySem.W.nsIn K mainGlobals "range" = some none)
    (zb_repr : PySem.W.nsIn K mainGlobals "repr" = some none)
    (zb_set : PySem.W.nsIn K mainGlobals "set" = some none)
    (zb_sorted : PySem.W.nsIn K mainGlobals "sorted" = some none)
    (zb_tuple : PySem.W.nsIn K mainGlobals "tuple" = some none)
    (zc_FILL : PySem.W.nsIn K mainGlobals "FILL" = some (some (.str "fill" tk_FILL)))
    (zc_OF : PySem.W.nsIn K mainGlobals "OF" = some (some (.str "of" tk_OF)))
    (zc_WIDE_STEPS : PySem.W.nsIn K mainGlobals "WIDE_STEPS" = some (some (.ref ac_WIDE_STEPS)))
    (lc_WIDE_STEPS : K.lookup ac_WIDE_STEPS = some ⟨.type "tuple", dd_WIDE_STEPS, .seq its_WIDE_STEPS nn_WIDE_STEPS, sl_WIDE_STEPS⟩)
    (vc_WIDE_STEPS : its_WIDE_STEPS.size ≤ sizeLine ∧ Vals [.str "unlike", .str "look"] its_WIDE_STEPS.toList)
    (law_right : ∀ ns : List Int, ns.length ≤ 63 → (∀ i ∈ ns, Builtin.Int.intBits i ≤ 1048576) → ∃ μ', F_law [.d (.list (ns.map PyData.int))] [] = .ok (.d (.bool true)) μ') :
    ∃ (fd : FuncData) (G : GT) (F : OpN), G.K = K ∧ (∀ (s : Shared) (u : Value), BindsTo s fd ⟨[u], []⟩ [("_law_script", u)]) ∧ (∀ base : Heap, K.In base → base.Ns mainGlobals mg → FnG l.prog w K mg base 7 fa fd ["_law_script"] (spD G 1 F)) ∧
      ∀ ns : List Int, ns.length ≤ 63 → (∀ i ∈ ns, Builtin.Int.intBits i ≤ 1048576) → ∃ μ', F [.d (.list (ns.map PyData.int))] [] = .ok (.d (.bool true)) μ' := by
  have e := hfa.symm.trans (PySem.W.mg_of X G a_law)
  cases e
  have T : Tx K mg := ⟨PySem.W.mg_none_of X G zb_abs, PySem.W.mg_none_of X G zb_all, PySem.W.mg_none_of X G zb_any, PySem.W.mg_none_of X G zb_enumerate, PySem.W.mg_none_of X G zb_int, PySem.W.mg_none_of X G zb_len, PySem.W.mg_none_of X G zb_list, PySem.W.mg_none_of X G zb_range, PySem.W.mg_none_of X G zb_repr, PySem.W.mg_none_of X G zb_set, PySem.W.mg_none_of X G zb_sorted, PySem.W.mg_none_of X G zb_tuple, ⟨_, PySem.W.mg_of X G zc_FILL⟩, ⟨_, PySem.W.mg_of X G zc_OF⟩, ⟨_, PySem.W.mg_of X G zc_WIDE_STEPS, fun I => .tup (.inr ⟨_, _, _, lc_WIDE_STEPS, rfl, rfl, vc_WIDE_STEPS.1, vc_WIDE_STEPS.2⟩) (.cons (.str _) (.cons (.str _) (.nil)))⟩⟩
  have F_l_box := fun_mk (st := s_l_box) l_l_box c_l_box k_l_box
  have F_l_take := fun_mk (st := s_l_take) l_l_take c_l_take k_l_take
  have F_l_pick := fun_mk (st := s_l_pick) l_l_pick c_l_pick k_l_pick
  have F_l_words := fun_mk (st := s_l_words) l_l_words c_l_words k_l_words
  have F_l_shape := fun_mk (st := s_l_shape) l_l_shape c_l_shape k_l_shape
  have F_l_cells := fun_mk (st := s_l_cells) l_l_cells c_l_cells k_l_cells
  have F_l_spell := fun_mk (st := s_l_spell) l_l_spell c_l_spell k_l_spell
  have F_l_form := fun_mk (st := s_l_form) l_l_form c_l_form k_l_form
  have F_l_worth := fun_mk (st := s_l_worth) l_l_worth c_l_worth k_l_worth
  have F_l_put := fun_mk (st := s_l_put) l_l_put c_l_put k_l_put
  have F_l_wish := fun_mk (st := s_l_wish) l_l_wish c_l_wish k_l_wish
  have F_l_deed := fun_mk (st := s_l_deed) l_l_deed c_l_deed k_l_deed
  have F_l_touches := fun_mk (st := s_l_touches) l_l_touches c_l_touches k_l_touches
  have F_l_apart := fun_mk (st := s_l_apart) l_l_apart c_l_apart k_l_apart
  have F_l_behinds := fun_mk (st := s_l_behinds) l_l_behinds c_l_behinds k_l_behinds
  have F_l_plan := fun_mk (st := s_l_plan) l_l_plan c_l_plan k_l_plan
  have F_l_more_step := fun_mk (st := s_l_more_step) l_l_more_step c_l_more_step k_l_more_step
  have F_l_more_table := fun_mk (st := s_l_more_table) l_l_more_table c_l_more_table k_l_more_table
  have F_l_more_source := fun_mk (st := s_l_more_source) l_l_more_source c_l_more_source k_l_more_source
  have F_l_goes := fun_mk (st := s_l_goes) l_l_goes c_l_goes k_l_goes
  have F_goes_by_rows := fun_mk (st := s_goes_by_rows) l_goes_by_rows c_goes_by_rows k_goes_by_rows
  have F_l_right := fun_mk (st := s_l_right) l_l_right c_l_right k_l_right
  have F_law := fun_mk (st := s_law) l_law c_law k_law
  refine ⟨PySem.W.fnOf "law" "law" (defArgs s_law) (defBody s_law) (defScope s_law) .none kV_law dc_law pm_law an_law cd_law ct_law, GG K, LW.F_law, rfl, fun s v => .of_eq rfl, fun base _ _ => ?_, law_right⟩
  have C_l_box : Cal l.prog w (GG K) mg base "_law_box" 1 ["_law_script", "_law_k"] [] LW.F_l_box := ⟨f_l_box, _, ok_l_box F_l_box T, PySem.W.mg_of X G a_l_box, k_l_box, F_l_box.binds (ps := ["_law_script", "_law_k"]) fun _ _ _ _ _ _ us hl => match us, hl with | [_, _], _ => rfl, fun q hq => by cases hq⟩
  have C_l_take : Cal l.prog w (GG K) mg base "_law_take" 1 ["_law_box_here", "_law_many"] [] LW.F_l_take := ⟨f_l_take, _, ok_l_take F_l_take T, PySem.W.mg_of X G a_l_take, k_l_take, F_l_take.binds (ps := ["_law_box_here", "_law_many"]) fun _ _ _ _ _ _ us hl => match us, hl with | [_, _], _ => rfl, fun q hq => by cases hq⟩
  have C_l_pick : Cal l.prog w (GG K) mg base "_law_pick" 2 ["_law_box_here", "_law_some"] [] LW.F_l_pick := ⟨f_l_pick, _, ok_l_pick F_l_pick T C_l_take, PySem.W.mg_of X G a_l_pick, k_l_pick, F_l_pick.binds (ps := ["_law_box_here", "_law_some"]) fun _ _ _ _ _ _ us hl => match us, hl with | [_, _], _ => rfl, fun q hq => by cases hq⟩
  have C_l_words : Cal l.prog w (GG K) mg base "_law_words" 3 ["_law_box_here", "_law_many"] [] LW.F_l_words := ⟨f_l_words, _, ok_l_words F_l_words T C_l_pick C_l_take, PySem.W.mg_of X G a_l_words, k_l_words, F_l_words.binds (ps := ["_law_box_here", "_law_many"]) fun _ _ _ _ _ _ us hl => match us, hl with | [_, _], _ => rfl, fun q hq => by cases hq⟩
  have C_l_shape : Cal l.prog w (GG K) mg base "_law_shape" 3 ["_law_box_here", "_law_names"] [] LW.F_l_shape := ⟨f_l_shape, _, ok_l_shape F_l_shape T C_l_take C_l_pick, PySem.W.mg_of X G a_l_shape, k_l_shape, F_l_shape.binds (ps := ["_law_box_here", "_law_names"]) fun _ _ _ _ _ _ us hl => match us, hl with | [_, _], _ => rfl, fun q hq => by cases hq⟩
  have C_l_cells : Cal l.prog w (GG K) mg base "_law_cells" 1 [] [] LW.F_l_cells := ⟨f_l_cells, _, ok_l_cells F_l_cells T, PySem.W.mg_of X G a_l_cells, k_l_cells, F_l_cells.binds (ps := []) fun _ _ _ _ _ _ us hl => match us, hl with | [], _ => rfl, fun q hq => by cases hq⟩
  have C_l_spell : Cal l.prog w (GG K) mg base "_law_spell" 3 ["_law_box_here", "_law_column"] [] LW.F_l_spell := ⟨f_l_spell, _, ok_l_spell F_l_spell T C_l_take C_l_pick C_l_cells, PySem.W.mg_of X G a_l_spell, k_l_spell, F_l_spell.binds (ps := ["_law_box_here", "_law_column"]) fun _ _ _ _ _ _ us hl => match us, hl with | [_, _], _ => rfl, fun q hq => by cases hq⟩
  have C_l_form : Cal l.prog w (GG K) mg base "_law_form" 2 ["_law_box_here"] [] LW.F_l_form := ⟨f_l_form, _, ok_l_form F_l_form T C_l_take, PySem.W.mg_of X G a_l_form, k_l_form, F_l_form.binds (ps := ["_law_box_here"]) fun _ _ _ _ _ _ us hl => match us, hl with | [_], _ => rfl, fun q hq => by cases hq⟩
  have C_l_worth : Cal l.prog w (GG K) mg base "_law_worth" 3 ["_law_box_here", "_law_kind"] [] LW.F_l_worth := ⟨f_l_worth, _, ok_l_worth F_l_worth T C_l_pick C_l_cells C_l_take, PySem.W.mg_of X G a_l_worth, k_l_worth, F_l_worth.binds (ps := ["_law_box_here", "_law_kind"]) fun _ _ _ _ _ _ us hl => match us, hl with | [_, _], _ => rfl, fun q hq => by cases hq⟩
  have C_l_put : Cal l.prog w (GG K) mg base "_law_put" 4 ["_law_box_here", "_law_known"] [] LW.F_l_put := ⟨f_l_put, _, ok_l_put F_l_put T C_l_pick C_l_worth, PySem.W.mg_of X G a_l_put, k_l_put, F_l_put.binds (ps := ["_law_box_here", "_law_known"]) fun _ _ _ _ _ _ us hl => match us, hl with | [_, _], _ => rfl, fun q hq => by cases hq⟩
  have C_l_wish : Cal l.prog w (GG K) mg base "_law_wish" 4 ["_law_box_here", "_law_lot", "_law_known"] [] LW.F_l_wish := ⟨f_l_wish, _, ok_l_wish F_l_wish T C_l_pick C_l_worth C_l_take, PySem.W.mg_of X G a_l_wish, k_l_wish, F_l_wish.binds (ps := ["_law_box_here", "_law_lot", "_law_known"]) fun _ _ _ _ _ _ us hl => match us, hl with | [_, _, _], _ => rfl, fun q hq => by cases hq⟩
  have C_l_deed : Cal l.prog w (GG K) mg base "_law_deed" 5 ["_law_box_here", "_law_names", "_law_known"] [] LW.F_l_deed := ⟨f_l_deed, _, ok_l_deed F_l_deed T C_l_take C_l_pick C_l_spell C_l_form C_l_put C_l_wish, PySem.W.mg_of X G a_l_deed, k_l_deed, F_l_deed.binds (ps := ["_law_box_here", "_law_names", "_law_known"]) fun _ _ _ _ _ _ us hl => match us, hl with | [_, _, _], _ => rfl, fun q hq => by cases hq⟩
  have C_l_touches : Cal l.prog w (GG K) mg base "_law_touches" 1 ["_law_step"] [] LW.F_l_touches := ⟨f_l_touches, _, ok_l_touches F_l_touches T, PySem.W.mg_of X G a_l_touches, k_l_touches, F_l_touches.binds (ps := ["_law_step"]) fun _ _ _ _ _ _ us hl => match us, hl with | [_], _ => rfl, fun q hq => by cases hq⟩
  have C_l_apart : Cal l.prog w (GG K) mg base "_law_apart" 2 ["_law_step", "_law_later"] [] LW.F_l_apart := ⟨f_l_apart, _, ok_l_apart F_l_apart T C_l_touches, PySem.W.mg_of X G a_l_apart, k_l_apart, F_l_apart.binds (ps := ["_law_step", "_law_later"]) fun _ _ _ _ _ _ us hl => match us, hl with | [_, _], _ => rfl, fun q hq => by cases hq⟩
  have C_l_behinds : Cal l.prog w (GG K) mg base "_law_behinds" 3 ["_law_steps"] [] LW.F_l_behinds := ⟨f_l_behinds, _, ok_l_behinds F_l_behinds T C_l_apart, PySem.W.mg_of X G a_l_behinds, k_l_behinds, F_l_behinds.binds (ps := ["_law_steps"]) fun _ _ _ _ _ _ us hl => match us, hl with | [_], _ => rfl, fun q hq => by cases hq⟩
  have C_l_plan : Cal l.prog w (GG K) mg base "_law_plan" 6 ["_law_box_here", "_law_most"] [] LW.F_l_plan := ⟨f_l_plan, _, ok_l_plan F_l_plan T C_l_words C_l_take C_l_shape C_l_deed C_l_behinds, PySem.W.mg_of X G a_l_plan, k_l_plan, F_l_plan.binds (ps := ["_law_box_here", "_law_most"]) fun _ _ _ _ _ _ us hl => match us, hl with | [_, _], _ => rfl, fun q hq => by cases hq⟩
  have C_l_more_step : Cal l.prog w (GG K) mg base "_law_more_step" 3 ["_law_box_here", "_law_plan_here"] [] LW.F_l_more_step := ⟨f_l_more_step, _, ok_l_more_step F_l_more_step T C_l_take C_l_pick, PySem.W.mg_of X G a_l_more_step, k_l_more_step, F_l_more_step.binds (ps := ["_law_box_here", "_law_plan_here"]) fun _ _ _ _ _ _ us hl => match us, hl with | [_, _], _ => rfl, fun q hq => by cases hq⟩
  have C_l_more_table : Cal l.prog w (GG K) mg base "_law_more_table" 3 ["_law_box_here", "_law_plan_here"] [] LW.F_l_more_table := ⟨f_l_more_table, _, ok_l_more_table F_l_more_table T C_l_pick, PySem.W.mg_of X G a_l_more_table, k_l_more_table, F_l_more_table.binds (ps := ["_law_box_here", "_law_plan_here"]) fun _ _ _ _ _ _ us hl => match us, hl with | [_, _], _ => rfl, fun q hq => by cases hq⟩
  have C_l_more_source : Cal l.prog w (GG K) mg base "_law_more_source" 4 ["_law_box_here", "_law_plan_here"] [] LW.F_l_more_source := ⟨f_l_more_source, _, ok_l_more_source F_l_more_source T C_l_shape C_l_take, PySem.W.mg_of X G a_l_more_source, k_l_more_source, F_l_more_source.binds (ps := ["_law_box_here", "_law_plan_here"]) fun _ _ _ _ _ _ us hl => match us, hl with | [_, _], _ => rfl, fun q hq => by cases hq⟩
  have C_l_goes : Cal l.prog w (GG K) mg base "_law_goes" 1 ["_law_plan_here"] [] LW.F_l_goes := ⟨f_l_goes, _, ok_l_goes F_l_goes T, PySem.W.mg_of X G a_l_goes, k_l_goes, F_l_goes.binds (ps := ["_law_plan_here"]) fun _ _ _ _ _ _ us hl => match us, hl with | [_], _ => rfl, fun q hq => by cases hq⟩
  have C_goes_by_rows : Cal l.prog w (GG K) mg base "goes_by_rows" 1 ["program"] [(["program"], [0])] LW.F_goes_by_rows := ⟨f_goes_by_rows, _, ok_goes_by_rows F_goes_by_rows T, PySem.W.mg_of X G a_goes_by_rows, k_goes_by_rows, F_goes_by_rows.binds (ps := ["program"]) fun _ _ _ _ _ _ us hl => match us, hl with | [_], _ => rfl, fun q hq => by
      simp only [List.mem_cons, List.not_mem_nil, or_false] at hq
      rcases hq with rfl
      · intro s ws hl
        match ws, hl with
        | [_], _ => exact .of_eq rfl
⟩
  have C_l_right : Cal l.prog w (GG K) mg base "_law_right" 2 ["_law_plan_here"] [] LW.F_l_right := ⟨f_l_right, _, ok_l_right F_l_right T C_l_goes C_goes_by_rows, PySem.W.mg_of X G a_l_right, k_l_right, F_l_right.binds (ps := ["_law_plan_here"]) fun _ _ _ _ _ _ us hl => match us, hl with | [_], _ => rfl, fun q hq => by cases hq⟩
  exact ok_law F_law T C_l_box C_l_plan C_l_more_step C_l_more_table C_l_more_source C_l_right
end LW

open PySem PySem.W PyProof.Rows in
set_option maxRecDepth 100000 in
set_option maxHeartbeats 0 in
theorem PySem.Challenge.cw_cleanedtables_k86_programs_row_by_row_holds : PySem.Challenge.rw_cleanedtables_k86_programs_row_by_row.Holds := by
  w_on; o_law; k_head; (case hw => w_witness2)
  k_fill
  refine DL.walkG (l := PySem.Challenge.rw_cleanedtables_k86_programs_row_by_row) (n := 63) (k := 7) (x := "_law_script") rfl (by decide) rfl ⟨rfl, by decide, by decide⟩ (fun w h Y => PySem.W.kIn_of Y) ?F
  case F =>
    intro w mg fa h KX G hmg
    refine' LW.all_mk KX G hmg ?a_l_box ?l_l_box ?c_l_box ?k_l_box ?a_l_take ?l_l_take ?c_l_take ?k_l_take ?a_l_pick ?l_l_pick ?c_l_pick ?k_l_pick ?a_l_words ?l_l_words ?c_l_words ?k_l_words ?a_l_shape ?l_l_shape ?c_l_shape ?k_l_shape ?a_l_cells ?l_l_cells ?c_l_cells ?k_l_cells ?a_l_spell ?l_l_spell ?c_l_spell ?k_l_spell ?a_l_form ?l_l_form ?c_l_form ?k_l_form ?a_l_worth ?l_l_worth ?c_l_worth ?k_l_worth ?a_l_put ?l_l_put ?c_l_put ?k_l_put ?a_l_wish ?l_l_wish ?c_l_wish ?k_l_wish ?a_l_deed ?l_l_deed ?c_l_deed ?k_l_deed ?a_l_touches ?l_l_touches ?c_l_touches ?k_l_touches ?a_l_apart ?l_l_apart ?c_l_apart ?k_l_apart ?a_l_behinds ?l_l_behinds ?c_l_behinds ?k_l_behinds ?a_l_plan ?l_l_plan ?c_l_plan ?k_l_plan ?a_l_more_step ?l_l_more_step ?c_l_more_step ?k_l_more_step ?a_l_more_table ?l_l_more_table ?c_l_more_table ?k_l_more_table ?a_l_more_source ?l_l_more_source ?c_l_more_source ?k_l_more_source ?a_l_goes ?l_l_goes ?c_l_goes ?k_l_goes ?a_goes_by_rows ?l_goes_by_rows ?c_goes_by_rows ?k_goes_by_rows ?a_l_right ?l_l_right ?c_l_right ?k_l_right ?a_law ?l_law ?c_law ?k_law ?zb_abs ?zb_all ?zb_any ?zb_enumerate ?zb_int ?zb_len ?zb_list ?zb_range ?zb_repr ?zb_set ?zb_sorted ?zb_tuple ?zc_FILL ?zc_OF ?zc_WIDE_STEPS ?lc_WIDE_STEPS ?vc_WIDE_STEPS LW.law_right
    (case a_l_box => k_is)
    (case l_l_box => k_is)
    (case c_l_box => k_is)
    (case k_l_box => k_is)
    (case a_l_take => k_is)
    (case l_l_take => k_is)
    (case c_l_take => k_is)
    (case k_l_take => k_is)
    (case a_l_pick => k_is)
    (case l_l_pick => k_is)
    (case c_l_pick => k_is)
    (case k_l_pick => k_is)
    (case a_l_words => k_is)
    (case l_l_words => k_is)
    (case c_l_words => k_is)
    (case k_l_words => k_is)
    (case a_l_shape => k_is)
    (case l_l_shape => k_is)
    (case c_l_shape => k_is)
    (case k_l_shape => k_is)
    (case a_l_cells => k_is)
    (case l_l_cells => k_is)
    (case c_l_cells => k_is)
    (case k_l_cells => k_is)
    (case a_l_spell => k_is)
    (case l_l_spell => k_is)
    (case c_l_spell => k_is)
    (case k_l_spell => k_is)
    (case a_l_form => k_is)
    (case l_l_form => k_is)
    (case c_l_form => k_is)
    (case k_l_form => k_is)
    (case a_l_worth => k_is)
    (case l_l_worth => k_is)
    (case c_l_worth => k_is)
    (case k_l_worth => k_is)
    (case a_l_put => k_is)
    (case l_l_put => k_is)
    (case c_l_put => k_is)
    (case k_l_put => k_is)
    (case a_l_wish => k_is)
    (case l_l_wish => k_is)
    (case c_l_wish => k_is)
    (case k_l_wish => k_is)
    (case a_l_deed => k_is)
    (case l_l_deed => k_is)
    (case c_l_deed => k_is)
    (case k_l_deed => k_is)
    (case a_l_touches => k_is)
    (case l_l_touches => k_is)
    (case c_l_touches => k_is)
    (case k_l_touches => k_is)
    (case a_l_apart => k_is)
    (case l_l_apart => k_is)
    (case c_l_apart => k_is)
    (case k_l_apart => k_is)
    (case a_l_behinds => k_is)
    (case l_l_behinds => k_is)
    (case c_l_behinds => k_is)
    (case k_l_behinds => k_is)
    (case a_l_plan => k_is)
    (case l_l_plan => k_is)
    (case c_l_plan => k_is)
    (case k_l_plan => k_is)
    (case a_l_more_step => k_is)
    (case l_l_more_step => k_is)
    (case c_l_more_step => k_is)
    (case k_l_more_step => k_is)
    (case a_l_more_table => k_is)
    (case l_l_more_table => k_is)
    (case c_l_more_table => k_is)
    (case k_l_more_table => k_is)
    (case a_l_more_source => k_is)
    (case l_l_more_source => k_is)
    (case c_l_more_source => k_is)
    (case k_l_more_source => k_is)
    (case a_l_goes => k_is)
    (case l_l_goes => k_is)
    (case c_l_goes => k_is)
    (case k_l_goes => k_is)
    (case a_goes_by_rows => k_is)
    (case l_goes_by_rows => k_is)
    (case c_goes_by_rows => k_is)
    (case k_goes_by_rows => k_is)
    (case a_l_right => k_is)
    (case l_l_right => k_is)
    (case c_l_right => k_is)
    (case k_l_right => k_is)
    (case a_law => k_is)
    (case l_law => k_is)
    (case c_law => k_is)
    (case k_law => k_is)
    (case zb_abs => k_is)
    (case zb_all => k_is)
    (case zb_any => k_is)
    (case zb_enumerate => k_is)
    (case zb_int => k_is)
    (case zb_len => k_is)
    (case zb_list => k_is)
    (case zb_range => k_is)
    (case zb_repr => k_is)
    (case zb_set => k_is)
    (case zb_sorted => k_is)
    (case zb_tuple => k_is)
    (case zc_FILL => k_is)
    (case zc_OF => k_is)
    (case zc_WIDE_STEPS => k_is)
    (case lc_WIDE_STEPS => k_is)
    (case vc_WIDE_STEPS => exact ⟨by decide, by repeat' first | exact .nil | refine .cons ⟨_, rfl⟩ ?_⟩)

