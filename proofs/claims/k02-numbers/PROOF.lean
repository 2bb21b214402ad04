import PyProof.Rows.All
import Wide.All
import OpenK.AllK
import Wide.FinOn
import HandS.ForMost
import HandS.ForExc
import HandS.CallSlots
import HandS.IsInst
import HandS.Zip
import HandS.Star
import HandS.Flow
import HandS.StrMore
import HandS.Wide
import HandS.TupAny
import HandS.RaiseMore
import HandS.Conv
import HandS.SetKeys
import HandS.EndBits
import HandS.Replace
import PyProof.Rows.StrPadFill
import HandS.Text
import PySem.Challenge.RW_cleanedtables_k02_numbers_read_and_writt
set_option Elab.async false
set_option linter.all false
set_option maxRecDepth 100000
/-! The data layer: what expressions and statements come to, told in plain data (PyData), over the hand layer's judgements. -/
namespace DL
open PySem PySem.Spec PyProof.Rows L2

abbrev D := PyData
def kD : Key → D
  | .inl i => .int i
  | .inr x => .str x
mutual
inductive Rp (K : PySem.W.Frag) (I : Hp) : V → D → Prop
  | non : Rp K I .non .none
  | bl (b : Bool) : Rp K I (.bl b) (.bool b)
  | int (i : Int) : Rp K I (.int i) (.int i)
  | str (x : Str) : Rp K I (.str x) (.str x)
  | lst {a : Addr} {xs : List V} {ds : List D} : SqL K I a xs → RpA K I xs ds → Rp K I (.ref a) (.list ds)
  | tup {a : Addr} {xs : List V} {ds : List D} : SqT K I a xs → RpA K I xs ds → Rp K I (.ref a) (.tuple ds)
  | dic {a : Addr} {kvs : List (Key × V)} {ps : List (D × D)} : I a = some (.dK kvs) → RpK K I kvs ps → Rp K I (.ref a) (.dict ps)
inductive RpA (K : PySem.W.Frag) (I : Hp) : List V → List D → Prop
  | nil : RpA K I [] []
  | cons {v : V} {vs : List V} {d : D} {ds : List D} : Rp K I v d → RpA K I vs ds → RpA K I (v :: vs) (d :: ds)
inductive RpK (K : PySem.W.Frag) (I : Hp) : List (Key × V) → List (D × D) → Prop
  | nil : RpK K I [] []
  | cons {k : Key} {v : V} {kvs : List (Key × V)} {d : D} {ps : List (D × D)} : Rp K I v d → RpK K I kvs ps → RpK K I ((k, v) :: kvs) ((kD k, d) :: ps)
end
theorem seqL {K : PySem.W.Frag} {H H' : Hp} {a : Addr} {xs : List V} (e : Same H H') (h : SqL K H a xs) : SqL K H' a xs := e.seq h
theorem seqT {K : PySem.W.Frag} {H H' : Hp} {a : Addr} {xs : List V} (e : Same H H') (h : SqT K H a xs) : SqT K H' a xs := by
  rcases h with (h | ⟨o, h⟩) | h
  · exact .inl (.inl (e _ _ h))
  · exact .inl (.inr ⟨o, e _ _ h⟩)
  · exact .inr h
mutual
theorem Rp.mono {K : PySem.W.Frag} {I I' : Hp} (e : Same I I') : ∀ (d : D) (v : V), Rp K I v d → Rp K I' v d
  | .none, _, h => by cases h; exact .non
  | .bool _, _, h => by cases h; exact .bl _
  | .int _, _, h => by cases h; exact .int _
  | .str _, _, h => by cases h; exact .str _
  | .list ds, _, h => by
    cases h with
    | lst hs ha => exact .lst (seqL e hs) (RpA.mono e ds _ ha)
  | .tuple ds, _, h => by
    cases h with
    | tup hs ha => exact .tup (seqT e hs) (RpA.mono e ds _ ha)
  | .dict ps, _, h => by
    cases h with
    | dic hs ha => exact .dic (e _ _ hs) (RpK.mono e ps _ ha)
theorem RpA.mono {K : PySem.W.Frag} {I I' : Hp} (e : Same I I') : ∀ (ds : List D) (vs : List V), RpA K I vs ds → RpA K I' vs ds
  | [], _, h => by cases h; exact .nil
  | d :: ds, _, h => by
    cases h with
    | cons h1 h2 => exact .cons (Rp.mono e d _ h1) (RpA.mono e ds _ h2)
theorem RpK.mono {K : PySem.W.Frag} {I I' : Hp} (e : Same I I') : ∀ (ps : List (D × D)) (kvs : List (Key × V)), RpK K I kvs ps → RpK K I' kvs ps
  | [], _, h => by cases h; exact .nil
  | (_, d) :: ps, _, h => by
    cases h with
    | cons h1 h2 => exact .cons (Rp.mono e d _ h1) (RpK.mono e ps _ h2)
end
theorem RpA.length {K : PySem.W.Frag} {I : Hp} : ∀ {ds : List D} {vs : List V}, RpA K I vs ds → vs.length = ds.length
  | _, _, .nil => rfl
  | _, _, .cons _ t => by rw [List.length_cons, List.length_cons, RpA.length t]
theorem RpA.get {K : PySem.W.Frag} {I : Hp} : ∀ {ds : List D} {vs : List V} {i : Nat} {v : V}, RpA K I vs ds → vs[i]? = some v → ∃ d, ds[i]? = some d ∧ Rp K I v d
  | _, _, _, _, .nil, h => by simp at h
  | _, _, 0, _, .cons r t, h => by
    simp at h
    subst h
    exact ⟨_, rfl, r⟩
  | _, _, i + 1, _, .cons r t, h => by
    obtain ⟨d, h1, h2⟩ := RpA.get (i := i) t (by simpa using h)
    exact ⟨d, by simpa using h1, h2⟩
theorem RpA.got {K : PySem.W.Frag} {I : Hp} {ds : List D} {vs : List V} {i : Nat} {d : D} (r : RpA K I vs ds) (h : ds[i]? = some d) : ∃ v, vs[i]? = some v ∧ Rp K I v d := by
  have hl := r.length
  have hi : i < vs.length := by
    have := (List.getElem?_eq_some_iff.mp h).1
    omega
  have e : vs[i]? = some vs[i] := by simp [hi]
  obtain ⟨d', h1, h2⟩ := r.get e
  rw [h] at h1
  cases h1
  exact ⟨_, e, h2⟩
theorem RpA.app {K : PySem.W.Frag} {I : Hp} : ∀ {ds es : List D} {vs us : List V}, RpA K I vs ds → RpA K I us es → RpA K I (vs ++ us) (ds ++ es)
  | _, _, _, _, .nil, h => h
  | _, _, _, _, .cons r t, h => .cons r (RpA.app t h)
theorem RpA.take {K : PySem.W.Frag} {I : Hp} : ∀ {ds : List D} {vs : List V} (n : Nat), RpA K I vs ds → RpA K I (vs.take n) (ds.take n)
  | _, _, 0, _ => by simp; exact .nil
  | _, _, n + 1, .nil => .nil
  | _, _, n + 1, .cons r t => .cons r (RpA.take n t)
theorem RpA.drop {K : PySem.W.Frag} {I : Hp} : ∀ {ds : List D} {vs : List V} (n : Nat), RpA K I vs ds → RpA K I (vs.drop n) (ds.drop n)
  | _, _, 0, h => h
  | _, _, n + 1, .nil => .nil
  | _, _, n + 1, .cons r t => RpA.drop n t
mutual
def nodict : D → Bool
  | .list ds => nodicts ds
  | .tuple ds => nodicts ds
  | .dict _ => false
  | _ => true
def nodicts : List D → Bool
  | [] => true
  | d :: ds => nodict d && nodicts ds
end
mutual
theorem Rp.dp {K : PySem.W.Frag} {I : Hp} : ∀ (d : D) (v : V), nodict d = true → Rp K I v d → Dp K I v d
  | .none, _, _, h => by cases h; exact .non
  | .bool _, _, _, h => by cases h; exact .bl _
  | .int _, _, _, h => by cases h; exact .int _
  | .str _, _, _, h => by cases h; exact .str _
  | .list ds, _, n, h => by
    cases h with
    | lst hs ha => exact .lst hs (RpA.dp ds _ (by simpa [nodict] using n) ha)
  | .tuple ds, _, n, h => by
    cases h with
    | tup hs ha => exact .tup hs (RpA.dp ds _ (by simpa [nodict] using n) ha)
  | .dict ps, _, n, _ => by simp [nodict] at n
theorem RpA.dp {K : PySem.W.Frag} {I : Hp} : ∀ (ds : List D) (vs : List V), nodicts ds = true → RpA K I vs ds → DpAll K I vs ds
  | [], _, _, h => by cases h; exact .nil
  | d :: ds, _, n, h => by
    simp only [nodicts, Bool.and_eq_true] at n
    cases h with
    | cons h1 h2 => exact .cons (Rp.dp d _ n.1 h1) (RpA.dp ds _ n.2 h2)
end

/-! ### what a name, an expression may be; what stands in a store -/
inductive Dv where
  | d (x : D) | c (n : Nat) | f (n : Nat)
abbrev DEnv := List (Option Dv)
inductive Cell where
  | lst (xs : List Dv) | dic (kvs : List (Key × Dv)) | dT (kvs : List (List Key × Dv)) | obj (C : Nat) (fs : List (Str × Dv)) | dead
abbrev Store := List Cell
structure Ex where
  cls : Nat
  fs : List (Str × Dv)
inductive Out (β : Type) where
  | ok (b : β) (μ : Store) | ex (e : Ex) (μ : Store) | bad
def Out.bind {β γ : Type} : Out β → (β → Store → Out γ) → Out γ
  | .ok b μ, k => k b μ
  | .ex e μ, _ => .ex e μ
  | .bad, _ => .bad
@[simp] theorem bind_ok {β γ : Type} (b : β) (μ : Store) (k : β → Store → Out γ) : (Out.ok b μ).bind k = k b μ := rfl
@[simp] theorem bind_ex {β γ : Type} (e : Ex) (μ : Store) (k : β → Store → Out γ) : (Out.ex e μ : Out β).bind k = .ex e μ := rfl
@[simp] theorem bind_bad {β γ : Type} (k : β → Store → Out γ) : (Out.bad : Out β).bind k = .bad := rfl

structure GT where
  K : PySem.W.Frag
  FA : Nat → Option Addr
/-- I: what is frozen; α: where the store's cells stand; F: what stands there for others, untouched -/
structure Wd where
  I : Hp
  α : List Addr
  F : Hp
def Wd.le (w w' : Wd) : Prop := Same w.I w'.I ∧ w.α <+: w'.α ∧ Same w.F w'.F
theorem Wd.le_refl (w : Wd) : w.le w := ⟨Same.refl _, List.prefix_refl _, Same.refl _⟩
theorem Wd.le.trans {a b c : Wd} (h : a.le b) (k : b.le c) : a.le c := ⟨h.1.trans k.1, h.2.1.trans k.2.1, h.2.2.trans k.2.2⟩

def Rv (G : GT) (w : Wd) (v : V) : Dv → Prop
  | .d x => Rp G.K w.I v x
  | .c n => ∃ a, w.α[n]? = some a ∧ v = .ref a
  | .f n => ∃ a, G.FA n = some a ∧ v = .ref a
theorem pre_get {α : Type} {l m : List α} (h : l <+: m) {n : Nat} {a : α} (e : l[n]? = some a) : m[n]? = some a := by
  obtain ⟨t, rfl⟩ := h
  have := (List.getElem?_eq_some_iff.mp e).1
  rw [List.getElem?_append_left this]
  exact e
theorem Rv.mono {G : GT} {w w' : Wd} (h : w.le w') {v : V} : ∀ {b : Dv}, Rv G w v b → Rv G w' v b
  | .d _, r => Rp.mono h.1 _ _ r
  | .c _, ⟨a, e, q⟩ => ⟨a, pre_get h.2.1 e, q⟩
  | .f _, r => r
abbrev Rvs (G : GT) (w : Wd) : List V → List Dv → Prop := Paired (Rv G w)
theorem Rvs.mono {G : GT} {w w' : Wd} (h : w.le w') : ∀ {vs : List V} {bs : List Dv}, Rvs G w vs bs → Rvs G w' vs bs
  | _, _, .nil => .nil
  | _, _, .cons r t => .cons (Rv.mono h r) (Rvs.mono h t)

def CellAt (G : GT) (w : Wd) (H : Hp) (a : Addr) : Cell → Prop
  | .lst xs => w.I a = none ∧ ∃ vs, H a = some (.lst vs) ∧ Rvs G w vs xs
  | .dic kvs => w.I a = none ∧ ∃ ws, H a = some (.dK ws) ∧ Paired (fun (p : Key × V) (q : Key × Dv) => p.1 = q.1 ∧ Rv G w p.2 q.2) ws kvs
  | .dT kvs => w.I a = none ∧ ∃ ws, H a = some (.dT ws) ∧ Paired (fun (p : List Key × V) (q : List Key × Dv) => p.1 = q.1 ∧ Rv G w p.2 q.2) ws kvs
  | .obj _ _ => False
  | .dead => True
structure Lay (G : GT) (w : Wd) (μ : Store) (H : Hp) : Prop where
  same : Same w.I H
  len : w.α.length = μ.length
  nd : w.α.Nodup
  lv : ∀ a ∈ w.α, ∃ o, H a = some o
  fr : Same w.F H
  fd : ∀ a ∈ w.α, w.F a = none
  di : ∀ a o, w.F a = some o → w.I a = none
  at_ : ∀ (n : Nat) (c : Cell) (a : Addr), μ[n]? = some c → w.α[n]? = some a → CellAt G w H a c
theorem Paired.imp {α β : Type} {F F' : α → β → Prop} (h : ∀ a b, F a b → F' a b) : ∀ {l : List α} {m : List β}, Paired F l m → Paired F' l m
  | _, _, .nil => .nil
  | _, _, .cons r t => .cons (h _ _ r) (Paired.imp h t)
def EnvR (G : GT) (w : Wd) (σ : L2.St) (ρ : DEnv) : Prop := σ.length = ρ.length ∧ ∀ (i : Nat) (b : Dv), ρ[i]? = some (some b) → ∃ v, σ[i]? = some (some v) ∧ Rv G w v b
theorem EnvR.mono {G : GT} {w w' : Wd} (h : w.le w') {σ : L2.St} {ρ : DEnv} (e : EnvR G w σ ρ) : EnvR G w' σ ρ :=
  ⟨e.1, fun i b q => let ⟨v, h1, h2⟩ := e.2 i b q; ⟨v, h1, Rv.mono h h2⟩⟩
theorem EnvR.set {G : GT} {w : Wd} {σ : L2.St} {ρ : DEnv} (e : EnvR G w σ ρ) (i : Nat) {v : V} {b : Dv} (r : Rv G w v b) : EnvR G w (σ.set i (some v)) (ρ.set i (some b)) := by
  refine ⟨by rw [List.length_set, List.length_set]; exact e.1, fun j c q => ?_⟩
  by_cases h : i = j
  · subst h
    by_cases hi : i < ρ.length
    · rw [List.getElem?_set_self hi] at q
      cases q
      exact ⟨v, by rw [List.getElem?_set_self (by rw [e.1]; exact hi)], r⟩
    · rw [List.getElem?_eq_none (by rw [List.length_set]; omega)] at q
      cases q
  · rw [List.getElem?_set_ne h] at q
    obtain ⟨u, h1, h2⟩ := e.2 j c q
    exact ⟨u, by rw [List.getElem?_set_ne h]; exact h1, h2⟩

/-- an exception at its data -/
def ExR (G : GT) (w : Wd) (H : Hp) (cls : Value) (d : Option Addr) (e : Ex) : Prop :=
  ∃ C, G.FA e.cls = some C ∧ cls = .ref C ∧ ((d = none ∧ e.fs = []) ∨ ∃ da vs, d = some da ∧ w.I da = some (.xd vs) ∧ Paired (fun (p : Str × V) (q : Str × Dv) => p.1 = q.1 ∧ Rv G w p.2 q.2) vs e.fs)

/-! ### what is wanted behind -/
def Pst {β γ : Type} (G : GT) (W : WX) (σ : L2.St) (R : Wd → γ → β → Prop) (w : Wd) (o : Out β) (Q : γ → Hp → Prop) : Prop :=
  match o with
  | .ok b μ' => ∀ w' v H', w.le w' → Lay G w' μ' H' → R w' v b → Q v H'
  | .ex e μ' => ∀ w' cls d H', w.le w' → Lay G w' μ' H' → ExR G w' H' cls d e → W cls d σ H'
  | .bad => False
theorem Pst.mono {β γ : Type} {G : GT} {W : WX} {σ : L2.St} {R : Wd → γ → β → Prop} {w w' : Wd} {o : Out β} {Q : γ → Hp → Prop} (h : w.le w') (p : Pst G W σ R w o Q) : Pst G W σ R w' o Q := by
  cases o with
  | ok b μ => exact fun w2 v H l => p w2 v H (h.trans l)
  | ex e μ => exact fun w2 c d H l => p w2 c d H (h.trans l)
  | bad => exact p
def tD {β γ : Type} (G : GT) (W : WX) (R : Wd → γ → β → Prop) (m : DEnv → Store → Out β) : L2.St → Hp → (γ → Hp → Prop) → Prop :=
  fun σ H Q => ∃ w μ ρ, Lay G w μ H ∧ EnvR G w σ ρ ∧ Pst G W σ R w (m ρ μ) Q
theorem tD.seq {β γ δ ε : Type} {G : GT} {W : WX} {R : Wd → γ → β → Prop} {R2 : Wd → δ → ε → Prop} {m : DEnv → Store → Out β} {k : DEnv → β → Store → Out ε} {σ : L2.St} {H : Hp} {Q : δ → Hp → Prop} {S : γ → Hp → Prop}
    {w : Wd} {μ : Store} {ρ : DEnv} (hl : Lay G w μ H) (he : EnvR G w σ ρ) (p : Pst G W σ R2 w ((m ρ μ).bind (k ρ)) Q)
    (h : ∀ w1 μ1 H1 v b, w.le w1 → Lay G w1 μ1 H1 → EnvR G w1 σ ρ → R w1 v b → Pst G W σ R2 w1 (k ρ b μ1) Q → S v H1) : tD G W R m σ H S := by
  refine ⟨w, μ, ρ, hl, he, ?_⟩
  cases e : m ρ μ with
  | ok b μ1 =>
    rw [e] at p
    exact fun w1 v H1 l1 lay r => h w1 μ1 H1 v b l1 lay (he.mono l1) r (Pst.mono l1 p)
  | ex x μ1 =>
    rw [e] at p
    exact p
  | bad =>
    rw [e] at p
    exact p.elim

abbrev tE (G : GT) (W : WX) (m : DEnv → Store → Out Dv) : TE := tD G W (Rv G) m
abbrev tT (G : GT) (W : WX) (m : DEnv → Store → Out Bool) : TT := tD G W (fun _ b c => b = c) m
abbrev tA (G : GT) (W : WX) (m : DEnv → Store → Out (List Dv)) : TA := tD G W (Rvs G) m
theorem PE.imp {X : Cx} {e : Expr} {t t' : TE} (h : PE X e t) (i : ∀ σ H Q, t' σ H Q → t σ H Q) : PE X e t' := ⟨fun p s σ H Q I hw => h.run p s σ H Q I (i _ _ _ hw)⟩
theorem PT.imp {X : Cx} {e : Expr} {t t' : TT} (h : PT X e t) (i : ∀ σ H Q, t' σ H Q → t σ H Q) : PT X e t' := ⟨fun p s σ H Q I hw => h.run p s σ H Q I (i _ _ _ hw)⟩
theorem PW.imp {X : Cx} {e : Expr} {t t' : TT} (h : PW X e t) (i : ∀ σ H Q, t' σ H Q → t σ H Q) : PW X e t' := ⟨fun wh p s σ H Q I hw => h.run wh p s σ H Q I (i _ _ _ hw)⟩
theorem PA.imp {X : Cx} {e : List Expr} {t t' : TA} (h : PA X e t) (i : ∀ σ H Q, t' σ H Q → t σ H Q) : PA X e t' := ⟨fun po p s σ H Q I hw => h.run po p s σ H Q I (i _ _ _ hw)⟩
theorem PS.imp {X : Cx} {e : Stmt} {t t' : TS} (h : PS X e t) (i : ∀ D σ H, t' D σ H → t D σ H) : PS X e t' := ⟨fun p s σ H D I hw => h.run p s σ H D I (i _ _ _ hw)⟩
theorem PSs.imp {X : Cx} {e : List Stmt} {t t' : TS} (h : PSs X e t) (i : ∀ D σ H, t' D σ H → t D σ H) : PSs X e t' := ⟨fun p s σ H D I hw => h.run p s σ H D I (i _ _ _ hw)⟩
/-- the judgements over data -/
abbrev DE (X : Cx) (G : GT) (W : WX) (e : Expr) (m : DEnv → Store → Out Dv) : Prop := PE X e (tE G W m)
abbrev DT (X : Cx) (G : GT) (W : WX) (e : Expr) (m : DEnv → Store → Out Bool) : Prop := PT X e (tT G W m)
abbrev DW (X : Cx) (G : GT) (W : WX) (e : Expr) (m : DEnv → Store → Out Bool) : Prop := PW X e (tT G W m)
abbrev DA (X : Cx) (G : GT) (W : WX) (es : List Expr) (m : DEnv → Store → Out (List Dv)) : Prop := PA X es (tA G W m)

inductive Fl where
  | nx (ρ : DEnv) | bk (ρ : DEnv) | ct (ρ : DEnv) | rt (b : Dv)
def PstS (G : GT) (W : WX) (w : Wd) (o : Out Fl) (D : Ends) : Prop :=
  match o with
  | .ok (.nx ρ) μ' => ∀ w' σ' H', w.le w' → Lay G w' μ' H' → EnvR G w' σ' ρ → D.nx σ' H'
  | .ok (.bk ρ) μ' => ∀ w' σ' H', w.le w' → Lay G w' μ' H' → EnvR G w' σ' ρ → D.bk σ' H'
  | .ok (.ct ρ) μ' => ∀ w' σ' H', w.le w' → Lay G w' μ' H' → EnvR G w' σ' ρ → D.ct σ' H'
  | .ok (.rt b) μ' => ∀ w' v H', w.le w' → Lay G w' μ' H' → Rv G w' v b → D.rt v H'
  | .ex e μ' => ∀ w' cls d σ' H', w.le w' → Lay G w' μ' H' → ExR G w' H' cls d e → W cls d σ' H'
  | .bad => False
theorem PstS.mono {G : GT} {W : WX} {w w' : Wd} {o : Out Fl} {D : Ends} (h : w.le w') (p : PstS G W w o D) : PstS G W w' o D := by
  cases o with
  | ok b μ =>
    cases b with
    | nx ρ => exact fun w2 σ H l => p w2 σ H (h.trans l)
    | bk ρ => exact fun w2 σ H l => p w2 σ H (h.trans l)
    | ct ρ => exact fun w2 σ H l => p w2 σ H (h.trans l)
    | rt v => exact fun w2 v H l => p w2 v H (h.trans l)
  | ex e μ => exact fun w2 c d s H l => p w2 c d s H (h.trans l)
  | bad => exact p
def tS (G : GT) (W : WX) (m : DEnv → Store → Out Fl) : TS := fun D σ H => ∃ w μ ρ, Lay G w μ H ∧ EnvR G w σ ρ ∧ PstS G W w (m ρ μ) D
abbrev DS (X : Cx) (G : GT) (W : WX) (st : Stmt) (m : DEnv → Store → Out Fl) : Prop := PS X st (tS G W m)
abbrev DSs (X : Cx) (G : GT) (W : WX) (st : List Stmt) (m : DEnv → Store → Out Fl) : Prop := PSs X st (tS G W m)
/-- an expression's part of a statement -/
theorem tD.seqS {β γ : Type} {G : GT} {W : WX} {R : Wd → γ → β → Prop} {m : DEnv → Store → Out β} {k : DEnv → β → Store → Out Fl} {σ : L2.St} {H : Hp} {D : Ends} {S : γ → Hp → Prop}
    {w : Wd} {μ : Store} {ρ : DEnv} (hl : Lay G w μ H) (he : EnvR G w σ ρ) (p : PstS G W w ((m ρ μ).bind (k ρ)) D)
    (h : ∀ w1 μ1 H1 v b, w.le w1 → Lay G w1 μ1 H1 → EnvR G w1 σ ρ → R w1 v b → PstS G W w1 (k ρ b μ1) D → S v H1) : tD G W R m σ H S := by
  refine ⟨w, μ, ρ, hl, he, ?_⟩
  cases e : m ρ μ with
  | ok b μ1 =>
    rw [e] at p
    exact fun w1 v H1 l1 lay r => h w1 μ1 H1 v b l1 lay (he.mono l1) r (PstS.mono l1 p)
  | ex x μ1 =>
    rw [e] at p
    exact fun w1 c d H1 l1 lay r => p w1 c d σ H1 l1 lay r
  | bad =>
    rw [e] at p
    exact p.elim
end DL

/-! Rules of the data layer: expressions. -/
namespace DL
open PySem PySem.Spec PyProof.Rows L2
abbrev ME := DEnv → Store → Out Dv
abbrev MT := DEnv → Store → Out Bool
abbrev MA := DEnv → Store → Out (List Dv)
abbrev MS := DEnv → Store → Out Fl
abbrev Op1 := Dv → Store → Out Dv
abbrev Op2 := Dv → Dv → Store → Out Dv
abbrev OpN := List Dv → Store → Out Dv

def eVar (i : Nat) : ME := fun ρ μ => match ρ[i]? with
  | some (some b) => .ok b μ
  | _ => .bad
def eC (b : Dv) : ME := fun _ μ => .ok b μ
def eBad : ME := fun _ _ => .bad
def e1 (f : Op1) (a : ME) : ME := fun ρ μ => (a ρ μ).bind fun x μ => f x μ
def e2 (f : Op2) (a b : ME) : ME := fun ρ μ => (a ρ μ).bind fun x μ => (b ρ μ).bind fun y μ => f x y μ
def asBool : Dv → Store → Out Bool
  | .d (.bool b), μ => .ok b μ
  | _, _ => .bad
/-- an expression that gives a truth, as a test -/
def tV (a : ME) : MT := fun ρ μ => (a ρ μ).bind asBool
def bV (a : MT) : ME := fun ρ μ => (a ρ μ).bind fun b μ => .ok (.d (.bool b)) μ
def tAndM (a b : MT) : MT := fun ρ μ => (a ρ μ).bind fun x μ => if x = true then b ρ μ else .ok false μ
def tOrM (a b : MT) : MT := fun ρ μ => (a ρ μ).bind fun x μ => if x = true then .ok true μ else b ρ μ
def tNotM (a : MT) : MT := fun ρ μ => (a ρ μ).bind fun x μ => .ok (!x) μ
def eAnd (a b : ME) : ME := fun ρ μ => (a ρ μ).bind fun x μ => (asBool x μ).bind fun k μ => if k = true then b ρ μ else .ok (.d (.bool false)) μ
def eOr (a b : ME) : ME := fun ρ μ => (a ρ μ).bind fun x μ => (asBool x μ).bind fun k μ => if k = true then .ok (.d (.bool true)) μ else b ρ μ
def eNot (a : ME) : ME := fun ρ μ => (a ρ μ).bind fun x μ => (asBool x μ).bind fun k μ => .ok (.d (.bool (!k))) μ
def eIf (c : MT) (a b : ME) : ME := fun ρ μ => (c ρ μ).bind fun x μ => if x = true then a ρ μ else b ρ μ
def eChain (f g : Op2) (a b c : ME) : ME := fun ρ μ => (a ρ μ).bind fun x μ => (b ρ μ).bind fun y μ => (f x y μ).bind fun z μ => (asBool z μ).bind fun k μ =>
  if k = true then (c ρ μ).bind fun u μ => g y u μ else .ok (.d (.bool false)) μ
def aNil : MA := fun _ μ => .ok [] μ
def aCons (a : ME) (r : MA) : MA := fun ρ μ => (a ρ μ).bind fun x μ => (r ρ μ).bind fun xs μ => .ok (x :: xs) μ
def eN (f : OpN) (a : MA) : ME := fun ρ μ => (a ρ μ).bind fun xs μ => f xs μ
def eMth (f : Dv → OpN) (o : ME) (a : MA) : ME := fun ρ μ => (o ρ μ).bind fun x μ => (a ρ μ).bind fun xs μ => f x xs μ

/-- what an operation's rule asks follows from what is wanted of its data -/
def Ok1 (G : GT) (r : V → Hp → VK → Prop) (f : Op1) : Prop := ∀ (W : WX) (σ : L2.St) (w : Wd) (μ : Store) (H : Hp) (x : V) (b : Dv) (Q : VK), Lay G w μ H → Rv G w x b → Pst G W σ (Rv G) w (f b μ) Q → r x H Q
def Ok2 (G : GT) (r : R2) (f : Op2) : Prop := ∀ (W : WX) (σ : L2.St) (w : Wd) (μ : Store) (H : Hp) (x y : V) (b c : Dv) (Q : VK), Lay G w μ H → Rv G w x b → Rv G w y c → Pst G W σ (Rv G) w (f b c μ) Q → r x y H Q
def OkN (G : GT) (r : List V → Hp → VK → Prop) (f : OpN) : Prop := ∀ (W : WX) (σ : L2.St) (w : Wd) (μ : Store) (H : Hp) (xs : List V) (bs : List Dv) (Q : VK), Lay G w μ H → Rvs G w xs bs → Pst G W σ (Rv G) w (f bs μ) Q → r xs H Q
theorem Ok2.or1 {G : GT} {r r' : R2} {f : Op2} (h : Ok2 G r f) : Ok2 G (fun x y H Q => r x y H Q ∨ r' x y H Q) f := fun W σ w μ H x y b c Q l rx ry p => .inl (h W σ w μ H x y b c Q l rx ry p)

section
variable {X : Cx} {G : GT} {W : WX} {a b c e o : Expr} {es : List Expr} {ma mb mc mo : ME} {ta tb tc : MT} {mas : MA} {pos p : Pos} {x : Str} {rest : List Expr}
theorem de_var (i : Nat) {x : Str} (hN : X.N[i]? = some x := by rfl) (hv : Vis X.env.scope x := by first | exact Or.inl rfl | exact Or.inr (Or.inl rfl) | exact Or.inr (Or.inr rfl)) (hd : (x == ("__debug__" : Str)) = false := by decide)
    (hcd : (x == ("__classdict__" : Str)) = false := by decide) : DE X G W (.Name x pos) (eVar i) := by
  refine PE.imp (pe_var hN hv hd hcd) ?_
  rintro σ H Q ⟨w, μ, ρ, hl, he, p⟩
  unfold eVar at p
  cases q : ρ[i]? with
  | none => rw [q] at p; exact p.elim
  | some z =>
    cases z with
    | none => rw [q] at p; exact p.elim
    | some b =>
      rw [q] at p
      obtain ⟨v, h1, h2⟩ := he.2 i b q
      exact ⟨v, h1, p w v H w.le_refl hl h2⟩
/-- what is told of any value that is there at once -/
theorem tC_imp {v : V} {b : Dv} (h : ∀ w, Rv G w v b) : ∀ σ H Q, tE G W (eC b) σ H Q → tC v σ H Q := by
  rintro σ H Q ⟨w, μ, ρ, hl, he, p⟩
  exact p w v H w.le_refl hl (h w)
theorem de_int {i j} : DE X G W (.Constant (.int i) j pos) (eC (.d (.int i))) := PE.imp pe_int (tC_imp fun _ => .int i)
theorem de_bl {b j} : DE X G W (.Constant (.bool b) j pos) (eC (.d (.bool b))) := PE.imp pe_bl (tC_imp fun _ => .bl b)
theorem de_non {j} : DE X G W (.Constant .none j pos) (eC (.d .none)) := PE.imp pe_non (tC_imp fun _ => .non)
theorem de_str {x j} : DE X G W (.Constant (.str x) j pos) (eC (.d (.str x))) := PE.imp pe_str (tC_imp fun _ => .str x)
theorem de_glob {v : V} {u : Value} {b : Dv} (hg : Gl X x) (hm : X.mg x = some u) (r : RelV v u) (h : ∀ w, Rv G w v b) (hd : (x == ("__debug__" : Str)) = false := by decide) : DE X G W (.Name x pos) (eC b) := PE.imp (pe_glob hg hm r hd) (tC_imp h)
theorem de_bad {t : TE} (h : PE X e t) : DE X G W e eBad := PE.imp h (by rintro σ H Q ⟨w, μ, ρ, hl, he, p⟩; exact p.elim)
theorem de_op {op : Operator} {r : R2} {f : Op2} (ho : OpR X (binaryOp op) r) (h : Ok2 G r f) (ha : DE X G W a ma) (hb : DE X G W b mb) : DE X G W (.BinOp a op b pos) (e2 f ma mb) := by
  refine PE.imp (pe_op ho ha hb) ?_
  rintro σ H Q ⟨w, μ, ρ, hl, he, p⟩
  exact tD.seq (k := fun ρ x μ => (mb ρ μ).bind fun y μ => f x y μ) hl he p fun w1 μ1 H1 v b l1 lay1 e1 r1 p1 => tD.seq (k := fun ρ y μ => f b y μ) lay1 e1 p1 fun w2 μ2 H2 v2 b2 l2 lay2 e2 r2 p2 => h W σ w2 μ2 H2 v v2 b b2 Q lay2 (r1.mono l2) r2 p2
theorem de_un {op : UnaryOp} {r : V → Hp → VK → Prop} {f : Op1} (ho : UnR X (unaryOp op) r) (h : Ok1 G r f) (ha : DE X G W a ma) : DE X G W (.UnaryOp op a pos) (e1 f ma) := by
  refine PE.imp (pe_un ho ha) ?_
  rintro σ H Q ⟨w, μ, ρ, hl, he, p⟩
  exact tD.seq (k := fun ρ x μ => f x μ) hl he p fun w1 μ1 H1 v b l1 lay1 e1 r1 p1 => h W σ w1 μ1 H1 v b Q lay1 r1 p1
theorem op_imp {r : R2} {f : Op2} (h : Ok2 G r f) : ∀ σ H Q, tE G W (e2 f ma mb) σ H Q → tOp r (tE G W ma) (tE G W mb) σ H Q := by
  rintro σ H Q ⟨w, μ, ρ, hl, he, p⟩
  exact tD.seq (k := fun ρ x μ => (mb ρ μ).bind fun y μ => f x y μ) hl he p fun w1 μ1 H1 v b l1 lay1 e1 r1 p1 => tD.seq (k := fun ρ y μ => f b y μ) lay1 e1 p1 fun w2 μ2 H2 v2 b2 l2 lay2 e2 r2 p2 => h W σ w2 μ2 H2 v v2 b b2 Q lay2 (r1.mono l2) r2 p2
theorem de_cmp {op : CmpOp} {r : R2} {f : Op2} (ho : OpR X (compareOp op) r) (h : Ok2 G r f) (ha : DE X G W a ma) (hb : DE X G W b mb) (hm : behindInMarks op b = false := by first | rfl | exact nomark _ | with_unfolding_all rfl) : DE X G W (.Compare a [op] [b] pos) (e2 f ma mb) :=
  PE.imp (pe_cmpR ho ha hb hm) (op_imp h)
/-- a value as a test -/
theorem test_imp {m : ME} : ∀ σ H Q, tT G W (tV m) σ H Q → tTest (tE G W m) σ H Q := by
  rintro σ H Q ⟨w, μ, ρ, hl, he, p⟩
  refine tD.seq (k := fun ρ x μ => asBool x μ) hl he p fun w1 μ1 H1 v b l1 lay1 e1 r1 p1 => ?_
  cases b with
  | d x =>
    cases x with
    | bool k =>
      have r1 : Rp G.K w1.I v (.bool k) := r1
      cases r1
      exact ⟨k, rfl, p1 w1 k H1 w1.le_refl lay1 rfl⟩
    | _ => exact p1.elim
  | _ => exact p1.elim
theorem tTest.imp {t t' : TE} (h : ∀ σ H Q, t' σ H Q → t σ H Q) : ∀ σ H Q, tTest t' σ H Q → tTest t σ H Q := fun σ H Q q => h _ _ _ q
theorem dt_cmp {op : CmpOp} {r : R2} {f : Op2} (ho : OpR X (compareOp op) r) (h : Ok2 G r f) (ha : DE X G W a ma) (hb : DE X G W b mb) (hm : behindInMarks op b = false := by first | rfl | exact nomark _ | with_unfolding_all rfl) : DT X G W (.Compare a [op] [b] pos) (tV (e2 f ma mb)) :=
  PT.imp (pt_cmpR ho ha hb hm) fun σ H Q q => tTest.imp (op_imp h) σ H Q (test_imp σ H Q q)
theorem dt_val (h : DE X G W e ma) (he : ∀ whole, isTrue e X.env whole = (do let v ← whole; standAt e.pos; holding [v] (truthy v)) := by intro _; rfl) : DT X G W e (tV ma) := PT.imp (pt_val h he) test_imp
theorem chain_imp {r r' : R2} {f g : Op2} (h : Ok2 G r f) (h' : Ok2 G r' g) : ∀ σ H Q, tE G W (eChain f g ma mb mc) σ H Q → tChain r r' (tE G W ma) (tE G W mb) (tE G W mc) σ H Q := by
  rintro σ H Q ⟨w, μ, ρ, hl, he, p⟩
  refine tD.seq (k := fun ρ x μ => (mb ρ μ).bind fun y μ => (f x y μ).bind fun z μ => (asBool z μ).bind fun k μ => if k = true then (mc ρ μ).bind fun u μ => g y u μ else .ok (.d (.bool false)) μ) hl he p fun w1 μ1 H1 v b l1 lay1 en1 r1 p1 => ?_
  refine tD.seq (k := fun ρ y μ => (f b y μ).bind fun z μ => (asBool z μ).bind fun k μ => if k = true then (mc ρ μ).bind fun u μ => g y u μ else .ok (.d (.bool false)) μ) lay1 en1 p1 fun w2 μ2 H2 v2 b2 l2 lay2 en2 r2 p2 => ?_
  refine h W σ w2 μ2 H2 v v2 b b2 _ lay2 (r1.mono l2) r2 ?_
  cases q : f b b2 μ2 with
  | bad => rw [q] at p2; exact p2.elim
  | ex e μ3 => rw [q] at p2; exact p2
  | ok z μ3 =>
    rw [q] at p2
    intro w3 v3 H3 l3 lay3 r3
    cases z with
    | d zz =>
      cases zz with
      | bool k =>
        have r3 : Rp G.K w3.I v3 (.bool k) := r3
        cases r3
        refine ⟨k, rfl, ?_⟩
        have p3 := Pst.mono l3 p2
        cases k with
        | false => exact p3 w3 (.bl false) H3 w3.le_refl lay3 (.bl false)
        | true => exact tD.seq (k := fun ρ u μ => g b2 u μ) lay3 (en2.mono l3) p3 fun w4 μ4 H4 v4 b4 l4 lay4 en4 r4 p4 => h' W σ w4 μ4 H4 v2 v4 b2 b4 Q lay4 (r2.mono (l3.trans l4)) r4 p4
      | _ => exact p2.elim
    | _ => exact p2.elim
theorem de_chain {op op' : CmpOp} {r r' : R2} {f g : Op2} (ho : OpR X (compareOp op) r) (h : Ok2 G r f) (ho' : OpR X (compareOp op') r') (h' : Ok2 G r' g) (ha : DE X G W a ma) (hb : DE X G W b mb) (hc : DE X G W c mc)
    (hm : lastMarks [op, op'] [b, c] = false := by with_unfolding_all rfl) : DE X G W (.Compare a [op, op'] [b, c] pos) (eChain f g ma mb mc) := PE.imp (pe_chain ho ho' ha hb hc hm) (chain_imp h h')
theorem dt_chain {op op' : CmpOp} {r r' : R2} {f g : Op2} (ho : OpR X (compareOp op) r) (h : Ok2 G r f) (ho' : OpR X (compareOp op') r') (h' : Ok2 G r' g) (ha : DE X G W a ma) (hb : DE X G W b mb) (hc : DE X G W c mc)
    (hm : lastMarks [op, op'] [b, c] = false := by with_unfolding_all rfl) : DT X G W (.Compare a [op, op'] [b, c] pos) (tV (eChain f g ma mb mc)) :=
  PT.imp (pt_chain ho ho' ha hb hc hm) fun σ H Q q => tTest.imp (chain_imp h h') σ H Q (test_imp σ H Q q)

/-! and, or, not -/
theorem dw_pt (h : DW X G W e ta) : DT X G W e ta := h.pt
theorem dw_and1 (h : DT X G W a ta) : DW X G W (.BoolOp .And [a] pos) ta := pw_and1 h
theorem dw_or1 (h : DT X G W a ta) : DW X G W (.BoolOp .Or [a] pos) ta := pw_or1 h
theorem dw_and (ha : DT X G W a ta) (hb : DW X G W (.BoolOp .And (b :: rest) pos) tb) : DW X G W (.BoolOp .And (a :: b :: rest) pos) (tAndM ta tb) := by
  refine PW.imp (pw_and ha hb) ?_
  rintro σ H Q ⟨w, μ, ρ, hl, he, p⟩
  refine tD.seq (k := fun ρ x μ => if x = true then tb ρ μ else .ok false μ) hl he p fun w1 μ1 H1 v b l1 lay1 en1 r1 p1 => ?_
  have r1 : v = b := r1
  subst r1
  cases v with
  | true => exact ⟨w1, μ1, ρ, lay1, en1, p1⟩
  | false => exact p1 w1 false H1 w1.le_refl lay1 rfl
theorem dw_or (ha : DT X G W a ta) (hb : DW X G W (.BoolOp .Or (b :: rest) pos) tb) : DW X G W (.BoolOp .Or (a :: b :: rest) pos) (tOrM ta tb) := by
  refine PW.imp (pw_or ha hb) ?_
  rintro σ H Q ⟨w, μ, ρ, hl, he, p⟩
  refine tD.seq (k := fun ρ x μ => if x = true then .ok true μ else tb ρ μ) hl he p fun w1 μ1 H1 v b l1 lay1 en1 r1 p1 => ?_
  have r1 : v = b := r1
  subst r1
  cases v with
  | false => exact ⟨w1, μ1, ρ, lay1, en1, p1⟩
  | true => exact p1 w1 true H1 w1.le_refl lay1 rfl
theorem dt_not (ha : DT X G W a ta) : DT X G W (.UnaryOp .Not a pos) (tNotM ta) := by
  refine PT.imp (pt_not ha) ?_
  rintro σ H Q ⟨w, μ, ρ, hl, he, p⟩
  refine tD.seq (k := fun ρ x μ => .ok (!x) μ) hl he p fun w1 μ1 H1 v b l1 lay1 en1 r1 p1 => ?_
  have r1 : v = b := r1
  subst r1
  exact p1 w1 (!v) H1 w1.le_refl lay1 rfl
theorem de_one {op} (h : DE X G W a ma) : DE X G W (.BoolOp op [a] pos) ma := pe_one h
theorem bool_imp {α : Type} {R : Wd → α → Dv → Prop} {k : Bool → Store → Out Dv} {σ : L2.St} {w : Wd} {μ : Store} {Q : V → Hp → Prop} {v : V} {b : Dv} (r : Rv G w v b) (p : Pst G W σ (Rv G) w ((asBool b μ).bind k) Q) : ∃ t, v = .bl t ∧ b = .d (.bool t) ∧ Pst G W σ (Rv G) w (k t μ) Q := by
  cases b with
  | d x =>
    cases x with
    | bool t =>
      have r : Rp G.K w.I v (.bool t) := r
      cases r
      exact ⟨t, rfl, rfl, p⟩
    | _ => exact p.elim
  | _ => exact p.elim
theorem de_and (ha : DE X G W a ma) (hb : DE X G W (.BoolOp .And (b :: rest) pos) mb) : DE X G W (.BoolOp .And (a :: b :: rest) pos) (eAnd ma mb) := by
  refine PE.imp (pe_and ha hb) ?_
  rintro σ H Q ⟨w, μ, ρ, hl, he, p⟩
  refine tD.seq (k := fun ρ x μ => (asBool x μ).bind fun k μ => if k = true then mb ρ μ else .ok (.d (.bool false)) μ) hl he p fun w1 μ1 H1 v b l1 lay1 en1 r1 p1 => ?_
  obtain ⟨t, rfl, rfl, p1⟩ := bool_imp (α := V) (R := Rv G) r1 p1
  refine ⟨t, rfl, ?_⟩
  cases t with
  | true => exact ⟨w1, μ1, ρ, lay1, en1, p1⟩
  | false => exact p1 w1 _ H1 w1.le_refl lay1 (.bl false)
theorem de_or (ha : DE X G W a ma) (hb : DE X G W (.BoolOp .Or (b :: rest) pos) mb) : DE X G W (.BoolOp .Or (a :: b :: rest) pos) (eOr ma mb) := by
  refine PE.imp (pe_or ha hb) ?_
  rintro σ H Q ⟨w, μ, ρ, hl, he, p⟩
  refine tD.seq (k := fun ρ x μ => (asBool x μ).bind fun k μ => if k = true then .ok (.d (.bool true)) μ else mb ρ μ) hl he p fun w1 μ1 H1 v b l1 lay1 en1 r1 p1 => ?_
  obtain ⟨t, rfl, rfl, p1⟩ := bool_imp (α := V) (R := Rv G) r1 p1
  refine ⟨t, rfl, ?_⟩
  cases t with
  | false => exact ⟨w1, μ1, ρ, lay1, en1, p1⟩
  | true => exact p1 w1 _ H1 w1.le_refl lay1 (.bl true)
theorem de_not (ha : DE X G W a ma) : DE X G W (.UnaryOp .Not a pos) (eNot ma) := by
  refine PE.imp (pe_not ha) ?_
  rintro σ H Q ⟨w, μ, ρ, hl, he, p⟩
  refine tD.seq (k := fun ρ x μ => (asBool x μ).bind fun k μ => Out.ok (Dv.d (.bool (!k))) μ) hl he p fun w1 μ1 H1 v b l1 lay1 en1 r1 p1 => ?_
  obtain ⟨t, rfl, rfl, p1⟩ := bool_imp (α := V) (R := Rv G) r1 p1
  exact ⟨t, rfl, p1 w1 _ H1 w1.le_refl lay1 (.bl _)⟩
theorem de_ifExp (hc : DT X G W c tc) (ha : DE X G W a ma) (hb : DE X G W b mb) : DE X G W (.IfExp c a b pos) (eIf tc ma mb) := by
  refine PE.imp (pe_ifExp hc ha hb) ?_
  rintro σ H Q ⟨w, μ, ρ, hl, he, p⟩
  refine tD.seq (k := fun ρ x μ => if x = true then ma ρ μ else mb ρ μ) hl he p fun w1 μ1 H1 v b l1 lay1 en1 r1 p1 => ?_
  have r1 : v = b := r1
  subst r1
  cases v with
  | true => exact ⟨w1, μ1, ρ, lay1, en1, p1⟩
  | false => exact ⟨w1, μ1, ρ, lay1, en1, p1⟩

/-! arguments, calls -/
theorem da_nil : DA X G W [] aNil := by
  refine PA.imp pa_nil ?_
  rintro σ H Q ⟨w, μ, ρ, hl, he, p⟩
  exact p w [] H w.le_refl hl .nil
theorem acons_imp {mr : MA} : ∀ σ H Q, tA G W (aCons ma mr) σ H Q → tCons (tE G W ma) (tA G W mr) σ H Q := by
  rintro σ H Q ⟨w, μ, ρ, hl, he, p⟩
  refine tD.seq (k := fun ρ x μ => (mr ρ μ).bind fun xs μ => .ok (x :: xs) μ) hl he p fun w1 μ1 H1 v b l1 lay1 en1 r1 p1 => ?_
  refine tD.seq (k := fun ρ xs μ => .ok (b :: xs) μ) lay1 en1 p1 fun w2 μ2 H2 vs bs l2 lay2 en2 r2 p2 => ?_
  exact p2 w2 _ H2 w2.le_refl lay2 (.cons (r1.mono l2) r2)
theorem da_cons {mr : MA} (ha : DE X G W e ma) (hr : DA X G W es mr) (hs : starEach (e :: es) X.env = (false, eval e X.env) :: starEach es X.env := by rfl) : DA X G W (e :: es) (aCons ma mr) := PA.imp (pa_cons ha hr hs) acons_imp
theorem args_imp {r : List V → Hp → VK → Prop} {f : OpN} (h : OkN G r f) : ∀ σ H Q, tE G W (eN f mas) σ H Q → tCB r (tA G W mas) σ H Q := by
  rintro σ H Q ⟨w, μ, ρ, hl, he, p⟩
  exact tD.seq (k := fun ρ xs μ => f xs μ) hl he p fun w1 μ1 H1 v b l1 lay1 en1 r1 p1 => h W σ w1 μ1 H1 v b Q lay1 r1 p1
theorem de_callB {id : String} {r : List V → Hp → VK → Prop} {f : OpN} (hc : CallR X (.builtin id) r) (h : OkN G r f) (hg : Gl X x) (hm : X.mg x = none) (hv : bootBuiltins x = some (.builtin id)) (ha : DA X G W (e :: es) mas) (hn : x ≠ "__name__" := by decide) (hdb : (x == ("__debug__" : Str)) = false := by decide)
    (he : starEach (e :: es) X.env = (false, eval e X.env) :: starEach es X.env := by rfl) (hpl : (backTo pos (starEach es X.env)).any (·.1) = false := by rfl) : DE X G W (.Call (.Name x p) (e :: es) [] pos) (eN f mas) :=
  PE.imp (pe_callB hc hg hm hv ha hn hdb he hpl) (args_imp h)
theorem de_callTy {T : String} {r : List V → Hp → VK → Prop} {f : OpN} (hc : CallR X (.type T) r) (h : OkN G r f) (hg : Gl X x) (hm : X.mg x = none) (hv : bootBuiltins x = some (.type T)) (ha : DA X G W (e :: es) mas) (hn : x ≠ "__name__" := by decide) (hdb : (x == ("__debug__" : Str)) = false := by decide)
    (he : starEach (e :: es) X.env = (false, eval e X.env) :: starEach es X.env := by rfl) (hpl : (backTo pos (starEach es X.env)).any (·.1) = false := by rfl) : DE X G W (.Call (.Name x p) (e :: es) [] pos) (eN f mas) :=
  PE.imp (pe_callTy hc hg hm hv ha hn hdb he hpl) (args_imp h)
end

/-! ### a def's promise, its call -/
def PstF (G : GT) (w : Wd) (o : Out Dv) (Q : VK) (E : XK) : Prop :=
  match o with
  | .ok b μ' => ∀ w' v H', w.le w' → Lay G w' μ' H' → Rv G w' v b → Q v H'
  | .ex e μ' => ∀ w' cls d H', w.le w' → Lay G w' μ' H' → ExR G w' H' cls d e → E cls d H'
  | .bad => False
def spD (G : GT) (n : Nat) (F : OpN) : Sp := fun vs H Q E => vs.length = n ∧ ∃ w μ bs, Lay G w μ H ∧ Rvs G w vs bs ∧ PstF G w (F bs μ) Q E
section
variable {X : Cx} {G : GT} {W : WX} {a b c e o : Expr} {es : List Expr} {ma mb mc mo : ME} {mas mks : MA} {pos p : Pos} {x : Str} {k n : Nat} {f : Addr} {fd : FuncData} {ps : List Str} {F : OpN}
theorem call_imp : ∀ σ H Q, tE G W (eN (fun bs μ => if bs.length = n then F bs μ else .bad) mas) σ H Q → tCallSD (spD G n F) [] (WE W) (tA G W mas) σ H Q := by
  rintro σ H Q ⟨w, μ, ρ, hl, he, p⟩
  refine tD.seq (k := fun ρ bs μ => if bs.length = n then F bs μ else .bad) hl he p fun w1 μ1 H1 v b l1 lay1 en1 r1 p1 => ?_
  by_cases q : b.length = n
  · rw [if_pos q] at p1
    rw [List.append_nil]
    refine ⟨by rw [Paired.length r1]; exact q, w1, μ1, b, lay1, r1, ?_⟩
    cases z : F b μ1 with
    | ok c μ2 => rw [z] at p1; exact p1
    | ex c μ2 => rw [z] at p1; exact p1
    | bad => rw [z] at p1; exact p1
  · rw [if_neg q] at p1
    exact p1.elim
def fCall (n : Nat) (F : OpN) : OpN := fun bs μ => if bs.length = n then F bs μ else .bad
theorem de_call (hF : FnOk X.prog X.w X.K X.mg X.base (L2.CX X.prog X.w) k f fd ps (spD G n F)) (hr : Room k X.A) (hg : Gl X x) (hm : X.mg x = some (.ref f)) (hk : PySem.W.keepIn X.K (.ref f) = true) (hb : Binds X.K fd ps []) (tk : Takes X W)
    (ha : DA X G W (e :: es) mas) (hdb : (x == ("__debug__" : Str)) = false := by decide) (he : starEach (e :: es) X.env = (false, eval e X.env) :: starEach es X.env := by rfl) (hpl : (backTo pos (starEach es X.env)).any (·.1) = false := by rfl) :
    DE X G W (.Call (.Name x p) (e :: es) [] pos) (eN (fCall n F) mas) :=
  PE.imp (pe_callSD hF hr hg hm hk hb .nil (fun σ => passAt tk σ) ha hdb he hpl) call_imp
end
end DL

/-! Rules of the data layer: statements, loops, bodies. -/
namespace DL
open PySem PySem.Spec PyProof.Rows L2

def sNext : MS := fun ρ μ => .ok (.nx ρ) μ
def sBreak : MS := fun ρ μ => .ok (.bk ρ) μ
def sCont : MS := fun ρ μ => .ok (.ct ρ) μ
def sBad : MS := fun _ _ => .bad
def sDrop (m : ME) : MS := fun ρ μ => (m ρ μ).bind fun _ μ => .ok (.nx ρ) μ
def sRet (m : ME) : MS := fun ρ μ => (m ρ μ).bind fun b μ => .ok (.rt b) μ
def sRetN : MS := fun _ μ => .ok (.rt (.d .none)) μ
def sIf (c : MT) (a b : MS) : MS := fun ρ μ => (c ρ μ).bind fun x μ => if x = true then a ρ μ else b ρ μ
def seqF (u : MS) : Fl → Store → Out Fl
  | .nx ρ, μ => u ρ μ
  | f, μ => .ok f μ
def sSeq (t u : MS) : MS := fun ρ μ => (t ρ μ).bind (seqF u)
abbrev MG := Dv → DEnv → Store → Out DEnv
abbrev MGs := List Dv → DEnv → Store → Out DEnv
def gN (i : Nat) : MG := fun b ρ μ => .ok (ρ.set i (some b)) μ
def gsNil : MGs := fun bs ρ μ => match bs with
  | [] => .ok ρ μ
  | _ => .bad
def gsCons (g : MG) (r : MGs) : MGs := fun bs ρ μ => match bs with
  | b :: t => (g b ρ μ).bind fun ρ μ => r t ρ μ
  | [] => .bad
def gT (n : Nat) (g : MGs) : MG := fun b ρ μ => match b with
  | .d (.tuple ds) => if ds.length = n then g (ds.map .d) ρ μ else .bad
  | _ => .bad
def Out.gb {β γ : Type} : Out β → (β → Store → Out γ) → Out γ
  | .ok b μ, k => k b μ
  | _, _ => .bad
@[simp] theorem gb_ok {β γ : Type} (b : β) (μ : Store) (k : β → Store → Out γ) : (Out.ok b μ).gb k = k b μ := rfl
def sAsg (m : ME) (g : MG) : MS := fun ρ μ => (m ρ μ).bind fun b μ => (g b ρ μ).gb fun ρ μ => .ok (.nx ρ) μ
def sSet (i : Nat) (m : ME) : MS := fun ρ μ => (m ρ μ).bind fun b μ => .ok (.nx (ρ.set i (some b))) μ
def parF (i j : Nat) (ρ : DEnv) : List Dv → Store → Out Fl
  | [b, c], μ => .ok (.nx ((ρ.set i (some b)).set j (some c))) μ
  | _, _ => .bad
def sPar (i j : Nat) (m : MA) : MS := fun ρ μ => (m ρ μ).bind (parF i j ρ)
def sAug (i : Nat) (m : ME) (f : Op2) : MS := fun ρ μ => match ρ[i]? with
  | some (some x) => (m ρ μ).bind fun y μ => (f x y μ).bind fun z μ => .ok (.nx (ρ.set i (some z))) μ
  | _ => .bad

/-- alike but at some slots -/
def Agr (S : List Nat) (σ σ' : L2.St) : Prop := σ'.length = σ.length ∧ ∀ i, i ∉ S → σ'[i]? = σ[i]?
theorem Agr.refl (σ : L2.St) : Agr [] σ σ := ⟨rfl, fun _ _ => rfl⟩
theorem Agr.trans {S T : List Nat} {a b c : L2.St} (h : Agr S a b) (k : Agr T b c) : Agr (S ++ T) a c :=
  ⟨k.1.trans h.1, fun i hi => (k.2 i fun z => hi (List.mem_append_right _ z)).trans (h.2 i fun z => hi (List.mem_append_left _ z))⟩
theorem Agr.set (σ : L2.St) (i : Nat) (v : Option V) : Agr [i] σ (σ.set i v) := ⟨List.length_set, fun j hj => List.getElem?_set_ne fun e => hj (by rw [e]; exact List.mem_singleton.mpr rfl)⟩
def PstG (G : GT) (w : Wd) (S : List Nat) (σ : L2.St) (o : Out DEnv) (Q : L2.St → Hp → Prop) : Prop :=
  match o with
  | .ok ρ μ' => ∀ w' σ' H', w.le w' → Lay G w' μ' H' → EnvR G w' σ' ρ → Agr S σ σ' → Q σ' H'
  | _ => False
theorem PstG.mono {G : GT} {w w' : Wd} {S : List Nat} {σ : L2.St} {o : Out DEnv} {Q : L2.St → Hp → Prop} (h : w.le w') (p : PstG G w S σ o Q) : PstG G w' S σ o Q := by
  cases o with
  | ok ρ μ => exact fun w2 σ H l => p w2 σ H (h.trans l)
  | ex e μ => exact p
  | bad => exact p
def tG (G : GT) (S : List Nat) (g : MG) : TG := fun v σ H Q => ∃ w μ ρ b, Lay G w μ H ∧ EnvR G w σ ρ ∧ Rv G w v b ∧ PstG G w S σ (g b ρ μ) Q
def tGs (G : GT) (S : List Nat) (g : MGs) : TGs := fun vs σ H Q => ∃ w μ ρ bs, Lay G w μ H ∧ EnvR G w σ ρ ∧ Rvs G w vs bs ∧ PstG G w S σ (g bs ρ μ) Q
abbrev DG (X : Cx) (G : GT) (S : List Nat) (tg : Expr) (g : MG) : Prop := PG X tg (tG G S g)
abbrev DGs (X : Cx) (G : GT) (S : List Nat) (ts : List Expr) (g : MGs) : Prop := PGs X ts (tGs G S g)
theorem PG.imp {X : Cx} {e : Expr} {t t' : TG} (h : PG X e t) (i : ∀ v σ H Q, t' v σ H Q → t v σ H Q) : PG X e t' := ⟨fun p s σ H v u Q I r hw => h.run p s σ H v u Q I r (i _ _ _ _ hw)⟩
theorem PGs.imp {X : Cx} {e : List Expr} {t t' : TGs} (h : PGs X e t) (i : ∀ v σ H Q, t' v σ H Q → t v σ H Q) : PGs X e t' := ⟨fun p s σ H v u Q I r hw => h.run p s σ H v u Q I r (i _ _ _ _ hw)⟩
theorem Rvs_of_RpA {G : GT} {w : Wd} : ∀ {ds : List D} {vs : List V}, RpA G.K w.I vs ds → Rvs G w vs (ds.map .d)
  | _, _, .nil => .nil
  | _, _, .cons r t => .cons r (Rvs_of_RpA t)

section
variable {X : Cx} {G : GT} {W : WX} {a b c e o tg : Expr} {es : List Expr} {ma mb mc mo m : ME} {ta tb tc : MT} {mas : MA} {pos p : Pos} {x : Str} {st : Stmt} {rest body : List Stmt} {ms mt mu mv : MS} {g : MG} {gs : MGs} {S T : List Nat}
theorem dg_name {i : Nat} {x : Str} (hN : X.N.Nodup) (hi : X.N[i]? = some x := by rfl) (hx : Loc X.env.scope x := by first | exact Or.inl rfl | exact Or.inr rfl) (hf : X.fn x = true ∨ X.env.scope.names.lookup x = some .local := by first | exact .inl rfl | exact .inr rfl | assumption) : DG X G [i] (.Name x pos) (gN i) := by
  refine PG.imp (pg_name hN hi hx hf) ?_
  rintro v σ H Q ⟨w, μ, ρ, b, hl, he, r, p⟩
  exact p w _ H w.le_refl hl (he.set i r) (Agr.set σ i _)
theorem dgs_nil : DGs X G [] [] gsNil := by
  refine PGs.imp pgs_nil ?_
  rintro v σ H Q ⟨w, μ, ρ, bs, hl, he, r, p⟩
  cases r with
  | nil => exact ⟨rfl, p w σ H w.le_refl hl he (Agr.refl σ)⟩
  | cons _ _ => exact p.elim
theorem dgs_cons (h1 : DG X G S e g) (h2 : DGs X G T es gs) (hs : (assignEach (e :: es) X.env).map (·.2) = assign e X.env :: (assignEach es X.env).map (·.2) := by rfl) : DGs X G (S ++ T) (e :: es) (gsCons g gs) := by
  refine PGs.imp (pgs_cons h1 h2 hs) ?_
  rintro vs σ H Q ⟨w, μ, ρ, bs, hl, he, r, p⟩
  cases r with
  | nil => exact p.elim
  | @cons v b vs bs rv rr =>
    refine ⟨v, vs, rfl, w, μ, ρ, b, hl, he, rv, ?_⟩
    have p : PstG G w (S ++ T) σ ((g b ρ μ).bind fun ρ μ => gs bs ρ μ) Q := p
    cases q : g b ρ μ with
    | bad => rw [q] at p; exact p.elim
    | ex _ _ => rw [q] at p; exact p.elim
    | ok ρ1 μ1 =>
      rw [q] at p
      have p : PstG G w (S ++ T) σ (gs bs ρ1 μ1) Q := p
      refine fun w1 σ1 H1 l1 lay1 en1 ag => ⟨w1, μ1, ρ1, bs, lay1, en1, Rvs.mono l1 rr, ?_⟩
      cases q2 : gs bs ρ1 μ1 with
      | bad => rw [q2] at p; exact p.elim
      | ex _ _ => rw [q2] at p; exact p.elim
      | ok ρ2 μ2 =>
        rw [q2] at p
        exact fun w2 σ2 H2 l2 lay2 en2 ag2 => p w2 σ2 H2 (l1.trans l2) lay2 en2 (ag.trans ag2)
theorem dg_tup {k n : Nat} (hc : X.calm = true) (hK : X.K = G.K) (h : DGs X G S es gs) (hn : (assignEach es X.env).length = n := by rfl) (hst : (assignEach es X.env).findIdx? (·.1) = none := by rfl) : DG X G S (.Tuple es k pos) (gT n gs) := by
  refine PG.imp (pg_tup hc h hn hst) ?_
  rintro v σ H Q ⟨w, μ, ρ, b, hl, he, r, p⟩
  cases b with
  | d x =>
    cases x with
    | tuple ds =>
      have r : Rp G.K w.I v (.tuple ds) := r
      cases r with
      | @tup a xs _ hs ha =>
        have p : PstG G w S σ (if ds.length = n then gs (ds.map .d) ρ μ else .bad) Q := p
        by_cases q : ds.length = n
        · rw [if_pos q] at p
          exact ⟨a, xs, rfl, by rw [hK]; exact seqT hl.same hs, by rw [ha.length]; exact q, w, μ, ρ, _, hl, he, Rvs_of_RpA ha, p⟩
        · rw [if_neg q] at p
          exact p.elim
    | _ => exact p.elim
  | _ => exact p.elim

theorem dss_nil : DSs X G W [] sNext := by
  refine PSs.imp pss_nil ?_
  rintro D σ H ⟨w, μ, ρ, hl, he, p⟩
  exact p w σ H w.le_refl hl he
theorem seq_imp : ∀ D σ H, tS G W (sSeq ms mt) D σ H → tSeq (tS G W ms) (tS G W mt) D σ H := by
  rintro D σ H ⟨w, μ, ρ, hl, he, p⟩
  refine ⟨w, μ, ρ, hl, he, ?_⟩
  have p : PstS G W w ((ms ρ μ).bind (seqF mt)) D := p
  cases q : ms ρ μ with
  | bad => rw [q] at p; exact p.elim
  | ex e μ1 => rw [q] at p; exact p
  | ok f μ1 =>
    rw [q] at p
    cases f with
    | nx ρ1 => exact fun w1 σ1 H1 l1 lay1 en1 => ⟨w1, μ1, ρ1, lay1, en1, PstS.mono l1 p⟩
    | bk ρ1 => exact p
    | ct ρ1 => exact p
    | rt v => exact p
theorem dss_cons (h1 : DS X G W st ms) (h2 : DSs X G W rest mt) : DSs X G W (st :: rest) (sSeq ms mt) := PSs.imp (pss_cons h1 h2) seq_imp
theorem dss_one (h1 : DS X G W st ms) : DSs X G W [st] ms := pss_one h1
theorem ds_pass : DS X G W (.Pass pos) sNext := by
  refine PS.imp ps_pass ?_
  rintro D σ H ⟨w, μ, ρ, hl, he, p⟩
  exact p w σ H w.le_refl hl he
theorem ds_break : DS X G W (.Break pos) sBreak := by
  refine PS.imp ps_break ?_
  rintro D σ H ⟨w, μ, ρ, hl, he, p⟩
  exact p w σ H w.le_refl hl he
theorem ds_continue : DS X G W (.Continue pos) sCont := by
  refine PS.imp ps_continue ?_
  rintro D σ H ⟨w, μ, ρ, hl, he, p⟩
  exact p w σ H w.le_refl hl he
theorem ds_never : DS X G W st sBad := by
  refine PS.imp ps_never ?_
  rintro D σ H ⟨w, μ, ρ, hl, he, p⟩
  exact p.elim
theorem dss_never : DSs X G W body sBad := by
  refine PSs.imp pss_never ?_
  rintro D σ H ⟨w, μ, ρ, hl, he, p⟩
  exact p.elim
theorem ds_expr (he : DE X G W e m) (hs : swapsWith e none pos.line X.env = pure false := by rfl) : DS X G W (.Expr e pos) (sDrop m) := by
  refine PS.imp (ps_expr he hs) ?_
  rintro D σ H ⟨w, μ, ρ, hl, he, p⟩
  exact tD.seqS (k := fun ρ _ μ => .ok (.nx ρ) μ) hl he p fun w1 μ1 H1 v b l1 lay1 en1 r1 p1 => p1 w1 σ H1 w1.le_refl lay1 en1
theorem ds_ret (he : DE X G W e m) : DS X G W (.Return (some e) pos) (sRet m) := by
  refine PS.imp (ps_ret he) ?_
  rintro D σ H ⟨w, μ, ρ, hl, he, p⟩
  exact tD.seqS (k := fun ρ b μ => .ok (.rt b) μ) hl he p fun w1 μ1 H1 v b l1 lay1 en1 r1 p1 => p1 w1 v H1 w1.le_refl lay1 r1
theorem ds_retN : DS X G W (.Return none pos) sRetN := by
  refine PS.imp ps_retN ?_
  rintro D σ H ⟨w, μ, ρ, hl, he, p⟩
  exact p w .non H w.le_refl hl .non
theorem ds_if {sa sb : List Stmt} (hc : DT X G W c tc) (ha : DSs X G W sa ms) (hb : DSs X G W sb mt) : DS X G W (.If c sa sb pos) (sIf tc ms mt) := by
  refine PS.imp (ps_if hc ha hb) ?_
  rintro D σ H ⟨w, μ, ρ, hl, he, p⟩
  refine tD.seqS (k := fun ρ x μ => if x = true then ms ρ μ else mt ρ μ) hl he p fun w1 μ1 H1 v b l1 lay1 en1 r1 p1 => ?_
  have r1 : v = b := r1
  subst r1
  cases v with
  | true => exact ⟨w1, μ1, ρ, lay1, en1, p1⟩
  | false => exact ⟨w1, μ1, ρ, lay1, en1, p1⟩
theorem asg_imp : ∀ D σ H, tS G W (sAsg m g) D σ H → tAsg (tE G W m) (tG G S g) D σ H := by
  rintro D σ H ⟨w, μ, ρ, hl, he, p⟩
  refine tD.seqS (k := fun ρ b μ => (g b ρ μ).gb fun ρ μ => .ok (.nx ρ) μ) hl he p fun w1 μ1 H1 v b l1 lay1 en1 r1 p1 => ⟨w1, μ1, ρ, b, lay1, en1, r1, ?_⟩
  cases q : g b ρ μ1 with
  | bad => rw [q] at p1; exact p1.elim
  | ex _ _ => rw [q] at p1; exact p1.elim
  | ok ρ2 μ2 =>
    rw [q] at p1
    exact fun w2 σ2 H2 l2 lay2 en2 _ => p1 w2 σ2 H2 l2 lay2 en2
theorem ds_asg (he : DE X G W e m) (hg : DG X G S tg g) (hs : swapsWithSole [tg] e pos.line X.env = pure false := by rfl) (hw : swappedStores [tg] e X.env = pure none := by rfl)
    (h1 : (assignEach [tg] X.env).map (·.2) = [assign tg X.env] := by rfl) : DS X G W (.Assign [tg] e pos) (sAsg m g) := PS.imp (ps_asg he hg hs hw h1) asg_imp
theorem ds_set {i : Nat} {x : Str} {pos' : Pos} (hN : X.N.Nodup) (he : DE X G W e m) (hi : X.N[i]? = some x := by rfl) (hx : Loc X.env.scope x := by first | exact Or.inl rfl | exact Or.inr rfl) (hs : swapsWith e (some (.Name x pos')) pos.line X.env = pure false := by rfl) (hf : X.fn x = true ∨ X.env.scope.names.lookup x = some .local := by first | exact .inl rfl | exact .inr rfl | assumption) :
    DS X G W (.Assign [.Name x pos'] e pos) (sSet i m) := by
  refine PS.imp (ps_set hN hi hx he hs hf) ?_
  rintro D σ H ⟨w, μ, ρ, hl, he, p⟩
  exact tD.seqS (k := fun ρ b μ => .ok (.nx (ρ.set i (some b))) μ) hl he p fun w1 μ1 H1 v b l1 lay1 en1 r1 p1 => p1 w1 _ H1 w1.le_refl lay1 (en1.set i r1)
theorem ds_par {i j : Nat} {x y : Str} {px py pt : Pos} {kt k2 pt2} (hc : X.calm = true) (hN : X.N.Nodup) (ha : DA X G W [a, b] mas) (hi : X.N[i]? = some x := by rfl) (hj : X.N[j]? = some y := by rfl) (hij : i ≠ j := by decide)
    (hx : X.env.scope.names.lookup x = some .local := by rfl) (hy : X.env.scope.names.lookup y = some .local := by rfl)
    (hw : swappedStores [.Tuple [.Name x px, .Name y py] kt pt] (.Tuple [a, b] k2 pt2) X.env = pure (some [x, y]) := by rfl)
    (hs : swapsWithSole [.Tuple [.Name x px, .Name y py] kt pt] (.Tuple [a, b] k2 pt2) pos.line X.env = pure false := by rfl) :
    DS X G W (.Assign [.Tuple [.Name x px, .Name y py] kt pt] (.Tuple [a, b] k2 pt2) pos) (sPar i j mas) := by
  refine PS.imp (ps_par hc hN hi hj hij hx hy ha hw hs) ?_
  rintro D σ H ⟨w, μ, ρ, hl, he, p⟩
  refine tD.seqS (k := parF i j) hl he p fun w1 μ1 H1 vs bs l1 lay1 en1 r1 p1 => ?_
  match bs, r1, p1 with
  | [b, c], .cons r (.cons r' .nil), p1 => exact ⟨_, _, rfl, p1 w1 _ H1 w1.le_refl lay1 ((en1.set i r).set j r')⟩
def OkIp (G : GT) (r : TIp) (f : Op2) : Prop := ∀ (W : WX) (σ : L2.St) (w : Wd) (μ : Store) (H : Hp) (x y : V) (b c : Dv) (Q : VK), Lay G w μ H → Rv G w x b → Rv G w y c → Pst G W σ (Rv G) w (f b c μ) Q → r x y H Q
theorem ds_aug {i : Nat} {x : Str} {op : Operator} {ti : TIp} {f : Op2} {pos' : Pos} (hN : X.N.Nodup) (he : DE X G W e m) (ho : PIp X op ti) (hok : OkIp G ti f) (hi : X.N[i]? = some x := by rfl) (hx : Loc X.env.scope x := by first | exact Or.inl rfl | exact Or.inr rfl) (hf : X.fn x = true ∨ X.env.scope.names.lookup x = some .local := by first | exact .inl rfl | exact .inr rfl | assumption) :
    DS X G W (.AugAssign (.Name x pos') op e pos) (sAug i m f) := by
  refine PS.imp (ps_aug hN hi hx he ho hf) ?_
  rintro D σ H ⟨w, μ, ρ, hl, he, p⟩
  unfold sAug at p
  cases q : ρ[i]? with
  | none => rw [q] at p; exact p.elim
  | some z =>
    cases z with
    | none => rw [q] at p; exact p.elim
    | some b =>
      rw [q] at p
      obtain ⟨v, h1, h2⟩ := he.2 i b q
      refine ⟨v, h1, tD.seqS (k := fun ρ y μ => (f b y μ).bind fun z μ => .ok (.nx (ρ.set i (some z))) μ) hl he p fun w1 μ1 H1 u c l1 lay1 en1 r1 p1 => ?_⟩
      refine hok (fun c d _ H => W c d σ H) σ w1 μ1 H1 v u b c _ lay1 (h2.mono l1) r1 ?_
      cases z : f b c μ1 with
      | bad => rw [z] at p1; exact p1.elim
      | ex e μ2 => rw [z] at p1; exact fun w2 c d H2 l2 lay2 r2 => p1 w2 c d σ H2 l2 lay2 r2
      | ok z μ2 =>
        rw [z] at p1
        exact fun w2 v2 H2 l2 lay2 r2 => p1 w2 _ H2 l2 lay2 ((en1.mono l2).set i r2)

/-! ### loops -/
/-- the items that a loop walks: one by one, from any later state -/
structure ItR (G : GT) (w : Wd) (J : It) (bs : List Dv) : Prop where
  go : ∀ i w' μ H, i < bs.length → w.le w' → Lay G w' μ H → J.go i H
  yld : ∀ i b w' μ H x H', bs[i]? = some b → w.le w' → Lay G w' μ H → J.yld i H x H' → ∃ w2, w'.le w2 ∧ Lay G w2 μ H' ∧ Rv G w2 x b
  stop : ∀ i w' μ H, bs.length ≤ i → w.le w' → Lay G w' μ H → J.stop i H
theorem ItR.mono {G : GT} {w w' : Wd} {J : It} {bs : List Dv} (l : w.le w') (h : ItR G w J bs) : ItR G w' J bs :=
  ⟨fun i w2 μ H hi l2 => h.go i w2 μ H hi (l.trans l2), fun i b w2 μ H x H' e l2 => h.yld i b w2 μ H x H' e (l.trans l2), fun i w2 μ H hi l2 => h.stop i w2 μ H hi (l.trans l2)⟩
abbrev MI := DEnv → Store → Out (List Dv)
def PstI (G : GT) (W : WX) (σ : L2.St) (w : Wd) (o : Out (List Dv)) (R : It → Hp → Prop) : Prop := Pst G W σ (fun w (J : It) bs => ItR G w J bs) w o R
def tI (G : GT) (W : WX) (mi : MI) : TI := tD G W (fun w (J : It) bs => ItR G w J bs) mi
abbrev DI (X : Cx) (G : GT) (W : WX) (tg iter : Expr) (mi : MI) : Prop := PI X tg iter (tI G W mi)
theorem PI.imp {X : Cx} {tg e : Expr} {t t' : TI} (h : PI X tg e t) (i : ∀ σ H Q, t' σ H Q → t σ H Q) : PI X tg e t' := ⟨fun p s σ H Q I hw => h.run p s σ H Q I (i _ _ _ hw)⟩
def forL (g : MG) (mb : MS) : List Dv → DEnv → Store → Out Fl
  | [], ρ, μ => .ok (.nx ρ) μ
  | b :: bs, ρ, μ => (g b ρ μ).gb fun ρ μ => (mb ρ μ).bind fun f μ => match f with
    | .nx ρ => forL g mb bs ρ μ
    | .ct ρ => forL g mb bs ρ μ
    | .bk ρ => .ok (.nx ρ) μ
    | .rt v => .ok (.rt v) μ
def sFor (mi : MI) (g : MG) (mb : MS) : MS := fun ρ μ => (mi ρ μ).bind fun bs μ => forL g mb bs ρ μ
theorem for_imp {mi : MI} {mb : MS} : ∀ D σ H, tS G W (sFor mi g mb) D σ H → tFor (tI G W mi) (tG G S g) (tS G W mb) D σ H := by
  rintro D σ H ⟨w, μ, ρ, hl, he, p⟩
  refine tD.seqS (k := fun ρ bs μ => forL g mb bs ρ μ) hl he p fun w1 μ1 H1 J bs l1 lay1 en1 it p1 => ?_
  refine ⟨fun i m σ H => m = bs.length - i ∧ i ≤ bs.length ∧ ∃ w2 μ2 ρ2, w1.le w2 ∧ Lay G w2 μ2 H ∧ EnvR G w2 σ ρ2 ∧ PstS G W w2 (forL g mb (bs.drop i) ρ2 μ2) D, ⟨bs.length, by simp, Nat.zero_le _, w1, μ1, ρ, w1.le_refl, lay1, en1, p1⟩, ?_⟩
  rintro i m σ2 H2 ⟨rfl, hi, w2, μ2, ρ2, l2, lay2, en2, p2⟩
  by_cases hlt : i < bs.length
  · refine .inr ⟨it.go i w2 μ2 H2 hlt l2 lay2, fun σ H => ∃ w3 μ3 ρ3, w1.le w3 ∧ Lay G w3 μ3 H ∧ EnvR G w3 σ ρ3 ∧ PstS G W w3 (forL g mb (bs.drop (i + 1)) ρ3 μ3) D, fun σ' H' q => ⟨bs.length - (i + 1), by omega, rfl, hlt, q⟩, fun x H' y => ?_⟩
    have eb : bs[i]? = some bs[i] := by simp [hlt]
    obtain ⟨w3, l3, lay3, r3⟩ := it.yld i _ w2 μ2 H2 x H' eb l2 lay2 y
    refine ⟨w3, μ2, ρ2, bs[i], lay3, en2.mono l3, r3, ?_⟩
    rw [List.drop_eq_getElem_cons hlt] at p2
    have p2 := PstS.mono l3 p2
    unfold forL at p2
    cases q : g bs[i] ρ2 μ2 with
    | bad => rw [q] at p2; exact p2.elim
    | ex _ _ => rw [q] at p2; exact p2.elim
    | ok ρ4 μ4 =>
      rw [q] at p2
      intro w4 σ4 H4 l4 lay4 en4 _
      refine ⟨w4, μ4, ρ4, lay4, en4, ?_⟩
      have p4 : PstS G W w4 ((mb ρ4 μ4).bind fun f μ => match f with
        | .nx ρ => forL g mb (bs.drop (i + 1)) ρ μ
        | .ct ρ => forL g mb (bs.drop (i + 1)) ρ μ
        | .bk ρ => .ok (.nx ρ) μ
        | .rt v => .ok (.rt v) μ) D := PstS.mono l4 p2
      have l14 : w1.le w4 := (l2.trans l3).trans l4
      cases q5 : mb ρ4 μ4 with
      | bad => rw [q5] at p4; exact p4.elim
      | ex e μ5 => rw [q5] at p4; exact p4
      | ok f μ5 =>
        rw [q5] at p4
        cases f with
        | nx ρ5 => exact fun w5 σ5 H5 l5 lay5 en5 => ⟨w5, μ5, ρ5, l14.trans l5, lay5, en5, PstS.mono l5 p4⟩
        | ct ρ5 => exact fun w5 σ5 H5 l5 lay5 en5 => ⟨w5, μ5, ρ5, l14.trans l5, lay5, en5, PstS.mono l5 p4⟩
        | bk ρ5 => exact p4
        | rt v => exact p4
  · refine .inl ⟨it.stop i w2 μ2 H2 (by omega) l2 lay2, ?_⟩
    rw [List.drop_of_length_le (by omega)] at p2
    exact p2 w2 σ2 H2 w2.le_refl lay2 en2
theorem ds_for {iter : Expr} {mi : MI} {mb : MS} (hp : PassesOwn (model X.prog X.w) X.A X.env X.xe) (hc : X.calm = true) (hi : DI X G W tg iter mi) (hg : DG X G S tg g) (hb : DSs X G W body mb)
    (hs : ∀ x, foldedSetIterable iter X.env x = pure x := by intro _; rfl) : DS X G W (.For tg iter body [] pos) (sFor mi g mb) := PS.imp (ps_for hp hc hi hg hb hs) for_imp
/-- a while, with as much fuel as is told -/
def whileL (c : MT) (mb : MS) : Nat → DEnv → Store → Out Fl
  | 0, _, _ => .bad
  | n + 1, ρ, μ => (c ρ μ).bind fun k μ => if k = true then (mb ρ μ).bind fun f μ => match f with
    | .nx ρ => whileL c mb n ρ μ
    | .ct ρ => whileL c mb n ρ μ
    | .bk ρ => .ok (.nx ρ) μ
    | .rt v => .ok (.rt v) μ
    else .ok (.nx ρ) μ
theorem while_imp {mb : MS} {n : Nat} : ∀ D σ H, tS G W (whileL tc mb n) D σ H → tWhile (tT G W tc) (tS G W mb) D σ H := by
  rintro D σ H ⟨w, μ, ρ, hl, he, p⟩
  refine ⟨fun m σ H => ∃ w μ ρ, Lay G w μ H ∧ EnvR G w σ ρ ∧ PstS G W w (whileL tc mb m ρ μ) D, ⟨n, w, μ, ρ, hl, he, p⟩, ?_⟩
  rintro m σ1 H1 ⟨w1, μ1, ρ1, lay1, en1, p1⟩
  cases m with
  | zero => exact p1.elim
  | succ m =>
    unfold whileL at p1
    refine tD.seqS (k := fun ρ k μ => if k = true then (mb ρ μ).bind fun f μ => match f with
    | .nx ρ => whileL tc mb m ρ μ
    | .ct ρ => whileL tc mb m ρ μ
    | .bk ρ => .ok (.nx ρ) μ
    | .rt v => .ok (.rt v) μ
    else .ok (.nx ρ) μ) lay1 en1 p1 fun w2 μ2 H2 v b l2 lay2 en2 r2 p2 => ?_
    have r2 : v = b := r2
    subst r2
    cases v with
    | false => exact p2 w2 σ1 H2 w2.le_refl lay2 en2
    | true =>
      refine ⟨fun σ H => ∃ w μ ρ, Lay G w μ H ∧ EnvR G w σ ρ ∧ PstS G W w (whileL tc mb m ρ μ) D, fun σ' H' q => ⟨m, Nat.lt_succ_self _, q⟩, w2, μ2, ρ1, lay2, en2, ?_⟩
      rw [if_pos rfl] at p2
      cases q5 : mb ρ1 μ2 with
      | bad => rw [q5] at p2; exact p2.elim
      | ex e μ5 => rw [q5] at p2; exact p2
      | ok f μ5 =>
        rw [q5] at p2
        cases f with
        | nx ρ5 => exact fun w5 σ5 H5 l5 lay5 en5 => ⟨w5, μ5, ρ5, lay5, en5, PstS.mono l5 p2⟩
        | ct ρ5 => exact fun w5 σ5 H5 l5 lay5 en5 => ⟨w5, μ5, ρ5, lay5, en5, PstS.mono l5 p2⟩
        | bk ρ5 => exact p2
        | rt v => exact p2
theorem ds_while {c : Expr} {mb : MS} (n : Nat) (hp : PassesOwn (model X.prog X.w) X.A X.env X.xe) (hc : DT X G W c tc) (hb : DSs X G W body mb) : DS X G W (.While c body [] pos) (whileL tc mb n) := PS.imp (ps_while hp hc hb) while_imp
end

/-! ### a def by its body -/
def runB (n : Nat) (B : MS) : OpN := fun bs μ => match B (bs.map some ++ List.replicate (n - bs.length) none) μ with
  | .ok (.nx _) μ' => .ok (.d .none) μ'
  | .ok (.rt b) μ' => .ok b μ'
  | .ok _ _ => .bad
  | .ex e μ' => .ex e μ'
  | .bad => .bad
theorem env_start {G : GT} {w : Wd} {N : List Str} : ∀ {vs : List V} {bs : List Dv}, Rvs G w vs bs → EnvR G w (L2.start N vs) (bs.map some ++ List.replicate (N.length - bs.length) none) := fun {vs bs} r => by
  have hl := Paired.length r
  unfold L2.start
  refine ⟨by simp [hl], fun i b q => ?_⟩
  by_cases hi : i < bs.length
  · rw [List.getElem?_append_left (by simpa using hi), List.getElem?_map] at q
    rw [List.getElem?_append_left (by simpa [hl] using hi), List.getElem?_map]
    cases e : bs[i]? with
    | none => rw [e] at q; cases q
    | some c =>
      rw [e] at q
      cases q
      have : ∀ {vs : List V} {bs : List Dv} {i : Nat}, Rvs G w vs bs → bs[i]? = some b → ∃ v, vs[i]? = some v ∧ Rv G w v b := by
        intro vs bs i r
        induction r generalizing i with
        | nil => intro h; simp at h
        | cons r t ih =>
          intro h
          cases i with
          | zero => simp at h; subst h; exact ⟨_, rfl, r⟩
          | succ i => exact ih (by simpa using h)
      obtain ⟨v, h1, h2⟩ := this r e
      exact ⟨v, by rw [h1]; rfl, h2⟩
  · rw [List.getElem?_append_right (by simpa using hi), List.getElem?_replicate] at q
    split at q <;> cases q
section
variable {P : Program} {w : World} {G : GT} {mg : Str → Option Value} {base : Heap}
/-- THE RULE for a def -/
theorem fn_ok {x qual : Str} {st : Stmt} {f : Addr} {fd : FuncData} {N ps : List Str} {k : Nat} {B : MS} (F : Fun G.K x qual st f fd) (S : FnScope N ps (defScope st))
    (hB : ∀ (cdv : Value) (A : Around) (outer : List Env) (s : Shared) (H : Hp) (E : XK), Room k (A.deeper (envOfC qual (defScope st) s.heap.objs.size f cdv)) →
      Takes (cxOf (L2.CX P w) P w G.K mg base N qual (defScope st) f cdv A outer s H E) (fun cls d _ H => E cls d H) →
      PassesOwn (model P w) (A.deeper (envOfC qual (defScope st) s.heap.objs.size f cdv)) (cxOf (L2.CX P w) P w G.K mg base N qual (defScope st) f cdv A outer s H E).env (cxOf (L2.CX P w) P w G.K mg base N qual (defScope st) f cdv A outer s H E).xe →
      DSs (cxOf (L2.CX P w) P w G.K mg base N qual (defScope st) f cdv A outer s H E) G (fun cls d _ H => E cls d H) (defBody st) B) :
    FnOk P w G.K mg base (L2.CX P w) (k + 1) f fd ps (spD G ps.length (runB N.length B)) := by
  refine F.okX S (fun vs H Q E h => h.1) fun cdv A outer s H vs Q E hr h => ?_
  obtain ⟨hn, w0, μ, bs, lay, r, p⟩ := h
  have tk : Takes (cxOf (L2.CX P w) P w G.K mg base N qual (defScope st) f cdv A outer s H E) (fun cls d _ H => E cls d H) := takes_of rfl rfl rfl rfl
  refine ⟨_, hB cdv A outer s H E hr tk (passes_of rfl), w0, μ, _, lay, env_start r, ?_⟩
  unfold runB at p
  cases q : B (bs.map some ++ List.replicate (N.length - bs.length) none) μ with
  | bad => rw [q] at p; exact p.elim
  | ex e μ' =>
    rw [q] at p
    exact fun w' cls d _ H' l lay' r' => p w' cls d H' l lay' r'
  | ok fl μ' =>
    rw [q] at p
    cases fl with
    | nx ρ => exact fun w' σ' H' l lay' _ => p w' .non H' l lay' .non
    | rt b => exact p
    | bk ρ => exact p.elim
    | ct ρ => exact p.elim
end
end DL

/-! Rules of the data layer: displays, comprehensions, cells. -/
namespace DL
open PySem PySem.Spec PyProof.Rows L2

def allD : List Dv → Option (List D)
  | [] => some []
  | .d x :: r => match allD r with
    | some xs => some (x :: xs)
    | none => none
  | _ :: _ => none
theorem allD_map : ∀ ds : List D, allD (ds.map .d) = some ds
  | [] => rfl
  | d :: ds => by simp [allD, allD_map ds]
theorem allD_eq : ∀ {bs : List Dv} {ds : List D}, allD bs = some ds → bs = ds.map .d
  | [], _, h => by cases h; rfl
  | .d x :: r, _, h => by
    unfold allD at h
    cases q : allD r with
    | none => rw [q] at h; cases h
    | some xs => rw [q] at h; cases h; rw [allD_eq q]; rfl
  | .c _ :: _, _, h => by cases h
  | .f _ :: _, _, h => by cases h
theorem RpA_of_Rvs {G : GT} {w : Wd} : ∀ {vs : List V} {ds : List D}, Rvs G w vs (ds.map .d) → RpA G.K w.I vs ds
  | _, [], h => by cases h; exact .nil
  | _, d :: ds, h => by
    cases h with
    | cons r t => exact .cons r (RpA_of_Rvs t)

/-! ### worlds -/
theorem ne_mem {l : List Addr} {a p : Addr} (h : a ∈ l) (n : p ∉ l) : a ≠ p := fun z => n (z ▸ h)
theorem ne_get {l : List Addr} {a p : Addr} {i : Nat} (h : l[i]? = some a) (n : p ∉ l) : a ≠ p := ne_mem (List.mem_of_getElem? h) n
theorem Rv.cong {G : GT} {w w' : Wd} (hI : w'.I = w.I) (hα : w'.α = w.α) {v : V} : ∀ {b : Dv}, Rv G w v b → Rv G w' v b
  | .d _, r => by unfold Rv at r ⊢; rw [hI]; exact r
  | .c _, r => by unfold Rv at r ⊢; rw [hα]; exact r
  | .f _, r => r
theorem Rvs.cong {G : GT} {w w' : Wd} (hI : w'.I = w.I) (hα : w'.α = w.α) : ∀ {vs : List V} {bs : List Dv}, Rvs G w vs bs → Rvs G w' vs bs
  | _, _, .nil => .nil
  | _, _, .cons r t => .cons (Rv.cong hI hα r) (Rvs.cong hI hα t)
theorem EnvR.cong {G : GT} {w w' : Wd} (hI : w'.I = w.I) (hα : w'.α = w.α) {σ : L2.St} {ρ : DEnv} (e : EnvR G w σ ρ) : EnvR G w' σ ρ :=
  ⟨e.1, fun i b q => let ⟨v, h1, h2⟩ := e.2 i b q; ⟨v, h1, Rv.cong hI hα h2⟩⟩
theorem CellAt.cong {G : GT} {w w' : Wd} {H H' : Hp} {a : Addr} (hI : w.I a = none → w'.I a = none) (le : Same w.I w'.I ∧ w.α <+: w'.α) (hH : H' a = H a) : ∀ {c : Cell}, CellAt G w H a c → CellAt G w' H' a c := by
  have rv : ∀ {v b}, Rv G w v b → Rv G w' v b := fun {v b} r => by
    cases b with
    | d x => exact Rp.mono le.1 _ _ r
    | c n => obtain ⟨a, e, q⟩ := r; exact ⟨a, pre_get le.2 e, q⟩
    | f n => exact r
  intro c h
  cases c with
  | lst xs =>
    obtain ⟨h1, vs, h2, h3⟩ := h
    exact ⟨hI h1, vs, by rw [hH]; exact h2, Paired.imp (fun _ _ => rv) h3⟩
  | dic kvs =>
    obtain ⟨h1, vs, h2, h3⟩ := h
    exact ⟨hI h1, vs, by rw [hH]; exact h2, Paired.imp (fun _ _ z => ⟨z.1, rv z.2⟩) h3⟩
  | dT kvs =>
    obtain ⟨h1, vs, h2, h3⟩ := h
    exact ⟨hI h1, vs, by rw [hH]; exact h2, Paired.imp (fun _ _ z => ⟨z.1, rv z.2⟩) h3⟩
  | obj C fs => exact h.elim
  | dead => trivial
section
variable {G : GT} {w : Wd} {μ : Store} {H : Hp}
theorem Lay.na (l : Lay G w μ H) {p : Addr} (np : H p = none) : w.I p = none ∧ p ∉ w.α ∧ w.F p = none := by
  refine ⟨l.same.free np, fun hm => ?_, l.fr.free np⟩
  obtain ⟨o, e⟩ := l.lv p hm
  rw [np] at e
  cases e
/-- an object of no concern -/
theorem Lay.other (l : Lay G w μ H) {p : Addr} (h1 : w.I p = none) (h2 : p ∉ w.α) (h3 : w.F p = none) (o : HO) : Lay G w μ (upd H p o) where
  same := fun b u e => by rw [upd_ne (fun z => by rw [z, h1] at e; cases e)]; exact l.same b u e
  len := l.len
  nd := l.nd
  lv := fun a ha => by rw [upd_ne (ne_mem ha h2)]; exact l.lv a ha
  fr := fun b u e => by rw [upd_ne (fun z => by rw [z, h3] at e; cases e)]; exact l.fr b u e
  fd := l.fd
  di := l.di
  at_ := fun n c a e q => (l.at_ n c a e q).cong (fun z => z) ⟨Same.refl _, List.prefix_refl _⟩ (upd_ne (ne_get q h2))
abbrev Wd.put (w : Wd) (p : Addr) (o : HO) : Wd := ⟨upd w.I p o, w.α, w.F⟩
theorem same_upd {I : Hp} {p : Addr} {o : HO} (n : I p = none) : Same I (upd I p o) := fun b u e => by rw [upd_ne (ne_of_none e n)]; exact e
/-- a new object, frozen at once -/
theorem Lay.new (l : Lay G w μ H) {p : Addr} (np : H p = none) (o : HO) : w.le (w.put p o) ∧ Lay G (w.put p o) μ (upd H p o) := by
  obtain ⟨h1, h2, h3⟩ := l.na np
  have l2 := l.other h1 h2 h3 o
  refine ⟨⟨same_upd h1, List.prefix_refl _, Same.refl _⟩, fun b u e => ?_, l2.len, l2.nd, l2.lv, l2.fr, l2.fd, fun a u e => ?_, fun n c a e q => ?_⟩
  · by_cases z : b = p
    · subst z; have e : upd w.I b o b = some u := e; rw [upd_same] at e; rw [upd_same]; exact e
    · have e : upd w.I p o b = some u := e
      rw [upd_ne z] at e; exact l2.same b u e
  · have : a ≠ p := fun z => by rw [z, h3] at e; cases e
    show upd w.I p o a = none
    rw [upd_ne this]; exact l.di a u e
  · have ap : a ≠ p := ne_get q h2
    exact CellAt.cong (w' := w.put p o) (fun z => by show upd w.I p o a = none; rw [upd_ne ap]; exact z) ⟨same_upd h1, List.prefix_refl _⟩ rfl (l2.at_ n c a e q)
abbrev Wd.ext (w : Wd) (p : Addr) : Wd := ⟨w.I, w.α ++ [p], w.F⟩
/-- a new object, a cell -/
theorem Lay.cell (l : Lay G w μ H) {p : Addr} (np : H p = none) {o : HO} {c : Cell} (hc : ∀ H', H' p = some o → CellAt G (w.ext p) H' p c) : w.le (w.ext p) ∧ Lay G (w.ext p) (μ ++ [c]) (upd H p o) := by
  obtain ⟨h1, h2, h3⟩ := l.na np
  have l2 := l.other h1 h2 h3 o
  refine ⟨⟨Same.refl _, List.prefix_append _ _, Same.refl _⟩, l2.same, by simp [l2.len], ?_, fun a ha => ?_, l2.fr, fun a ha => ?_, l2.di, fun n c' a e q => ?_⟩
  · refine List.nodup_append.mpr ⟨l.nd, by simp, fun a ha b hb => ?_⟩
    simp at hb
    subst hb
    exact ne_mem ha h2
  · rcases List.mem_append.mp ha with ha | ha
    · exact l2.lv a ha
    · simp at ha; subst ha; exact ⟨o, upd_same⟩
  · rcases List.mem_append.mp ha with ha | ha
    · exact l2.fd a ha
    · simp at ha; subst ha; exact h3
  · by_cases hn : n < μ.length
    · rw [List.getElem?_append_left hn] at e
      have q : (w.α ++ [p])[n]? = some a := q
      rw [List.getElem?_append_left (by rw [l.len]; exact hn)] at q
      exact CellAt.cong (w := w) (w' := w.ext p) (fun z => z) ⟨Same.refl _, List.prefix_append _ _⟩ rfl (l2.at_ n c' a e q)
    · have hn' : n = μ.length := by
        have := (List.getElem?_eq_some_iff.mp e).1
        simp at this
        omega
      subst hn'
      have q : (w.α ++ [p])[μ.length]? = some a := q
      rw [← l.len, List.getElem?_append_right (Nat.le_refl _)] at q
      rw [List.getElem?_append_right (Nat.le_refl _)] at e
      simp at q e
      subst q e
      exact hc _ upd_same
abbrev Wd.priv (w : Wd) (p : Addr) (o : HO) : Wd := ⟨w.I, w.α, upd w.F p o⟩
abbrev Wd.unp (w : Wd) (p : Addr) : Wd := ⟨w.I, w.α, fun b => if b = p then none else w.F b⟩
theorem Lay.priv (l : Lay G w μ H) {p : Addr} {o : HO} (h1 : w.I p = none) (h2 : p ∉ w.α) (h3 : w.F p = none) (e : H p = some o) : w.le (w.priv p o) ∧ Lay G (w.priv p o) μ H := by
  refine ⟨⟨Same.refl _, List.prefix_refl _, same_upd h3⟩, l.same, l.len, l.nd, l.lv, fun b u q => ?_, fun a ha => ?_, fun a u q => ?_, fun n c a e' q => (l.at_ n c a e' q).cong (fun z => z) ⟨Same.refl _, List.prefix_refl _⟩ rfl⟩
  · by_cases z : b = p
    · subst z; have q : upd w.F b o b = some u := q; rw [upd_same] at q; rw [← q]; exact e
    · have q : upd w.F p o b = some u := q; rw [upd_ne z] at q; exact l.fr b u q
  · show upd w.F p o a = none
    rw [upd_ne (ne_mem ha h2)]; exact l.fd a ha
  · by_cases z : a = p
    · subst z; exact h1
    · have q : upd w.F p o a = some u := q; rw [upd_ne z] at q; exact l.di a u q
/-- the private object is written, and private no more -/
theorem Lay.unp {w0 : Wd} (l : Lay G w μ H) {p : Addr} {o : HO} (le : (w0.priv p o).le w) (h3 : w0.F p = none) (o' : HO) : w0.le (w.unp p) ∧ Lay G (w.unp p) μ (upd H p o') ∧ H p = some o ∧ w.I p = none ∧ p ∉ w.α := by
  have hF : w.F p = some o := le.2.2 p o upd_same
  have hI : w.I p = none := l.di p o hF
  have hα : p ∉ w.α := fun hm => by have := l.fd p hm; rw [hF] at this; cases this
  have w0F : ∀ b u, w0.F b = some u → b ≠ p := fun b u e z => by rw [z, h3] at e; cases e
  refine ⟨⟨le.1, le.2.1, fun b u e => ?_⟩, ⟨fun b u e => ?_, l.len, l.nd, fun a ha => ?_, fun b u e => ?_, fun a ha => ?_, fun a u e => ?_, fun n c a e q => ?_⟩, l.fr p o hF, hI, hα⟩
  · show (if b = p then none else w.F b) = some u
    rw [if_neg (w0F b u e)]
    exact le.2.2 b u (by show upd w0.F p o b = some u; rw [upd_ne (w0F b u e)]; exact e)
  · rw [upd_ne (fun z => by have e : w.I b = some u := e; rw [z, hI] at e; cases e)]; exact l.same b u e
  · rw [upd_ne (ne_mem ha hα)]; exact l.lv a ha
  · have e : (if b = p then none else w.F b) = some u := e
    by_cases z : b = p
    · rw [if_pos z] at e; cases e
    · rw [if_neg z] at e; rw [upd_ne z]; exact l.fr b u e
  · show (if a = p then none else w.F a) = none
    split
    · rfl
    · exact l.fd a ha
  · have e : (if a = p then none else w.F a) = some u := e
    by_cases z : a = p
    · rw [if_pos z] at e; cases e
    · rw [if_neg z] at e; exact l.di a u e
  · exact (l.at_ n c a e q).cong (fun z => z) ⟨Same.refl _, List.prefix_refl _⟩ (upd_ne (ne_get q hα))
end

/-! ### displays -/
def dList (bs : List Dv) (μ : Store) : Out Dv := match allD bs with
  | some ds => if ds.length ≤ sizeLine then .ok (.d (.list ds)) μ else .bad
  | none => .bad
def dTup (bs : List Dv) (μ : Store) : Out Dv := match allD bs with
  | some ds => if ds.length ≤ sizeLine then .ok (.d (.tuple ds)) μ else .bad
  | none => .bad
/-- a new list that may be changed -/
def cList (bs : List Dv) (μ : Store) : Out Dv := if bs.length ≤ sizeLine then .ok (.c μ.length) (μ ++ [.lst bs]) else .bad
section
variable {X : Cx} {G : GT} {W : WX} {es : List Expr} {mas : MA} {pos : Pos} {σ : L2.St} {w : Wd} {μ : Store} {H : Hp} {Q : VK}
theorem list_new {xs : List V} {bs : List Dv} (l : Lay G w μ H) (r : Rvs G w xs bs) (p : Pst G W σ (Rv G) w (dList bs μ) Q) : xs.length ≤ sizeLine ∧ ∀ a, H a = none → Q (.ref a) (upd H a (.lst xs)) := by
  unfold dList at p
  cases q : allD bs with
  | none => rw [q] at p; exact p.elim
  | some ds =>
    rw [q] at p
    have p : Pst G W σ (Rv G) w (if ds.length ≤ sizeLine then .ok (.d (.list ds)) μ else .bad) Q := p
    by_cases z : ds.length ≤ sizeLine
    · rw [if_pos z] at p
      rw [allD_eq q] at r
      have ra := RpA_of_Rvs r
      refine ⟨by rw [ra.length]; exact z, fun a na => ?_⟩
      obtain ⟨le, l2⟩ := l.new na (.lst xs)
      exact p _ (.ref a) _ le l2 (.lst (SqL.of upd_same) (RpA.mono le.1 _ _ ra))
    · rw [if_neg z] at p
      exact p.elim
theorem tup_new {xs : List V} {bs : List Dv} (l : Lay G w μ H) (r : Rvs G w xs bs) (p : Pst G W σ (Rv G) w (dTup bs μ) Q) : xs.length ≤ sizeLine ∧ ∀ a, H a = none → Q (.ref a) (upd H a (.tup xs)) := by
  unfold dTup at p
  cases q : allD bs with
  | none => rw [q] at p; exact p.elim
  | some ds =>
    rw [q] at p
    have p : Pst G W σ (Rv G) w (if ds.length ≤ sizeLine then .ok (.d (.tuple ds)) μ else .bad) Q := p
    by_cases z : ds.length ≤ sizeLine
    · rw [if_pos z] at p
      rw [allD_eq q] at r
      have ra := RpA_of_Rvs r
      refine ⟨by rw [ra.length]; exact z, fun a na => ?_⟩
      obtain ⟨le, l2⟩ := l.new na (.tup xs)
      exact p _ (.ref a) _ le l2 (.tup (SqT.of upd_same) (RpA.mono le.1 _ _ ra))
    · rw [if_neg z] at p
      exact p.elim
theorem list_cell {xs : List V} {bs : List Dv} (l : Lay G w μ H) (r : Rvs G w xs bs) (p : Pst G W σ (Rv G) w (cList bs μ) Q) : xs.length ≤ sizeLine ∧ ∀ a, H a = none → Q (.ref a) (upd H a (.lst xs)) := by
  unfold cList at p
  by_cases z : bs.length ≤ sizeLine
  · rw [if_pos z] at p
    refine ⟨by rw [Paired.length r]; exact z, fun a na => ?_⟩
    obtain ⟨h1, h2, h3⟩ := l.na na
    have le : w.le (w.ext a) := ⟨Same.refl _, List.prefix_append _ _, Same.refl _⟩
    obtain ⟨_, l2⟩ := l.cell na (o := .lst xs) (c := .lst bs) fun H' e => ⟨h1, xs, e, r.mono le⟩
    exact p _ (.ref a) _ le l2 ⟨a, by show (w.α ++ [a])[μ.length]? = some a; rw [← l.len]; simp, rfl⟩
  · rw [if_neg z] at p
    exact p.elim
theorem de_lst (ha : DA X G W es mas) : DE X G W (.List es pos) (eN dList mas) := by
  refine PE.imp (pe_lst ha) ?_
  rintro σ H Q ⟨w, μ, ρ, hl, he, p⟩
  exact tD.seq (k := fun ρ xs μ => dList xs μ) hl he p fun w1 μ1 H1 v b l1 lay1 en1 r1 p1 => list_new lay1 r1 p1
theorem de_lstC (ha : DA X G W es mas) : DE X G W (.List es pos) (eN cList mas) := by
  refine PE.imp (pe_lst ha) ?_
  rintro σ H Q ⟨w, μ, ρ, hl, he, p⟩
  exact tD.seq (k := fun ρ xs μ => cList xs μ) hl he p fun w1 μ1 H1 v b l1 lay1 en1 r1 p1 => list_cell lay1 r1 p1
theorem de_tup {x1} (ha : DA X G W es mas) : DE X G W (.Tuple es x1 pos) (eN dTup mas) := by
  refine PE.imp (pe_tup ha) ?_
  rintro σ H Q ⟨w, μ, ρ, hl, he, p⟩
  exact tD.seq (k := fun ρ xs μ => dTup xs μ) hl he p fun w1 μ1 H1 v b l1 lay1 en1 r1 p1 => tup_new lay1 r1 p1
end

/-! ### comprehensions -/
abbrev W0 : WX := fun _ _ _ _ => False
def wipeD (ρ : DEnv) : List Nat → DEnv
  | [] => ρ
  | v :: vs => (wipeD ρ vs).set v none
def tYesM : MT := fun _ μ => .ok true μ
def lcM (g : MG) (tt : MT) (te : ME) (ρ : DEnv) : List Dv → Store → Out (List Dv)
  | [], μ => .ok [] μ
  | b :: bs, μ => (g b ρ μ).gb fun ρ' μ => (tt ρ' μ).gb fun k μ => if k = true then (te ρ' μ).gb fun y μ => (lcM g tt te ρ bs μ).gb fun ys μ => .ok (y :: ys) μ else lcM g tt te ρ bs μ
def lcF (fin : OpN) (g : MG) (tt : MT) (te : ME) (vs : List Nat) (ρ : DEnv) (bs : List Dv) (μ : Store) : Out Dv :=
  if bs.length ≤ sizeLine then (lcM g tt te (wipeD ρ vs) bs μ).gb fin else .bad
def eLc (fin : OpN) (mi : MI) (g : MG) (tt : MT) (te : ME) (vs : List Nat) : ME := fun ρ μ => (mi ρ μ).bind fun bs μ => lcF fin g tt te vs ρ bs μ
theorem wipe_get (σ : L2.St) (i : Nat) : ∀ vs : List Nat, (wipe σ vs)[i]? = if i ∈ vs ∧ i < σ.length then some none else σ[i]?
  | [] => by simp [wipe]
  | v :: vs => by
    unfold wipe
    by_cases h : v = i
    · subst h
      by_cases hl : v < σ.length
      · rw [List.getElem?_set_self (by rw [wipe_length]; exact hl), if_pos ⟨by simp, hl⟩]
      · rw [List.getElem?_eq_none (by rw [List.length_set, wipe_length]; omega), if_neg (fun z => hl z.2), List.getElem?_eq_none (by omega)]
    · rw [List.getElem?_set_ne h, wipe_get σ i vs]
      have : (i ∈ v :: vs ∧ i < σ.length) ↔ (i ∈ vs ∧ i < σ.length) := by
        simp only [List.mem_cons]
        constructor
        · rintro ⟨a | a, b⟩
          · exact absurd a.symm h
          · exact ⟨a, b⟩
        · rintro ⟨a, b⟩
          exact ⟨.inr a, b⟩
      simp only [this]
theorem wipe_agr {S vs : List Nat} {σ σ' : L2.St} (h : Agr S (wipe σ vs) σ') (hs : ∀ i ∈ S, i ∈ vs) : wipe σ' vs = wipe σ vs := by
  have hl : σ'.length = σ.length := by rw [h.1, wipe_length]
  apply List.ext_getElem?
  intro i
  rw [wipe_get, wipe_get, hl]
  by_cases z : i ∈ vs ∧ i < σ.length
  · rw [if_pos z, if_pos z]
  · rw [if_neg z, if_neg z]
    by_cases hi : i ∈ S
    · have : ¬ i < σ.length := fun q => z ⟨hs i hi, q⟩
      rw [List.getElem?_eq_none (by omega), List.getElem?_eq_none (by omega)]
    · rw [h.2 i hi, wipe_get, if_neg z]
theorem EnvR.wipe {G : GT} {w : Wd} {σ : L2.St} {ρ : DEnv} (e : EnvR G w σ ρ) : ∀ vs : List Nat, EnvR G w (L2.wipe σ vs) (wipeD ρ vs)
  | [] => e
  | v :: vs => by
    have ih := EnvR.wipe e vs
    unfold L2.wipe wipeD
    refine ⟨by rw [List.length_set, List.length_set]; exact ih.1, fun i b q => ?_⟩
    by_cases h : v = i
    · subst h
      by_cases hl : v < (wipeD ρ vs).length
      · rw [List.getElem?_set_self hl] at q; cases q
      · rw [List.getElem?_eq_none (by rw [List.length_set]; omega)] at q; cases q
    · rw [List.getElem?_set_ne h] at q
      obtain ⟨v', h1, h2⟩ := ih.2 i b q
      exact ⟨v', by rw [List.getElem?_set_ne h]; exact h1, h2⟩
theorem Lay.stay {G : GT} {w : Wd} {μ : Store} {H : Hp} {a : Addr} {vs : List V} (l : Lay G w μ H) (h1 : w.I a = none) (h2 : a ∉ w.α) (h3 : w.F a = none) (e : H a = some (.lst vs)) : w.le (w.put a (.lst vs)) ∧ Lay G (w.put a (.lst vs)) μ H := by
  refine ⟨⟨same_upd h1, List.prefix_refl _, Same.refl _⟩, fun b u q => ?_, l.len, l.nd, l.lv, l.fr, l.fd, fun b u q => ?_, fun n c b q1 q2 => ?_⟩
  · by_cases z : b = a
    · subst z; have q : upd w.I b (.lst vs) b = some u := q; rw [upd_same] at q; rw [← q]; exact e
    · have q : upd w.I a (.lst vs) b = some u := q; rw [upd_ne z] at q; exact l.same b u q
  · have : b ≠ a := fun z => by rw [z, h3] at q; cases q
    show upd w.I a _ b = none
    rw [upd_ne this]; exact l.di b u q
  · have ap : b ≠ a := ne_get q2 h2
    exact CellAt.cong (w' := w.put a (.lst vs)) (fun z => by show upd w.I a _ b = none; rw [upd_ne ap]; exact z) ⟨same_upd h1, List.prefix_refl _⟩ rfl (l.at_ n c b q1 q2)
/-- what becomes of the list that is made: frozen, or a cell -/
def OkFin (G : GT) (fin : OpN) : Prop := ∀ (W : WX) (σ : L2.St) (w : Wd) (μ : Store) (H : Hp) (a : Addr) (vs : List V) (bs : List Dv) (Q : VK), Lay G w μ H → w.I a = none → a ∉ w.α → w.F a = none → H a = some (.lst vs) → Rvs G w vs bs →
  Pst G W σ (Rv G) w (fin bs μ) Q → Q (.ref a) H
theorem fin_list {G : GT} : OkFin G dList := by
  intro W σ w μ H a vs bs Q l h1 h2 h3 e r p
  unfold dList at p
  cases q : allD bs with
  | none => rw [q] at p; exact p.elim
  | some ds =>
    rw [q] at p
    have p : Pst G W σ (Rv G) w (if ds.length ≤ sizeLine then .ok (.d (.list ds)) μ else .bad) Q := p
    by_cases z : ds.length ≤ sizeLine
    · rw [if_pos z] at p
      rw [allD_eq q] at r
      have ra := RpA_of_Rvs r
      obtain ⟨le, l2⟩ := l.stay h1 h2 h3 e
      exact p _ (.ref a) _ le l2 (.lst (SqL.of upd_same) (RpA.mono le.1 _ _ ra))
    · rw [if_neg z] at p
      exact p.elim
section
variable {X : Cx} {G : GT} {W : WX} {mi : MI} {g : MG} {tt : MT} {te : ME} {S vs : List Nat} {fin : OpN}
theorem lc_imp (hf : OkFin G fin) (hS : ∀ i ∈ S, i ∈ vs) : ∀ σ H Q, tE G W (eLc fin mi g tt te vs) σ H Q → tLc (tI G W mi) (tG G S g) (tT G W0 tt) (tE G W0 te) vs σ H Q := by
  rintro σ H Q ⟨w, μ, ρ, hl, he, p⟩
  refine tD.seq (k := fun ρ bs μ => lcF fin g tt te vs ρ bs μ) hl he p fun w1 μ1 H1 J bs l1 lay1 en1 it p1 => ?_
  intro a na
  unfold lcF at p1
  by_cases hz : bs.length ≤ sizeLine
  case neg => rw [if_neg hz] at p1; exact p1.elim
  rw [if_pos hz] at p1
  obtain ⟨n1, n2, n3⟩ := lay1.na na
  refine ⟨fun i m H => m = bs.length - i ∧ i ≤ bs.length ∧ ∃ w2 μ2 us acc, w1.le w2 ∧ Lay G w2 μ2 H ∧ H a = some (.lst us) ∧ w2.I a = none ∧ a ∉ w2.α ∧ w2.F a = none ∧ Rvs G w2 us acc ∧ acc.length ≤ i ∧
    Pst G W σ (Rv G) w2 ((lcM g tt te (wipeD ρ vs) (bs.drop i) μ2).gb fun ys μ => fin (acc ++ ys) μ) Q, ⟨bs.length, by simp, Nat.zero_le _, w1, μ1, [], [], w1.le_refl, lay1.other n1 n2 n3 _, upd_same, n1, n2, n3, .nil, Nat.le_refl _, p1⟩, ?_⟩
  rintro i m H2 ⟨rfl, hi, w2, μ2, us, acc, l2, lay2, e2, i2, a2, f2, r2, hacc, p2⟩
  by_cases hlt : i < bs.length
  · refine .inr ⟨it.go i w2 μ2 H2 hlt l2 lay2, fun H => ∃ w2 μ2 us acc, w1.le w2 ∧ Lay G w2 μ2 H ∧ H a = some (.lst us) ∧ w2.I a = none ∧ a ∉ w2.α ∧ w2.F a = none ∧ Rvs G w2 us acc ∧ acc.length ≤ i + 1 ∧
      Pst G W σ (Rv G) w2 ((lcM g tt te (wipeD ρ vs) (bs.drop (i + 1)) μ2).gb fun ys μ => fin (acc ++ ys) μ) Q, fun H' q => ⟨bs.length - (i + 1), by omega, rfl, hlt, q⟩, fun x H' y => ?_⟩
    have eb : bs[i]? = some bs[i] := by simp [hlt]
    obtain ⟨lp, layp⟩ := lay2.priv i2 a2 f2 e2
    obtain ⟨w3, l3, lay3, r3⟩ := it.yld i _ _ μ2 H2 x H' eb (l2.trans lp) layp y
    have en3 : EnvR G w3 (wipe σ vs) (wipeD ρ vs) := (en1.wipe vs).mono ((l2.trans lp).trans l3)
    refine ⟨w3, μ2, wipeD ρ vs, bs[i], lay3, en3, r3, ?_⟩
    rw [List.drop_eq_getElem_cons hlt] at p2
    unfold lcM at p2
    cases q : g bs[i] (wipeD ρ vs) μ2 with
    | bad => rw [q] at p2; exact p2.elim
    | ex _ _ => rw [q] at p2; exact p2.elim
    | ok ρ4 μ4 =>
      rw [q] at p2
      intro w4 σ4 H4 l4 lay4 en4 ag
      refine ⟨wipe_agr ag hS, w4, μ4, ρ4, lay4, en4, ?_⟩
      cases q5 : tt ρ4 μ4 with
      | bad => simp only [gb_ok, q5] at p2; exact p2.elim
      | ex _ _ => simp only [gb_ok, q5] at p2; exact p2.elim
      | ok k μ5 =>
        simp only [gb_ok, q5] at p2
        intro w5 v5 H5 l5 lay5 r5
        have r5 : v5 = k := r5
        subst r5
        have lw5 : (w2.priv a (.lst us)).le w5 := (l3.trans l4).trans l5
        cases v5 with
        | false =>
          simp only [Bool.false_eq_true, if_false] at p2
          obtain ⟨le6, lay6, e6, i6, a6⟩ := lay5.unp lw5 f2 (.lst us)
          have hH : upd H5 a (.lst us) = H5 := by
            funext b
            by_cases z : b = a
            · subst z; rw [upd_same, e6]
            · rw [upd_ne z]
          rw [hH] at lay6
          exact ⟨w5.unp a, μ5, us, acc, l2.trans le6, lay6, e6, i6, a6, if_pos rfl, r2.mono le6, by omega, Pst.mono le6 p2⟩
        | true =>
          simp only [if_true] at p2
          refine ⟨w5, μ5, ρ4, lay5, en4.mono l5, ?_⟩
          cases q6 : te ρ4 μ5 with
          | bad => rw [q6] at p2; exact p2.elim
          | ex _ _ => rw [q6] at p2; exact p2.elim
          | ok y μ6 =>
            rw [q6] at p2
            intro w6 v6 H6 l6 lay6 r6
            obtain ⟨le7, lay7, e7, i7, a7⟩ := lay6.unp (lw5.trans l6) f2 (.lst (us ++ [v6]))
            refine ⟨us, e7, by rw [Paired.length r2]; omega, w6.unp a, μ6, us ++ [v6], acc ++ [y], l2.trans le7, lay7, upd_same, i7, a7, if_pos rfl, ?_, by simp; omega, ?_⟩
            · have h1 := r2.mono le7
              have h2 : Rv G (w6.unp a) v6 y := Rv.cong rfl rfl r6
              exact Paired.rec (motive := fun l m _ => Rvs G (w6.unp a) (l ++ [v6]) (m ++ [y])) (.cons h2 .nil) (fun r _ ih => .cons r ih) h1
            · have p3 := Pst.mono le7 p2
              cases q7 : lcM g tt te (wipeD ρ vs) (bs.drop (i + 1)) μ6 with
              | bad => simp only [gb_ok, q7] at p3; exact p3.elim
              | ex _ _ => simp only [gb_ok, q7] at p3; exact p3.elim
              | ok ys μ7 =>
                simp only [gb_ok, q7] at p3
                simp only [gb_ok, List.append_assoc, List.singleton_append]
                exact p3
  · refine .inl ⟨it.stop i w2 μ2 H2 (by omega) l2 lay2, ?_⟩
    rw [List.drop_of_length_le (by omega)] at p2
    simp only [lcM, gb_ok, List.append_nil] at p2
    exact hf W σ w2 μ2 H2 a us acc Q lay2 i2 a2 f2 e2 r2 p2
theorem dts_nil {X : Cx} : PTs X [] (tT G W tYesM) := ⟨fun pins s σ H Q I h => by
  obtain ⟨w, μ, ρ, hl, he, p⟩ := h
  exact pts_nil.run pins s σ H Q I (p w true H w.le_refl hl rfl)⟩
theorem dts_one {X : Cx} {c : Expr} (h : DT X G W c tt) : PTs X [c] (tT G W tt) := pts_one h
theorem de_lc {elt tg iter : Expr} {ifs : List Expr} {scope : Scope} (own : List (Str × Nat)) {pos : Pos} (hf : OkFin G fin) (hc : X.calm = true) (hN : X.N.Nodup) (hi : DI X G W tg iter mi) (ok : BlkOk X.N X.env.scope scope own)
    (hg : ∀ (s : Shared) (H : Hp) (C : Addr) (cl : List (Str × Addr)) (fp : List Addr), DG (X.blk s H scope (compEnvC scope cl C X.env) fp) G S tg g) (ht : ∀ (s : Shared) (H : Hp) (C : Addr) (cl : List (Str × Addr)) (fp : List Addr), PTs (X.blk s H scope (compEnvC scope cl C X.env) fp) ifs (tT G W0 tt))
    (he : ∀ (s : Shared) (H : Hp) (C : Addr) (cl : List (Str × Addr)) (fp : List Addr), DE (X.blk s H scope (compEnvC scope cl C X.env) fp) G W0 elt te) (hS : ∀ i ∈ S, i ∈ own.map (·.2) := by decide) (hs : ∀ x, foldedSetIterable iter X.env x = pure x := by intro _; rfl) :
    DE X G W (.ListComp elt [⟨tg, iter, ifs, 0⟩] scope pos) (eLc fin mi g tt te (own.map (·.2))) := PE.imp (pe_lc hc hN hi ok hg ht he hs) (lc_imp hf hS)
end
end DL

/-! A def's promise where no repr is under way around it (so that repr of data may be asked within): its rule, its calls, a law's end. -/
namespace DL
open PySem PySem.Spec PyProof.Rows L2

/-- as FnOk, told of calls with nothing guarded around -/
structure FnG (P : Program) (w : World) (K : PySem.W.Frag) (mg : Str → Option Value) (base : Heap) (k : Nat) (f : Addr) (fd : FuncData) (ps : List Str) (sp : Sp) : Prop where
  len : ∀ vs H Q E, sp vs H Q E → vs.length = ps.length
  run : ∀ (A : Around) (outer : List Env) (s : Shared) (H : Hp) (args : Args) (us : List Value) (vs : List V) (Q : VK) (E : XK), A.guards = some [] → Room k A → Env0 P w K mg base A outer s H → BindsTo s fd args (ps.zip us) → Vals vs us → sp vs H Q E →
    codeAny (model P w) A (.call (.ref f) args) (CR (L2.CX P w) outer P w H s Q E) s
theorem FnG.mono {P : Program} {w : World} {K : PySem.W.Frag} {mg : Str → Option Value} {base : Heap} {j k : Nat} {f : Addr} {fd : FuncData} {ps : List Str} {sp : Sp} (F : FnG P w K mg base j f fd ps sp) (h : j ≤ k) : FnG P w K mg base k f fd ps sp :=
  ⟨F.len, fun A outer s H args us vs Q E g r => F.run A outer s H args us vs Q E g (r.mono h)⟩
theorem FnG.imp {P : Program} {w : World} {K : PySem.W.Frag} {mg : Str → Option Value} {base : Heap} {k : Nat} {f : Addr} {fd : FuncData} {ps : List Str} {sp sp' : Sp} (F : FnG P w K mg base k f fd ps sp) (h : ∀ vs H Q E, sp' vs H Q E → sp vs H Q E) : FnG P w K mg base k f fd ps sp' :=
  ⟨fun vs H Q E q => F.len vs H Q E (h _ _ _ _ q), fun A outer s H args us vs Q E g r e b v q => F.run A outer s H args us vs Q E g r e b v (h _ _ _ _ q)⟩

theorem guards_deeper {A : Around} {env : Env} (h : A.guards = some []) : (A.deeper env).guards = some [] := h

section
variable {P : Program} {w : World} {K : PySem.W.Frag} {mg : Str → Option Value} {base : Heap}
/-- a def of the text by its body -/
theorem fnG_of {k : Nat} {f : Addr} {name qual : Str} {params : Arguments} {body : List Stmt} {sc : Scope} {dV kV doc pm cdv ct oc : Value} {an od : Option Addr} {osl : Array (Option Value)} {N ps : List Str} {sp : Sp}
    (lk : K.lookup f = some ⟨oc, od, .func (PySem.W.fnOf name qual params body sc dV kV doc pm an cdv ct), osl⟩) (cd : PySem.W.codeIn K cdv qual = true) (S : FnScope N ps sc) (len : ∀ vs H Q E, sp vs H Q E → vs.length = ps.length)
    (bd : ∀ (A : Around) (outer : List Env) (s : Shared) (H : Hp) (vs : List V) (Q : VK) (E : XK), A.guards = some [] → Room k (A.deeper (envOfC qual sc s.heap.objs.size f cdv)) → sp vs H Q E →
      ∃ t, PSs (cxOf (L2.CX P w) P w K mg base N qual sc f cdv A outer s H E) body t ∧ t ⟨fun _ H' => Q .non H', Q, fun _ _ => False, fun _ _ => False⟩ (L2.start N vs) H) :
    FnG P w K mg base (k + 1) f (PySem.W.fnOf name qual params body sc dV kV doc pm an cdv ct) ps sp := by
  constructor
  · exact len
  intro A outer s H args us vs Q E g room e0 bt rv hsp
  have hlen : vs.length = ps.length := len vs H Q E hsp
  have inK : K.In s.heap := e0.mod.kin.keeps (fun b o q => (e0.bs b o q).1)
  have nolim : s.heap.NoLimit := e0.mod.nolimit.keeps (fun b o q => (e0.bs b o q).1)
  have kinds : ∀ z ∈ ps.zip us, sc.names.lookup z.1 = some .local ∨ (sc.names.lookup z.1 = some .cell ∧ ((cellsFrom (s.heap.objs.size + 1) sc.names []).lookup z.1).isSome = true) := by
    rintro ⟨n, v⟩ hz
    rcases S.par n (List.of_mem_zip hz).1 with h | h
    · exact Or.inl h
    · exact Or.inr ⟨h, PySem.W.cellsFrom_some _ _ _ (Or.inl h)⟩
  apply codeAny_call_function room.depth (inK _ _ lk) rfl S.co S.gen rfl (PySem.W.codeRec_of inK cd) (bt _ _ _ _ _)
  apply wpAny_newFunctionEnv_cells S.kind kinds
  rintro env rfl s1 x
  refine ⟨nolim.keeps x.toInCall.keep, ?_⟩
  apply codeAny_func
  obtain ⟨t, h1, h2⟩ := bd A outer s H vs Q E g (room.deeper _) hsp
  have I := inv_start (CX := L2.CX P w) (E := E) S room.hd e0 hlen rv x
  apply wpAny_mono (h1.run [] s1 (L2.start N vs) H _ I h2)
  · rintro fl s' q
    cases fl with
    | brk => exact (by obtain ⟨_, _, _, q⟩ := q; exact q.elim)
    | cont => exact (by obtain ⟨_, _, _, q⟩ := q; exact q.elim)
    | next =>
      obtain ⟨σ', H', J, q⟩ := q
      exact ⟨V.non, H', J.os, J.bare, J.base, J.hok, rfl, q⟩
    | ret u =>
      obtain ⟨v, σ', H', J, r, q⟩ := q
      exact ⟨v, H', J.os, J.bare, J.base, J.hok, r, q⟩
  · exact fun e s' q => q
/-- THE RULE for a def -/
theorem fn_okG {G : GT} {x qual : Str} {st : Stmt} {f : Addr} {fd : FuncData} {N ps : List Str} {k : Nat} {B : MS} (F : Fun G.K x qual st f fd) (S : FnScope N ps (defScope st))
    (hB : ∀ (cdv : Value) (A : Around) (outer : List Env) (s : Shared) (H : Hp) (E : XK), (cxOf (L2.CX P w) P w G.K mg base N qual (defScope st) f cdv A outer s H E).A.guards = some [] → Room k (cxOf (L2.CX P w) P w G.K mg base N qual (defScope st) f cdv A outer s H E).A →
      Takes (cxOf (L2.CX P w) P w G.K mg base N qual (defScope st) f cdv A outer s H E) (fun cls d _ H => E cls d H) →
      PassesOwn (model P w) (cxOf (L2.CX P w) P w G.K mg base N qual (defScope st) f cdv A outer s H E).A (cxOf (L2.CX P w) P w G.K mg base N qual (defScope st) f cdv A outer s H E).env (cxOf (L2.CX P w) P w G.K mg base N qual (defScope st) f cdv A outer s H E).xe →
      DSs (cxOf (L2.CX P w) P w G.K mg base N qual (defScope st) f cdv A outer s H E) G (fun cls d _ H => E cls d H) (defBody st) B) :
    FnG P w G.K mg base (k + 1) f fd ps (spD G ps.length (runB N.length B)) := by
  obtain ⟨oc, od, kV, doc, pm, an, cdv, ct, osl, rfl, lk, hcd⟩ := F.ex
  apply fnG_of lk hcd S (fun vs H Q E h => h.1)
  intro A outer s H vs Q E g hr h
  obtain ⟨hn, w0, μ, bs, lay, r, p⟩ := h
  have tk : Takes (cxOf (L2.CX P w) P w G.K mg base N qual (defScope st) f cdv A outer s H E) (fun cls d _ H => E cls d H) := takes_of rfl rfl rfl rfl
  refine ⟨_, hB cdv A outer s H E g hr tk (passes_of rfl), w0, μ, _, lay, env_start r, ?_⟩
  unfold runB at p
  cases q : B (bs.map some ++ List.replicate (N.length - bs.length) none) μ with
  | bad => rw [q] at p; exact p.elim
  | ex e μ' =>
    rw [q] at p
    exact fun w' cls d _ H' l lay' r' => p w' cls d H' l lay' r'
  | ok fl μ' =>
    rw [q] at p
    cases fl with
    | nx ρ => exact fun w' σ' H' l lay' _ => p w' .non H' l lay' .non
    | rt b => exact p
    | bk ρ => exact p.elim
    | ct ρ => exact p.elim
end

section
variable {X : Cx} {G : GT} {W : WX} {e : Expr} {es : List Expr} {mas : MA} {pos p : Pos} {x : Str} {k n : Nat} {f : Addr} {fd : FuncData} {ps ks : List Str} {F : OpN} {sp : Sp} {E : L2.St → XK}
theorem runG {pins : List (Addr × Obj)} {σ : L2.St} {H : Hp} {s : Shared} {Q : VK} {us : List Value} {vs : List V} {args : Args} (hF : FnG X.prog X.w X.K X.mg X.base k f fd ps sp) (g : X.A.guards = some []) (hr : Room k X.A) (hx : PassesAt (L2.CX X.prog X.w) X σ (E σ)) (I : Inv X pins σ H s)
    (hb : BindsTo s fd args (ps.zip us)) (r : Vals vs us) (h : sp vs H Q (E σ)) : codeAny (model X.prog X.w) X.A (.call (.ref f) args) (fun r s' => match r with | .ok (.ret u) => EP X pins σ Q u s' | .ok _ => False | .error e => X.xe e s') s := by
  apply codeAny_mono (hF.run X.A X.stack s H args us vs Q (E σ) g hr I.env0 hb r h)
  rintro (e | fl) s' q
  · exact hx pins H s e s' I q
  · cases fl with
    | ret u => exact I.after q
    | next => exact q.elim
    | brk => exact q.elim
    | cont => exact q.elim
theorem de_callG (hF : FnG X.prog X.w X.K X.mg X.base k f fd ps (spD G n F)) (g : X.A.guards = some []) (hr : Room k X.A) (hg : Gl X x) (hm : X.mg x = some (.ref f)) (hk : PySem.W.keepIn X.K (.ref f) = true) (hb : Binds X.K fd ps []) (tk : Takes X W)
    (ha : DA X G W (e :: es) mas) (hdb : (x == ("__debug__" : Str)) = false := by decide) (he : starEach (e :: es) X.env = (false, eval e X.env) :: starEach es X.env := by rfl) (hpl : (backTo pos (starEach es X.env)).any (·.1) = false := by rfl) :
    DE X G W (.Call (.Name x p) (e :: es) [] pos) (eN (fCall n F) mas) := by
  apply PE.imp (t := tCallSD (spD G n F) [] (WE W) (tA G W mas)) _ call_imp
  constructor
  intro pins s σ H Q I h
  apply wpAny_Call_Name_kw
  apply ld_glob I hg hm _ hdb
  apply PySem.W.callWith_K (h₀ := X.base) I.ok.mod.kin hk _ he hpl
  apply thn (ha.run pos pins s σ H _ I h)
  rintro us s1 ⟨vs, H1, I1, r, q⟩
  refine ⟨I1.kIn, ?_⟩
  rw [List.append_nil] at q
  have hl : (us ++ ([] : List Value)).length = ps.length := by rw [List.append_nil, ← r.length]; exact hF.len _ _ _ _ q
  have hb1 := hb s1 us I1.kIn hl
  rw [List.append_nil] at hb1
  apply wpAny_call
  apply codeAny_mono (runG hF g hr (fun _ _ _ _ _ I c => passAt tk σ _ _ _ _ _ I c) I1 hb1 r q)
  rintro (e | fl) s' q
  · exact q
  · cases fl with
    | ret u => exact q
    | next => exact q.elim
    | brk => exact q.elim
    | cont => exact q.elim
end
end DL

/-! Operations of the data layer: numbers, comparisons, membership. -/
namespace DL
open PySem PySem.Spec PyProof.Rows L2
section
variable {G : GT} {w : Wd} {v : V}
theorem rv_int {i : Int} (r : Rv G w v (.d (.int i))) : v = .int i := by
  have r : Rp G.K w.I v (.int i) := r
  cases r; rfl
theorem rv_str {z : Str} (r : Rv G w v (.d (.str z))) : v = .str z := by
  have r : Rp G.K w.I v (.str z) := r
  cases r; rfl
theorem rv_bl {k : Bool} (r : Rv G w v (.d (.bool k))) : v = .bl k := by
  have r : Rp G.K w.I v (.bool k) := r
  cases r; rfl
theorem rv_non (r : Rv G w v (.d .none)) : v = .non := by
  have r : Rp G.K w.I v .none := r
  cases r; rfl
theorem rv_lst {ds : List D} (r : Rv G w v (.d (.list ds))) : ∃ a xs, v = .ref a ∧ SqL G.K w.I a xs ∧ RpA G.K w.I xs ds := by
  have r : Rp G.K w.I v (.list ds) := r
  cases r with
  | lst h1 h2 => exact ⟨_, _, rfl, h1, h2⟩
theorem rv_tup {ds : List D} (r : Rv G w v (.d (.tuple ds))) : ∃ a xs, v = .ref a ∧ SqT G.K w.I a xs ∧ RpA G.K w.I xs ds := by
  have r : Rp G.K w.I v (.tuple ds) := r
  cases r with
  | tup h1 h2 => exact ⟨_, _, rfl, h1, h2⟩
theorem rv_ints {ns : List Int} {xs : List V} {I : Hp} {K : PySem.W.Frag} : RpA K I xs (ns.map .int) → xs = ns.map .int := by
  induction ns generalizing xs with
  | nil => intro h; cases h; rfl
  | cons n ns ih =>
    intro h
    cases h with
    | cons r t => cases r; rw [ih t]; rfl
theorem rv_strs {ns : List Str} {xs : List V} {I : Hp} {K : PySem.W.Frag} : RpA K I xs (ns.map .str) → xs = ns.map .str := by
  induction ns generalizing xs with
  | nil => intro h; cases h; rfl
  | cons n ns ih =>
    intro h
    cases h with
    | cons r t => cases r; rw [ih t]; rfl
theorem rv_bls {ns : List Bool} {xs : List V} {I : Hp} {K : PySem.W.Frag} : RpA K I xs (ns.map .bool) → xs = ns.map .bl := by
  induction ns generalizing xs with
  | nil => intro h; cases h; rfl
  | cons n ns ih =>
    intro h
    cases h with
    | cons r t => cases r; rw [ih t]; rfl
theorem RpA_strs {K : PySem.W.Frag} {I : Hp} : ∀ ns : List Str, RpA K I (ns.map V.str) (ns.map PyData.str)
  | [] => .nil
  | n :: ns => .cons (.str n) (RpA_strs ns)
/-- the items of a list that is read: frozen, or a cell's -/
theorem rv_cell {μ : Store} {H : Hp} {n : Nat} {xs : List Dv} (l : Lay G w μ H) (r : Rv G w v (.c n)) (e : μ[n]? = some (.lst xs)) : ∃ a vs, v = .ref a ∧ w.α[n]? = some a ∧ H a = some (.lst vs) ∧ Rvs G w vs xs := by
  obtain ⟨a, h1, rfl⟩ := r
  obtain ⟨_, vs, h2, h3⟩ := l.at_ n _ a e h1
  exact ⟨a, vs, rfl, h1, h2, h3⟩
end
/-- a cell's, or a frozen list's items; a tuple's -/
def items : Dv → Store → Option (List Dv)
  | .d (.list ds), _ => some (ds.map .d)
  | .c n, μ => match μ[n]? with
    | some (.lst xs) => some xs
    | _ => none
  | _, _ => none
theorem items_ok {G : GT} {w : Wd} {v : V} {μ : Store} {H : Hp} {b : Dv} {xs : List Dv} (l : Lay G w μ H) (r : Rv G w v b) (e : items b μ = some xs) : ∃ a vs, v = .ref a ∧ SqL G.K H a vs ∧ Rvs G w vs xs := by
  unfold items at e
  split at e
  · cases e
    obtain ⟨a, vs, rfl, h1, h2⟩ := rv_lst r
    exact ⟨a, vs, rfl, seqL l.same h1, Rvs_of_RpA h2⟩
  · split at e
    · rename_i h
      cases e
      obtain ⟨a, vs, rfl, _, h2, h3⟩ := rv_cell l r h
      exact ⟨a, vs, rfl, SqL.of h2, h3⟩
    · cases e
  · cases e
def itemsT : Dv → Option (List Dv)
  | .d (.tuple ds) => some (ds.map .d)
  | _ => none
/-- the datum that a value is just now -/
def view : Dv → Store → Option D
  | .d x, _ => some x
  | .c n, μ => match μ[n]? with
    | some (.lst xs) => match allD xs with
      | some ds => some (.list ds)
      | none => none
    | _ => none
  | _, _ => none
theorem Rp.inH {G : GT} {w : Wd} {μ : Store} {H : Hp} {v : V} {x : D} (l : Lay G w μ H) (r : Rp G.K w.I v x) : Rp G.K H v x := Rp.mono l.same _ _ r
theorem view_ok {G : GT} {w : Wd} {v : V} {μ : Store} {H : Hp} {b : Dv} {x : D} (l : Lay G w μ H) (r : Rv G w v b) (e : view b μ = some x) : Rp G.K H v x := by
  cases b with
  | d y => cases e; exact Rp.inH l r
  | f n => cases e
  | c n =>
    unfold view at e
    simp only at e
    split at e
    · rename_i xs h
      split at e
      · rename_i ds q
        cases e
        obtain ⟨a, vs, rfl, _, h2, h3⟩ := rv_cell l r h
        rw [allD_eq q] at h3
        exact .lst (SqL.of h2) (RpA.mono l.same _ _ (RpA_of_Rvs h3))
      · cases e
    · cases e

/-! ### numbers -/
def dNum (C : Int → Int → Bool) (g : Int → Int → Int) : Op2 := fun x y μ => match x, y with
  | .d (.int i), .d (.int j) => if C i j = true then .ok (.d (.int (g i j))) μ else .bad
  | _, _ => .bad
theorem ok_num {G : GT} {C : Int → Int → Bool} {C' : Int → Int → Prop} {g : Int → Int → Int} (h : ∀ i j, C i j = true → C' i j) : Ok2 G (rI C' fun i j => .int (g i j)) (dNum C g) := by
  intro W σ w μ H x y b c Q l rx ry p
  unfold dNum at p
  split at p
  · rename_i i j
    by_cases q : C i j = true
    · rw [if_pos q] at p
      exact ⟨i, j, rv_int rx, rv_int ry, h i j q, p w _ H w.le_refl l (.int _)⟩
    · rw [if_neg q] at p; exact p.elim
  · exact p.elim
def dInt2 (g : Int → Int → D) : Op2 := fun x y μ => match x, y with
  | .d (.int i), .d (.int j) => .ok (.d (g i j)) μ
  | _, _ => .bad
theorem ok_int2 {G : GT} {g : Int → Int → Int} : Ok2 G (rI0 fun i j => .int (g i j)) (dInt2 fun i j => .int (g i j)) := by
  intro W σ w μ H x y b c Q l rx ry p
  unfold dInt2 at p
  split at p
  · rename_i i j
    exact ⟨i, j, rv_int rx, rv_int ry, p w _ H w.le_refl l (.int _)⟩
  · exact p.elim
theorem ok_int2b {G : GT} {g : Int → Int → Bool} : Ok2 G (rI0 fun i j => .bl (g i j)) (dInt2 fun i j => .bool (g i j)) := by
  intro W σ w μ H x y b c Q l rx ry p
  unfold dInt2 at p
  split at p
  · rename_i i j
    exact ⟨i, j, rv_int rx, rv_int ry, p w _ H w.le_refl l (.bl _)⟩
  · exact p.elim
def cMul (i j : Int) : Bool := decide (i.natAbs.log2 + j.natAbs.log2 < 1000000)
def cDiv (_ j : Int) : Bool := decide (0 < j) && decide (j.natAbs.log2 < 9000)
def cMod (_ j : Int) : Bool := decide (0 < j)
def cPow (i j : Int) : Bool := decide (0 ≤ j) && decide (j ≤ 1000000) && decide (i.natAbs < 2 ^ 64)
abbrev dMul : Op2 := dNum cMul fun i j => i * j
abbrev dDiv : Op2 := dNum cDiv fun i j => i / j
abbrev dMod : Op2 := dNum cMod fun i j => i % j
abbrev dPow : Op2 := dNum cPow fun i j => i ^ j.toNat
theorem ok_mul {G : GT} : Ok2 G (rI CMulW fun i j => .int (i * j)) dMul := ok_num fun i j h => by
  unfold cMul at h
  unfold CMulW
  exact of_decide_eq_true h
theorem ok_div {G : GT} : Ok2 G (rI CDivW fun i j => .int (i / j)) dDiv := ok_num fun i j h => by
  unfold cDiv at h
  simp only [Bool.and_eq_true, decide_eq_true_eq] at h
  exact h
theorem ok_mod {G : GT} : Ok2 G (rI (fun _ j => 0 < j) fun i j => .int (i % j)) dMod := ok_num fun i j h => of_decide_eq_true h
theorem ok_pow {G : GT} : Ok2 G (rI CPow fun i j => .int (i ^ j.toNat)) dPow := ok_num fun i j h => by
  unfold cPow at h
  simp only [Bool.and_eq_true, decide_eq_true_eq] at h
  exact ⟨h.1.1, h.1.2, h.2⟩
abbrev dSub : Op2 := dInt2 fun i j => .int (i - j)
theorem ok_sub {G : GT} : Ok2 G (rI0 fun i j => .int (i - j)) dSub := ok_int2
def dNeg : Op1 := fun x μ => match x with
  | .d (.int i) => .ok (.d (.int (-i))) μ
  | _ => .bad
theorem ok_neg {G : GT} : Ok1 G (rU fun i => .int (-i)) dNeg := by
  intro W σ w μ H x b Q l rx p
  unfold dNeg at p
  split at p
  · exact ⟨_, rv_int rx, p w _ H w.le_refl l (.int _)⟩
  · exact p.elim

/-! ### + and * of sequences -/
/-- two lists that may be read -/
def rCatS (K : PySem.W.Frag) : R2 := fun x y H Q => ∃ l b xs zs, x = .ref l ∧ y = .ref b ∧ SqL K H l xs ∧ SqL K H b zs ∧ xs.length + zs.length ≤ sizeLine ∧ ∀ p, H p = none → Q (.ref p) (upd H p (.lst (xs ++ zs)))
theorem op_catS {X : Cx} : OpR X (binaryOp .Add) (rCatS X.K) := by
  intro pins s σ H x y v u Q I rx ry h
  obtain ⟨l, b, xs, zs, rfl, rfl, hx, hy, hz, q⟩ := h
  cases rx
  cases ry
  obtain ⟨its, r, ⟨o, n, e, hc, hd, hdt⟩, _⟩ := I.list hx
  obtain ⟨its2, r2, ⟨o2, n2, e2, hc2, hd2, hdt2⟩, _⟩ := I.list hy
  obtain ⟨cls, dd, data, sl⟩ := o
  obtain ⟨cls2, dd2, data2, sl2⟩ := o2
  simp only at hc hd hdt hc2 hd2 hdt2
  subst hc hd hdt hc2 hd2 hdt2
  have hsz : its.toArray.size + its2.toArray.size ≤ sizeLine := by rw [List.size_toArray, List.size_toArray, ← r.length, ← r2.length]; exact hz
  have ty1 : s.TypeIs (.ref l) "list" := ⟨_, e, rfl⟩
  have ty2 : s.TypeIs (.ref b) "list" := ⟨_, e2, rfl⟩
  refine concat_meets ty1 ty2 noFill_list_add seq_list_add PySem.F.slot_list_add PySem.F.entry_list_add (PySem.F.args_list_add_2 _ _) (list_addW l b its.toArray its2.toArray n n2 none none sl sl2 hsz) ⟨e, e2, ?_⟩
  have ea : its.toArray ++ its2.toArray = (its ++ its2).toArray := by simp
  rw [ea]
  refine ⟨.ref s.heap.objs.size, _, I.laid (t' := s.toks) (o := .lst (xs ++ zs)) (fun b ob q => Heap.get?_push_of_some _ q) (Nat.le_refl _) ?_, rfl, q _ (I.hok.fresh (Nat.le_refl _))⟩
  exact ⟨by rw [List.length_append]; exact hz, its ++ its2, 0, r.append r2, Heap.get?_push_size _ rfl⟩
def rMulS : R2 := fun x y H Q => ∃ z i, x = .str z ∧ y = .int i ∧ MulOk z i ∧ Q (.str (Txt.mul z i)) H
theorem op_mulS {X : Cx} : OpR X (binaryOp .Mult) rMulS := by
  intro pins s σ H x y v u Q I rx ry h
  obtain ⟨z, i, rfl, rfl, hm, q⟩ := h
  obtain ⟨t, rfl⟩ := rx
  obtain ⟨t', rfl⟩ := ry
  exact SB.mul hm fun t2 k => ⟨.str _, H, I.tok k, ⟨t2, rfl⟩, q⟩
def dAdd : Op2 := fun x y μ => match x, y with
  | .d (.int i), .d (.int j) => .ok (.d (.int (i + j))) μ
  | .d (.str a), .d (.str b) => if a.length + b.length ≤ sizeLine then .ok (.d (.str (a ++ b))) μ else .bad
  | .d (.tuple xs), .d (.tuple ys) => if xs.length + ys.length ≤ sizeLine then .ok (.d (.tuple (xs ++ ys))) μ else .bad
  | _, _ => match items x μ, items y μ with
    | some xs, some ys => dList (xs ++ ys) μ
    | _, _ => .bad
def rAdd (K : PySem.W.Frag) : R2 := fun x y H Q => rI0 (fun i j => .int (i + j)) x y H Q ∨ (∃ i j, x = .str i ∧ y = .str j ∧ i.length + j.length ≤ sizeLine ∧ Q (.str (i ++ j)) H) ∨ rCatA K x y H Q ∨ rCatS K x y H Q
theorem op_addA {X : Cx} : OpR X (binaryOp .Add) (DL.rAdd X.K) := op_add.or (op_add_str.or (op_catA.or op_catS))
theorem ok_add {G : GT} : Ok2 G (DL.rAdd G.K) dAdd := by
  intro W σ w μ H x y b c Q l rx ry p
  unfold dAdd at p
  split at p
  · exact .inl ⟨_, _, rv_int rx, rv_int ry, p w _ H w.le_refl l (.int _)⟩
  · split at p
    · rename_i h
      exact .inr (.inl ⟨_, _, rv_str rx, rv_str ry, h, p w _ H w.le_refl l (.str _)⟩)
    · exact p.elim
  · split at p
    · rename_i xs ys h
      obtain ⟨a, us, rfl, h1, h2⟩ := rv_tup rx
      obtain ⟨b, vs, rfl, h3, h4⟩ := rv_tup ry
      refine .inr (.inr (.inl ⟨a, b, us, vs, rfl, rfl, seqT l.same h1, seqT l.same h3, by rw [h2.length, h4.length]; exact h, fun e => ?_, fun _ e => ?_, fun _ _ p' np => ?_⟩))
      · subst e
        cases h2
        exact p w _ H w.le_refl l (.tup h3 h4)
      · subst e
        cases h4
        rw [List.append_nil] at p
        exact p w _ H w.le_refl l (.tup h1 h2)
      · obtain ⟨le, l2⟩ := l.new np (.tup (us ++ vs))
        exact p _ _ _ le l2 (.tup (SqT.of upd_same) (RpA.mono le.1 _ _ (h2.app h4)))
    · exact p.elim
  · split at p
    · rename_i xs ys h1 h2
      obtain ⟨a, us, rfl, g1, g2⟩ := items_ok l rx h1
      obtain ⟨b, vs, rfl, g3, g4⟩ := items_ok l ry h2
      have r : Rvs G w (us ++ vs) (xs ++ ys) := Paired.rec (motive := fun l m _ => Rvs G w (l ++ vs) (m ++ ys)) g4 (fun r _ ih => .cons r ih) g2
      obtain ⟨hz, q⟩ := list_new l r p
      exact .inr (.inr (.inr ⟨a, b, us, vs, rfl, rfl, g1, g3, by rw [List.length_append] at hz; exact hz, q⟩))
    · exact p.elim

/-! ### == -/
def scalD : D → D → Bool
  | .none, .none => true | .none, .int _ => true | .int _, .none => true | .none, .bool _ => true | .bool _, .none => true | .none, .str _ => true | .str _, .none => true
  | .int _, .int _ => true | .bool _, .bool _ => true | .str _, .str _ => true
  | .int _, .str _ => true | .str _, .int _ => true | .bool _, .str _ => true | .str _, .bool _ => true
  | _, _ => false
mutual
theorem nodict_of0 : ∀ d : D, d.canLay0 = true → nodict d = true
  | .none, _ => rfl
  | .bool _, _ => rfl
  | .int _, _ => rfl
  | .str _, _ => rfl
  | .list ds, h => by
    rw [nodict]
    exact nodicts_of0 ds (by simpa [PyData.canLay0] using h)
  | .tuple ds, h => by
    rw [nodict]
    exact nodicts_of0 ds (by simpa [PyData.canLay0] using h)
  | .dict _, h => by simp [PyData.canLay0] at h
theorem nodicts_of0 : ∀ ds : List D, PyData.canLayAll0 ds = true → nodicts ds = true
  | [], _ => rfl
  | d :: ds, h => by
    simp only [PyData.canLayAll0, Bool.and_eq_true] at h
    simp only [nodicts, Bool.and_eq_true]
    exact ⟨nodict_of0 d h.1, nodicts_of0 ds h.2⟩
end
theorem nodict_of {d : D} (h : SeqAt.shaped d = true) : nodict d = true := nodict_of0 d (SeqAt.canLay_of_shaped h)
/-- == of two data -/
def eqD (x y : D) : Option Bool := if scalD x y = true then some (PyData.eqv x y) else if SeqAt.shaped x && SeqAt.shaped y then some (PyData.eqv x y) else none
def dEq (neg : Bool) : Op2 := fun x y μ => match view x μ, view y μ with
  | some a, some b => match eqD a b with
    | some k => .ok (.d (.bool (if neg then !k else k))) μ
    | none => .bad
  | _, _ => .bad
theorem scal_of {K : PySem.W.Frag} {H : Hp} : ∀ {x y : D} {v u : V}, Rp K H v x → Rp K H u y → scalD x y = true → scal v u = true ∧ decide (v = u) = PyData.eqv x y := by
  intro x y v u r q h
  cases r <;> cases q <;> first | (refine ⟨rfl, ?_⟩; simp [PyData.eqv]; done) | cases h
  · rename_i a b
    refine ⟨rfl, ?_⟩
    rw [dec_bl]
    simp only [PyData.eqv]
  · rename_i a b
    refine ⟨rfl, ?_⟩
    rw [dec_int]
    simp only [PyData.eqv]
  · rename_i a b
    refine ⟨rfl, ?_⟩
    rw [dec_str]
    simp only [PyData.eqv]
def rEqA (K : PySem.W.Frag) : R2 := fun x y H Q => rEq x y H Q ∨ rEqD K x y H Q
def rNeA (K : PySem.W.Frag) : R2 := fun x y H Q => rNe x y H Q ∨ rNeD K x y H Q
theorem op_eqA {X : Cx} (hu : X.A.units + 64 < cLine) : OpR X (compareOp .Eq) (rEqA X.K) := op_eq.or (op_eqD hu)
theorem op_neA {X : Cx} (hu : X.A.units + 64 < cLine) : OpR X (compareOp .NotEq) (rNeA X.K) := op_ne.or (op_neD hu)
theorem ok_eq {G : GT} : Ok2 G (rEqA G.K) (dEq false) := by
  intro W σ w μ H x y b c Q l rx ry p
  unfold dEq at p
  split at p
  · rename_i a1 b1 h1 h2
    have r1 := view_ok l rx h1
    have r2 := view_ok l ry h2
    unfold eqD at p
    by_cases hs : scalD a1 b1 = true
    · simp only [if_pos hs] at p
      obtain ⟨g1, g2⟩ := scal_of r1 r2 hs
      exact .inl ⟨g1, p w _ H w.le_refl l (by rw [g2]; exact .bl _)⟩
    · simp only [if_neg hs] at p
      by_cases hd : (SeqAt.shaped a1 && SeqAt.shaped b1) = true
      · simp only [if_pos hd] at p
        simp only [Bool.and_eq_true] at hd
        exact .inr ⟨a1, b1, Rp.dp _ _ (nodict_of hd.1) r1, Rp.dp _ _ (nodict_of hd.2) r2, hd.1, hd.2, p w _ H w.le_refl l (.bl _)⟩
      · simp only [if_neg hd] at p
        exact p.elim
  · exact p.elim
theorem ok_ne {G : GT} : Ok2 G (rNeA G.K) (dEq true) := by
  intro W σ w μ H x y b c Q l rx ry p
  unfold dEq at p
  split at p
  · rename_i a1 b1 h1 h2
    have r1 := view_ok l rx h1
    have r2 := view_ok l ry h2
    unfold eqD at p
    by_cases hs : scalD a1 b1 = true
    · simp only [if_pos hs] at p
      obtain ⟨g1, g2⟩ := scal_of r1 r2 hs
      exact .inl ⟨g1, p w _ H w.le_refl l (by rw [g2]; exact .bl _)⟩
    · simp only [if_neg hs] at p
      by_cases hd : (SeqAt.shaped a1 && SeqAt.shaped b1) = true
      · simp only [if_pos hd] at p
        simp only [Bool.and_eq_true] at hd
        exact .inr ⟨a1, b1, Rp.dp _ _ (nodict_of hd.1) r1, Rp.dp _ _ (nodict_of hd.2) r2, hd.1, hd.2, p w _ H w.le_refl l (.bl _)⟩
      · simp only [if_neg hd] at p
        exact p.elim
  · exact p.elim

/-! ### order of numbers and texts, is None -/
def dCmp (g : Int → Int → Bool) (h : List Nat → List Nat → Bool) : Op2 := fun x y μ => match x, y with
  | .d (.int i), .d (.int j) => .ok (.d (.bool (g i j))) μ
  | .d (.str a), .d (.str b) => .ok (.d (.bool (h a.cps.toList b.cps.toList))) μ
  | _, _ => .bad
def rCmp (g : Int → Int → Bool) (h : List Nat → List Nat → Bool) : R2 := fun x y H Q => rI0 (fun i j => .bl (g i j)) x y H Q ∨ ∃ i j, x = .str i ∧ y = .str j ∧ Q (.bl (h i.cps.toList j.cps.toList)) H
theorem ok_cmp {G : GT} {g : Int → Int → Bool} {h : List Nat → List Nat → Bool} : Ok2 G (rCmp g h) (dCmp g h) := by
  intro W σ w μ H x y b c Q l rx ry p
  unfold dCmp at p
  split at p
  · exact .inl ⟨_, _, rv_int rx, rv_int ry, p w _ H w.le_refl l (.bl _)⟩
  · exact .inr ⟨_, _, rv_str rx, rv_str ry, p w _ H w.le_refl l (.bl _)⟩
  · exact p.elim
abbrev dLt : Op2 := dCmp (fun i j => decide (i < j)) fun a b => decide (a < b)
abbrev dLe : Op2 := dCmp (fun i j => decide (i ≤ j)) fun a b => !decide (b < a)
abbrev dGt : Op2 := dCmp (fun i j => decide (j < i)) fun a b => decide (b < a)
abbrev dGe : Op2 := dCmp (fun i j => decide (j ≤ i)) fun a b => !decide (a < b)
theorem op_ltA {X : Cx} : OpR X (compareOp .Lt) (rCmp (fun i j => decide (i < j)) fun a b => decide (a < b)) := op_lt.or op_lt_str
theorem op_leA {X : Cx} : OpR X (compareOp .LtE) (rCmp (fun i j => decide (i ≤ j)) fun a b => !decide (b < a)) := op_le.or op_le_str
theorem op_gtA {X : Cx} : OpR X (compareOp .Gt) (rCmp (fun i j => decide (j < i)) fun a b => decide (b < a)) := op_gt.or op_gt_str
theorem op_geA {X : Cx} : OpR X (compareOp .GtE) (rCmp (fun i j => decide (j ≤ i)) fun a b => !decide (a < b)) := op_ge.or op_ge_str
def isNone : D → Bool
  | .none => true
  | _ => false
/-- x is None (the other side is written) -/
def dIsN (neg : Bool) : Op2 := fun x _ μ => match x with
  | .d a => .ok (.d (.bool (if neg then !isNone a else isNone a))) μ
  | .c _ => .ok (.d (.bool neg)) μ
  | .f _ => .ok (.d (.bool neg)) μ
theorem non_iff {G : GT} {w : Wd} {v : V} {a : D} (r : Rv G w v (.d a)) : decide (v = V.non) = isNone a := by
  have r : Rp G.K w.I v a := r
  cases r <;> rfl
section
variable {X : Cx} {G : GT} {W : WX} {a : Expr} {ma : ME} {pos : Pos}
def eIsN (neg : Bool) (a : ME) : ME := fun ρ μ => (a ρ μ).bind fun x μ => dIsN neg x (.d .none) μ
theorem isN_imp : ∀ σ H Q, tE G W (eIsN false ma) σ H Q → tIsN (tE G W ma) σ H Q := by
  rintro σ H Q ⟨w, μ, ρ, hl, he, p⟩
  refine tD.seq (k := fun ρ x μ => dIsN false x (.d .none) μ) hl he p fun w1 μ1 H1 v b l1 lay1 en1 r1 p1 => ?_
  cases b with
  | d x => rw [non_iff r1]; exact p1 w1 _ H1 w1.le_refl lay1 (.bl _)
  | c n => obtain ⟨a, _, rfl⟩ := r1; exact p1 w1 _ H1 w1.le_refl lay1 (.bl _)
  | f n => obtain ⟨a, _, rfl⟩ := r1; exact p1 w1 _ H1 w1.le_refl lay1 (.bl _)
theorem notN_imp : ∀ σ H Q, tE G W (eIsN true ma) σ H Q → tNotN (tE G W ma) σ H Q := by
  rintro σ H Q ⟨w, μ, ρ, hl, he, p⟩
  refine tD.seq (k := fun ρ x μ => dIsN true x (.d .none) μ) hl he p fun w1 μ1 H1 v b l1 lay1 en1 r1 p1 => ?_
  cases b with
  | d x => rw [non_iff r1]; exact p1 w1 _ H1 w1.le_refl lay1 (.bl _)
  | c n => obtain ⟨a, _, rfl⟩ := r1; exact p1 w1 _ H1 w1.le_refl lay1 (.bl _)
  | f n => obtain ⟨a, _, rfl⟩ := r1; exact p1 w1 _ H1 w1.le_refl lay1 (.bl _)
theorem de_isN {j pos'} (ha : DE X G W a ma) : DE X G W (.Compare a [.Is] [.Constant .none j pos'] pos) (eIsN false ma) := PE.imp (pe_cmp (pc_isN ha) rfl) isN_imp
theorem de_notN {j pos'} (ha : DE X G W a ma) : DE X G W (.Compare a [.IsNot] [.Constant .none j pos'] pos) (eIsN true ma) := PE.imp (pe_cmp (pc_notN ha) rfl) notN_imp
theorem dt_isN {j pos'} (ha : DE X G W a ma) : DT X G W (.Compare a [.Is] [.Constant .none j pos'] pos) (tV (eIsN false ma)) := PT.imp (pt_cmp (pc_isN ha) rfl) fun σ H Q q => isN_imp σ H _ (test_imp (m := eIsN false ma) σ H Q q)
theorem dt_notN {j pos'} (ha : DE X G W a ma) : DT X G W (.Compare a [.IsNot] [.Constant .none j pos'] pos) (tV (eIsN true ma)) := PT.imp (pt_cmp (pc_notN ha) rfl) fun σ H Q q => notN_imp σ H _ (test_imp (m := eIsN true ma) σ H Q q)
end
end DL

/-! Operations of the data layer: membership, items, slices, texts, built-ins. -/
namespace DL
open PySem PySem.Spec PyProof.Rows L2

/-! ### in -/
def flatD : D → Bool
  | .none => true | .bool _ => true | .int _ => true | .str _ => true
  | _ => false
def allFlat : List Dv → Option (List D)
  | [] => some []
  | .d x :: r => if flatD x = true then match allFlat r with
    | some xs => some (x :: xs)
    | none => none else none
  | _ :: _ => none
theorem allFlat_map : ∀ {ds : List D}, (∀ d ∈ ds, flatD d = true) → allFlat (ds.map .d) = some ds
  | [], _ => rfl
  | d :: ds, h => by
    rw [List.map_cons, allFlat, if_pos (h d List.mem_cons_self), allFlat_map fun x hx => h x (List.mem_cons_of_mem _ hx)]
theorem flat_V {K : PySem.W.Frag} {I : Hp} {v : V} {x : D} (r : Rp K I v x) (h : flatD x = true) : flatV v = true := by
  cases r <;> first | rfl | cases h
theorem flat_eqv {K : PySem.W.Frag} {I : Hp} {v u : V} {x y : D} (r : Rp K I v x) (q : Rp K I u y) (h : flatD x = true) (h' : flatD y = true) : eqV v u = PyData.eqv x y := by
  cases r <;> first | cases h | skip
  all_goals (cases q <;> first | cases h' | skip)
  all_goals first | rfl | simp [eqV, PyData.eqv]
theorem flat_all {G : GT} {w : Wd} {v : V} {x : D} (r : Rp G.K w.I v x) (h : flatD x = true) : ∀ {xs : List V} {bs : List Dv} {ds : List D}, Rvs G w xs bs → allFlat bs = some ds → xs.all flatV = true ∧ inV v xs = ds.any fun y => PyData.eqv y x := by
  intro xs bs
  induction bs generalizing xs with
  | nil =>
    intro ds rr e
    cases rr
    cases e
    exact ⟨rfl, rfl⟩
  | cons b bs ih =>
    intro ds rr e
    cases rr with
    | cons r1 rr =>
      cases b with
      | d y =>
        unfold allFlat at e
        by_cases hy : flatD y = true
        · rw [if_pos hy] at e
          cases q : allFlat bs with
          | none => rw [q] at e; cases e
          | some es =>
            rw [q] at e
            cases e
            obtain ⟨g1, g2⟩ := ih rr q
            refine ⟨?_, ?_⟩
            · rw [List.all_cons, g1, flat_V r1 hy]; rfl
            · show (_ :: _ : List V).any _ = _
              rw [List.any_cons, List.any_cons, flat_eqv r1 r hy h, ← g2]
              rfl
        · rw [if_neg hy] at e; cases e
      | c _ => cases e
      | f _ => cases e
def sub1 (a b : Str) : Bool := match a.cps.toList with
  | [c] => decide (c ∈ b.cps.toList)
  | _ => !(Builtin.Str.occurrences b a 0 b.length 1).isEmpty
def itemsA (y : Dv) (μ : Store) : Option (List Dv) := match itemsT y with
  | some xs => some xs
  | none => items y μ
def dIn (neg : Bool) : Op2 := fun x y μ => match x, y with
  | .d (.str a), .d (.str b) => .ok (.d (.bool (if neg then !sub1 a b else sub1 a b))) μ
  | .d a, y => match itemsA y μ with
    | some bs => match allFlat bs with
      | some ds => if flatD a = true then .ok (.d (.bool (if neg then !(ds.any fun y => PyData.eqv y a) else ds.any fun y => PyData.eqv y a))) μ else .bad
      | none => .bad
    | none => .bad
  | _, _ => .bad
def rInS (neg : Bool) : R2 := fun x y H Q => ∃ (c : Nat) (z : Str), x = .str ⟨#[c]⟩ ∧ y = .str z ∧ Q (.bl (if neg then !decide (c ∈ z.cps.toList) else decide (c ∈ z.cps.toList))) H
def rInT (neg : Bool) : R2 := fun x y H Q => ∃ i j, x = .str i ∧ y = .str j ∧ Q (.bl (if neg then !(!(Builtin.Str.occurrences j i 0 j.length 1).isEmpty) else !(Builtin.Str.occurrences j i 0 j.length 1).isEmpty)) H
def rInA (K : PySem.W.Frag) (neg : Bool) : R2 := fun x y H Q => rInS neg x y H Q ∨ rInT neg x y H Q ∨ rIn K neg x y H Q
theorem op_inA {X : Cx} : OpR X (compareOp .In) (rInA X.K false) := OpR.or (r := rInS false) op_in_sign (OpR.or (r := rInT false) op_in_str op_in_seq)
theorem op_notInA {X : Cx} : OpR X (compareOp .NotIn) (rInA X.K true) := OpR.or (r := rInS true) op_notIn_sign (OpR.or (r := rInT true) op_notIn_str op_notIn_seq)
theorem itemsA_ok {G : GT} {w : Wd} {v : V} {μ : Store} {H : Hp} {b : Dv} {xs : List Dv} (l : Lay G w μ H) (r : Rv G w v b) (e : itemsA b μ = some xs) : ∃ a vs, v = .ref a ∧ (SqL G.K H a vs ∨ SqT G.K H a vs) ∧ Rvs G w vs xs := by
  unfold itemsA at e
  split at e
  · rename_i ys h
    cases e
    unfold itemsT at h
    split at h
    · cases h
      obtain ⟨a, vs, rfl, h1, h2⟩ := rv_tup r
      exact ⟨a, vs, rfl, .inr (seqT l.same h1), Rvs_of_RpA h2⟩
    · cases h
  · obtain ⟨a, vs, rfl, h1, h2⟩ := items_ok l r e
    exact ⟨a, vs, rfl, .inl h1, h2⟩
theorem ok_in {G : GT} {neg : Bool} : Ok2 G (rInA G.K neg) (dIn neg) := by
  intro W σ w μ H x y b c Q l rx ry p
  unfold dIn at p
  split at p
  · rename_i a b
    by_cases hc : ∃ n, a.cps.toList = [n]
    · obtain ⟨n, e⟩ := hc
      have hs : sub1 a b = decide (n ∈ b.cps.toList) := by unfold sub1; rw [e]
      rw [hs] at p
      refine .inl ⟨n, b, ?_, rv_str ry, p w _ H w.le_refl l (.bl _)⟩
      rw [rv_str rx]
      have : a = ⟨#[n]⟩ := by
        obtain ⟨arr⟩ := a
        have e : arr.toList = [n] := e
        congr 1
        exact Array.toList_inj.mp (by simpa using e)
      rw [this]
    · have hs : sub1 a b = !(Builtin.Str.occurrences b a 0 b.length 1).isEmpty := by
        unfold sub1
        split
        · rename_i n e
          exact absurd ⟨n, e⟩ hc
        · rfl
      rw [hs] at p
      exact .inr (.inl ⟨a, b, rv_str rx, rv_str ry, p w _ H w.le_refl l (.bl _)⟩)
  · split at p
    · rename_i bs h1
      split at p
      · rename_i ds h2
        split at p
        · rename_i h3
          obtain ⟨a, vs, rfl, g1, g2⟩ := itemsA_ok l ry h1
          have rx : Rp G.K w.I x _ := rx
          obtain ⟨f1, f2⟩ := flat_all rx h3 g2 h2
          exact .inr (.inr ⟨a, vs, rfl, g1, flat_V rx h3, f1, by rw [f2]; exact p w _ H w.le_refl l (.bl _)⟩)
        · exact p.elim
      · exact p.elim
    · exact p.elim
  · exact p.elim

/-! ### items -/
def dIx : Op2 := fun x y μ => match y with
  | .d (.int i) => match x with
    | .d (.str z) => if z.length ≤ sizeLine then match atI z.cps.toList i with
      | some c => .ok (.d (.str ⟨#[c]⟩)) μ
      | none => .bad else .bad
    | x => match itemsA x μ with
      | some bs => match atI bs i with
        | some b => .ok b μ
        | none => .bad
      | none => .bad
  | _ => .bad
theorem Rvs.at {G : GT} {w : Wd} {vs : List V} {bs : List Dv} (r : Rvs G w vs bs) : ∀ {j : Nat} {b : Dv}, bs[j]? = some b → ∃ v, vs[j]? = some v ∧ Rv G w v b := by
  induction r with
  | nil => intro j b h; simp at h
  | cons r t ih =>
    intro j b h
    cases j with
    | zero => simp at h; subst h; exact ⟨_, rfl, r⟩
    | succ j => simpa using ih (by simpa using h)
theorem Rvs.atI {G : GT} {w : Wd} {vs : List V} {bs : List Dv} (r : Rvs G w vs bs) {i : Int} {b : Dv} (e : L2.atI bs i = some b) : ∃ v, L2.atI vs i = some v ∧ Rv G w v b := by
  unfold L2.atI at e ⊢
  rw [Paired.length r]
  cases q : ixN bs.length i with
  | none => rw [q] at e; cases e
  | some j =>
    rw [q] at e
    exact r.at e
theorem ok_ix {G : GT} : Ok2 G (rIx G.K) dIx := by
  intro W σ w μ H x y b c Q l rx ry p
  unfold dIx at p
  split at p
  · rename_i i
    split at p
    · split at p
      · rename_i h
        split at p
        · rename_i c e
          exact .inr (.inr ⟨_, i, c, rv_str rx, rv_int ry, h, e, p w _ H w.le_refl l (.str _)⟩)
        · exact p.elim
      · exact p.elim
    · split at p
      · rename_i bs h
        split at p
        · rename_i b' e
          obtain ⟨a, vs, rfl, g1, g2⟩ := itemsA_ok l rx h
          obtain ⟨v, g3, g4⟩ := Rvs.atI g2 e
          rcases g1 with g1 | g1
          · exact .inl ⟨a, vs, i, v, rfl, rv_int ry, g1, g3, p w _ H w.le_refl l g4⟩
          · exact .inr (.inl ⟨a, vs, i, v, rfl, rv_int ry, g1, g3, p w _ H w.le_refl l g4⟩)
        · exact p.elim
      · exact p.elim
  · exact p.elim
section
variable {X : Cx} {G : GT} {W : WX} {a b e : Expr} {ma mb : ME} {pos p2 : Pos}
theorem de_ix {r : R2} {f : Op2} (hr : IxR X r) (h : Ok2 G r f) (ha : DE X G W a ma) (hb : DE X G W b mb) (hs : PlainIx b := by exact fun _ _ => rfl) : DE X G W (.Subscript a b pos) (e2 f ma mb) := PE.imp (pe_ix hr ha hb hs) (op_imp h)

/-! ### slices -/
abbrev MO := DEnv → Store → Out (Option Int)
def oNone : MO := fun _ μ => .ok none μ
def asInt : Dv → Store → Out (Option Int)
  | .d (.int i), μ => .ok (some i) μ
  | _, _ => .bad
def oSome (a : ME) : MO := fun ρ μ => (a ρ μ).bind asInt
abbrev tO (G : GT) (W : WX) (m : MO) : TO := tD G W (fun _ b c => b = c) m
abbrev DO (X : Cx) (G : GT) (W : WX) (e : Option Expr) (m : MO) : Prop := PO X e (tO G W m)
theorem PO.imp {X : Cx} {e : Option Expr} {t t' : TO} (h : PO X e t) (i : ∀ σ H Q, t' σ H Q → t σ H Q) : PO X e t' := ⟨fun p s σ H Q I hw => h.run p s σ H Q I (i _ _ _ hw)⟩
theorem do_none : DO X G W none oNone := by
  refine PO.imp po_none ?_
  rintro σ H Q ⟨w, μ, ρ, hl, he, p⟩
  exact p w none H w.le_refl hl rfl
theorem do_some (h : DE X G W e ma) : DO X G W (some e) (oSome ma) := by
  refine PO.imp (po_some h) ?_
  rintro σ H Q ⟨w, μ, ρ, hl, he, p⟩
  refine tD.seq (k := fun ρ x μ => asInt x μ) hl he p fun w1 μ1 H1 v b l1 lay1 en1 r1 p1 => ?_
  cases b with
  | d x =>
    cases x with
    | int i => exact ⟨i, rv_int r1, p1 w1 _ H1 w1.le_refl lay1 rfl⟩
    | _ => exact p1.elim
  | _ => exact p1.elim
def cutL {α : Type} (xs : List α) (lo hi : Option Int) : List α := (xs.drop (HT.sIx xs.length 0 lo)).take (HT.sIx xs.length xs.length hi - HT.sIx xs.length 0 lo)
theorem cutL_V (xs : List V) (lo hi : Option Int) : cutL xs lo hi = cutV xs lo hi := rfl
def dSl (x : Dv) (lo hi : Option Int) (μ : Store) : Out Dv := match x with
  | .d (.str z) => if z.length ≤ sizeLine then .ok (.d (.str (cutS z lo hi))) μ else .bad
  | .d (.tuple ds) => .ok (.d (.tuple (cutL ds lo hi))) μ
  | x => match items x μ with
    | some bs => match allD (cutL bs lo hi) with
      | some ds => .ok (.d (.list ds)) μ
      | none => .bad
    | none => .bad
def eSl (a : ME) (l h : MO) : ME := fun ρ μ => (a ρ μ).bind fun x μ => (l ρ μ).bind fun i μ => (h ρ μ).bind fun j μ => dSl x i j μ
def rSl (K : PySem.W.Frag) : V → Option Int → Option Int → Hp → VK → Prop := fun x lo hi H Q => rSlS x lo hi H Q ∨ rSlA K x lo hi H Q ∨ rSlL K x lo hi H Q
theorem sl_any {X : Cx} : SlR X (rSl X.K) := sl_str.or (sl_tupA.or sl_list)
theorem RpA.cut {K : PySem.W.Frag} {I : Hp} {vs : List V} {ds : List D} (r : RpA K I vs ds) (lo hi : Option Int) : RpA K I (cutV vs lo hi) (cutL ds lo hi) := by
  unfold cutV cutL
  rw [r.length]
  exact (r.drop _).take _
theorem Rvs.drop {G : GT} {w : Wd} : ∀ {vs : List V} {bs : List Dv} (n : Nat), Rvs G w vs bs → Rvs G w (vs.drop n) (bs.drop n)
  | _, _, 0, r => r
  | _, _, n + 1, .nil => .nil
  | _, _, n + 1, .cons _ t => Rvs.drop n t
theorem Rvs.take {G : GT} {w : Wd} : ∀ {vs : List V} {bs : List Dv} (n : Nat), Rvs G w vs bs → Rvs G w (vs.take n) (bs.take n)
  | _, _, 0, r => by simp; exact .nil
  | _, _, n + 1, .nil => .nil
  | _, _, n + 1, .cons r t => .cons r (Rvs.take n t)
theorem de_slice {lo hi : Option Expr} {ml mh : MO} (hK : X.K = G.K) (ha : DE X G W a ma) (hl : DO X G W lo ml) (hh : DO X G W hi mh) : DE X G W (.Subscript a (.Slice lo hi none p2) pos) (eSl ma ml mh) := by
  refine PE.imp (pe_slice sl_any ha hl hh) ?_
  rintro σ H Q ⟨w, μ, ρ, hl, he, p⟩
  refine tD.seq (k := fun ρ x μ => (ml ρ μ).bind fun i μ => (mh ρ μ).bind fun j μ => dSl x i j μ) hl he p fun w1 μ1 H1 v b l1 lay1 en1 r1 p1 => ?_
  refine tD.seq (k := fun ρ i μ => (mh ρ μ).bind fun j μ => dSl b i j μ) lay1 en1 p1 fun w2 μ2 H2 i i' l2 lay2 en2 r2 p2 => ?_
  refine tD.seq (k := fun ρ j μ => dSl b i' j μ) lay2 en2 p2 fun w3 μ3 H3 j j' l3 lay3 en3 r3 p3 => ?_
  have r2 : i = i' := r2
  have r3 : j = j' := r3
  subst r2 r3
  have r1 := (r1.mono l2).mono l3
  unfold dSl at p3
  split at p3
  · split at p3
    · rename_i h
      exact .inl ⟨_, rv_str r1, h, p3 w3 _ H3 w3.le_refl lay3 (.str _)⟩
    · exact p3.elim
  · obtain ⟨a, vs, rfl, g1, g2⟩ := rv_tup r1
    refine .inr (.inl ⟨a, vs, rfl, by rw [hK]; exact seqT lay3.same g1, fun e => ?_, fun _ p' np => ?_⟩)
    · have : ∀ ds : List D, RpA G.K w3.I vs ds → cutL ds i j = ds := fun ds g2 => by
        unfold cutL
        rw [g2.length] at e
        rw [e.1, e.2]
        simp
      rw [this _ g2] at p3
      exact p3 w3 _ H3 w3.le_refl lay3 (.tup g1 g2)
    · obtain ⟨le, l2'⟩ := lay3.new np (.tup (cutV vs i j))
      exact p3 _ _ _ le l2' (.tup (SqT.of upd_same) (RpA.mono le.1 _ _ (g2.cut i j)))
  · split at p3
    · rename_i bs h
      split at p3
      · rename_i ds hd
        obtain ⟨a, vs, rfl, g1, g2⟩ := items_ok lay3 r1 h
        have g3 : Rvs G w3 (cutV vs i j) (cutL bs i j) := by
          unfold cutV cutL
          rw [Paired.length g2]
          exact Rvs.take _ (Rvs.drop _ g2)
        rw [allD_eq hd] at g3
        refine .inr (.inr ⟨a, vs, rfl, by rw [hK]; exact g1, fun p' np => ?_⟩)
        obtain ⟨le, l2'⟩ := lay3.new np (.lst (cutV vs i j))
        exact p3 _ _ _ le l2' (.lst (SqL.of upd_same) (RpA.mono le.1 _ _ (RpA_of_Rvs g3)))
      · exact p3.elim
    · exact p3.elim
end

/-! ### methods -/
def OkM (G : GT) (r : V → List V → Hp → VK → Prop) (f : Dv → OpN) : Prop := ∀ (W : WX) (σ : L2.St) (w : Wd) (μ : Store) (H : Hp) (x : V) (xs : List V) (b : Dv) (bs : List Dv) (Q : VK), Lay G w μ H → Rv G w x b → Rvs G w xs bs → Pst G W σ (Rv G) w (f b bs μ) Q → r x xs H Q
def OkT (G : GT) (T : String) (c : Dv → Store → Bool) : Prop := ∀ (w : Wd) (μ : Store) (H : Hp) (x : V) (b : Dv), Lay G w μ H → Rv G w x b → c b μ = true → tyV G.K T x H
def isStr : Dv → Store → Bool
  | .d (.str _), _ => true
  | _, _ => false
theorem ty_str {G : GT} : OkT G "str" isStr := by
  intro w μ H x b l r h
  unfold isStr at h
  split at h
  · rw [rv_str r]; exact rfl
  · cases h
def isList (b : Dv) (μ : Store) : Bool := (items b μ).isSome
theorem ty_list {G : GT} : OkT G "list" isList := by
  intro w μ H x b l r h
  unfold isList at h
  cases q : items b μ with
  | none => rw [q] at h; cases h
  | some xs =>
    obtain ⟨a, vs, rfl, g1, g2⟩ := items_ok l r q
    exact .inl ⟨rfl, vs, g1⟩
def eM (c : Dv → Store → Bool) (f : Dv → OpN) (o : ME) (a : MA) : ME := fun ρ μ => (o ρ μ).bind fun x μ => if c x μ = true then (a ρ μ).bind fun xs μ => f x xs μ else .bad
section
variable {X : Cx} {G : GT} {W : WX} {o e : Expr} {es : List Expr} {mo : ME} {mas : MA} {pos apos cpos : Pos} {T id : String} {name : Str} {r : V → List V → Hp → VK → Prop} {f : Dv → OpN} {c : Dv → Store → Bool}
theorem de_bm0 (pa : PlainAttrs T) (slot : Slot T name id) (hty : typeOf (.builtin id) = pure (.type "method_descriptor")) (hm : MtR X id r) (h : OkM G r f) (hT : OkT G T c) (hK : X.K = G.K) (ho : DE X G W o mo)
    (hbase : attributeBase o name X.env (eval o X.env) = eval o X.env := by rfl) (hline : (apos.endLine == cpos.line) = true := by rfl) : DE X G W (.Call (.Attribute o name apos) [] [] cpos) (eM c f mo aNil) := by
  refine PE.imp (pe_bm0 pa slot hty hm ho hbase hline) ?_
  rintro σ H Q ⟨w, μ, ρ, hl, he, p⟩
  refine tD.seq (k := fun ρ x μ => if c x μ = true then (aNil ρ μ).bind fun xs μ => f x xs μ else .bad) hl he p fun w1 μ1 H1 v b l1 lay1 en1 r1 p1 => ?_
  split at p1
  · rename_i hc
    exact ⟨by rw [hK]; exact hT w1 μ1 H1 v b lay1 r1 hc, h W σ w1 μ1 H1 v [] b [] Q lay1 r1 .nil p1⟩
  · exact p1.elim
theorem de_bm (pa : PlainAttrs T) (slot : Slot T name id) (hty : typeOf (.builtin id) = pure (.type "method_descriptor")) (hm : MtR X id r) (h : OkM G r f) (hT : OkT G T c) (hK : X.K = G.K) (ho : DE X G W o mo) (ha : DA X G W (e :: es) mas)
    (hbase : attributeBase o name X.env (eval o X.env) = eval o X.env := by rfl)
    (hfew : ((backTo cpos (starEach (e :: es) X.env)).all (fun x => !x.1) && (backToKw cpos (keywordEach [] X.env)).all (fun x => x.1.isSome)
      && decide ((e :: es).length + ([] : List Keyword).length + (if ([] : List Keyword).isEmpty then 0 else 1) < 30)) = true := by rfl)
    (hline : (apos.endLine == cpos.line) = true := by rfl) (hs : starEach (e :: es) X.env = (false, eval e X.env) :: starEach es X.env := by rfl) (hplain : (backTo cpos (starEach es X.env)).any (·.1) = false := by rfl) :
    DE X G W (.Call (.Attribute o name apos) (e :: es) [] cpos) (eM c f mo mas) := by
  refine PE.imp (pe_bm pa slot hty hm ho ha hbase hfew hline hs hplain) ?_
  rintro σ H Q ⟨w, μ, ρ, hl, he, p⟩
  refine tD.seq (k := fun ρ x μ => if c x μ = true then (mas ρ μ).bind fun xs μ => f x xs μ else .bad) hl he p fun w1 μ1 H1 v b l1 lay1 en1 r1 p1 => ?_
  split at p1
  · rename_i hc
    refine ⟨by rw [hK]; exact hT w1 μ1 H1 v b lay1 r1 hc, ?_⟩
    exact tD.seq (k := fun ρ xs μ => f b xs μ) lay1 en1 p1 fun w2 μ2 H2 vs bs l2 lay2 en2 r2 p2 => h W σ w2 μ2 H2 v vs b bs Q lay2 (r1.mono l2) r2 p2
  · exact p1.elim
end
end DL

/-! A law's end, by the promise of its def over data. -/
namespace DL
open PySem PySem.Spec PyProof.Rows L2

theorem RpA_ints {K : PySem.W.Frag} {I : Hp} : ∀ ns : List Int, RpA K I (ns.map V.int) (ns.map PyData.int)
  | [] => .nil
  | n :: ns => .cons (.int n) (RpA_ints ns)
/-- the law's call: its script is frozen, nothing else stands -/
theorem lawG {P : Program} {w : World} {G : GT} {mg mb : Str → Option Value} {k : Nat} {fa a : Addr} {fd : FuncData} {x : Str} {F : OpN} {s : Shared} {vs : List Value} {ns : List Int} {μ' : Store}
    (inK : G.K.In s.heap) (gl : s.heap.Ns mainGlobals mg) (bl : s.heap.Ns builtinsNs mb) (hbb : ∀ x : Str, x ≠ "__name__" → mb x = bootBuiltins x) (lim : s.heap.NoLimit) (gens : s.gens = #[])
    (ha : s.heap.get? a = some { cls := .type "list", data := .seq vs.toArray }) (hi : IntsAre vs ns) (hl : ns.length ≤ sizeLine) (room : Room k callerA)
    (hF : ∀ base : Heap, G.K.In base → base.Ns mainGlobals mg → FnG P w G.K mg base k fa fd [x] (spD G 1 F)) (bt : ∀ (s : Shared) (u : Value), BindsTo s fd ⟨[u], []⟩ [(x, u)])
    (hv : F [.d (.list (ns.map PyData.int))] [] = .ok (.d (.bool true)) μ') :
    codeAny (model P w) callerA (.call (.ref fa) ⟨[.ref a], []⟩) (fun r t => r = .ok (.ret (.bool true)) ∧ OldK s.heap t.heap ∧ t.os = s.os ∧ AllBare t.gens) s := by
  have rv := vals_ints hi
  have lenV := hi.length
  suffices main : ∀ H : Hp, (∀ b, H b ≠ none → b = a ∧ ∃ xs, H b = some (.frz { cls := .type "list", data := .seq vs.toArray } (.lst xs))) → SqL G.K H a (ns.map V.int) → HOk P w H s.heap → (H a ≠ none → G.K.lookup a = none) →
      codeAny (model P w) callerA (.call (.ref fa) ⟨[.ref a], []⟩) (fun r t => r = .ok (.ret (.bool true)) ∧ OldK s.heap t.heap ∧ t.os = s.os ∧ AllBare t.gens) s by
    cases hk : G.K.lookup a with
    | some o =>
      have e := inK a o hk
      rw [ha] at e
      cases e
      apply main (fun _ => none)
      · exact fun b z => absurd rfl z
      · exact Or.inr ⟨_, vs.toArray, _, hk, rfl, rfl, rfl, by rw [List.size_toArray, lenV]; exact hl, by simpa using rv⟩
      · intro b u z
        cases z
      · exact fun z => absurd rfl z
    | none =>
      have at_ : ∀ b u, (if b = a then some (HO.frz { cls := .type "list", data := .seq vs.toArray } (.lst (ns.map V.int))) else none) = some u → b = a ∧ u = .frz { cls := .type "list", data := .seq vs.toArray } (.lst (ns.map V.int)) := by
        intro b u z
        by_cases hb : b = a
        · rw [if_pos hb] at z
          exact ⟨hb, (Option.some.inj z).symm⟩
        · rw [if_neg hb] at z
          cases z
      apply main (fun b => if b = a then some (.frz { cls := .type "list", data := .seq vs.toArray } (.lst (ns.map V.int))) else none)
      · intro b z
        by_cases hb : b = a
        · exact ⟨hb, ns.map V.int, if_pos hb⟩
        · exact absurd (if_neg hb) z
      · exact Or.inl (Or.inr ⟨{ cls := .type "list", data := .seq vs.toArray }, if_pos rfl⟩)
      · intro b u z
        obtain ⟨rfl, rfl⟩ := at_ b u z
        exact ⟨ha, by rw [List.length_map]; exact hl, vs, _, rv, ha⟩
      · exact fun _ => hk
  intro H only sq ok own
  have keep : ∀ {b : Addr} {o : Obj}, s.heap.get? b = some o → H b = none → (hidT s.heap H).get? b = some o := hidT_get
  have isA : ∀ {b : Addr} {o : Obj} {es : Array DictEntry} {ep : Nat}, s.heap.get? b = some o → o.data = .dict es ep → H b = none := by
    intro b o es ep e d
    cases q : H b with
    | none => rfl
    | some u =>
      obtain ⟨rfl, _⟩ := only b (by rw [q]; simp)
      rw [ha] at e
      cases e
      cases d
  have kb : G.K.In (hidT s.heap H) := by
    intro b o e
    apply keep (inK b o e)
    cases q : H b with
    | none => rfl
    | some u =>
      obtain ⟨rfl, _⟩ := only b (by rw [q]; simp)
      rw [own (by rw [q]; simp)] at e
      cases e
  have nsB : ∀ {b : Addr} {m : Str → Option Value}, s.heap.Ns b m → (hidT s.heap H).Ns b m := by
    rintro b m ⟨o, es, ep, e, d, r⟩
    exact ⟨o, es, ep, keep e (isA e d), d, r⟩
  have md : Mod G.K mg (hidT s.heap H) := ⟨kb, nsB gl, ⟨mb, nsB bl, hbb⟩, by obtain ⟨mc, h1, h2⟩ := lim; exact ⟨mc, nsB h1, h2⟩⟩
  have e0 : Env0 P w G.K mg (hidT s.heap H) callerA [] s H := ⟨rfl, md, fun b o e => of_hidT e, Nat.le_of_eq (hidT_size _ _), trivial, fun b hb => absurd (show b ∈ ([] : List Addr) from hb) (by simp), ok, .of_eq gens⟩
  have sp : spD G 1 F [.ref a] H (fun v _ => v = .bl true) (fun _ _ _ => False) := by
    refine ⟨rfl, ⟨H, [], fun _ => none⟩, [], [.d (.list (ns.map PyData.int))], ?_, .cons (.lst sq (RpA_ints ns)) .nil, ?_⟩
    · exact ⟨Same.refl _, rfl, List.nodup_nil, fun a h => absurd h (by simp), fun b o e => (nomatch e), fun _ _ => rfl, fun a o e => (nomatch e), fun n c a e => absurd e (by simp)⟩
    · rw [hv]
      intro w' v H' _ _ r
      have r : Rp G.K w'.I v (.bool true) := r
      cases r
      rfl
  apply codeAny_mono ((hF _ kb (nsB gl)).run callerA [] s H ⟨[.ref a], []⟩ [.ref a] [.ref a] _ _ rfl room e0 (bt s (.ref a)) (.cons rfl .nil) sp)
  rintro (e | fl) t q
  · obtain ⟨_, _, _, _, _, _, _, _, _, _, _, _, z⟩ := q
    exact z.elim
  cases fl with
  | next => exact q.elim
  | brk => exact q.elim
  | cont => exact q.elim
  | ret u =>
    obtain ⟨v, H', os, bare, un, ok', r, rfl⟩ := q
    obtain rfl : u = Value.bool true := r
    refine ⟨rfl, ?_, os, bare⟩
    apply OldK.of_keep
    intro b o e
    cases q : H b with
    | none => exact un.keep b o e q (fun z => absurd (show b ∈ ([] : List Addr) from z) (by simp)) (by simp)
    | some u =>
      obtain ⟨_, xs, z⟩ := only b (by rw [q]; simp)
      have z2 := un.frzs b _ _ z
      obtain ⟨e1, _⟩ := ok b _ z
      obtain ⟨e2, _⟩ := ok' b _ z2
      rw [e] at e1
      cases e1
      exact e2
/-- the goal behind the head -/
theorem walkG {l : PySem.W.OpenLaw} {n k : Nat} {q : Program} {loose : List Str} {XP : (Str → Option Value) → Heap → Prop} {YP : World → Heap → Prop} {d : DefRec} {K : Params → PySem.W.Frag} {x : Str}
    (hn : l.most = some n) (hn2 : n ≤ sizeLine) (hdf : d.params.defaults = []) (hr : Room k callerA) (hY : ∀ (w : World) (h : Heap), YP w h → (K w.params).In h)
    (F : ∀ (w : World) (mg : Str → Option Value) (fa : Addr) (h : Heap), (K w.params).In h → h.Ns mainGlobals mg → mg d.name = some (.ref fa) →
      ∃ (fd : FuncData) (G : GT) (F : OpN), G.K = K w.params ∧ (∀ (s : Shared) (u : Value), BindsTo s fd ⟨[u], []⟩ [(x, u)]) ∧ (∀ base : Heap, (K w.params).In base → base.Ns mainGlobals mg → FnG l.prog w (K w.params) mg base k fa fd [x] (spD G 1 F)) ∧
        ∀ ns : List Int, ns.length ≤ n → (∀ i ∈ ns, Builtin.Int.intBits i ≤ 1048576) → ∃ μ', F [.d (.list (ns.map PyData.int))] [] = .ok (.d (.bool true)) μ') :
    PySem.W.WalkO q loose XP YP l.row.toRowW d [] (fun f vs => PySem.call f vs) := by
  apply Att.attach_callB hn hdf
  intro w s₀ s₁ mg mb fa o pm cd doc a vs ns T Y ho hd hcd hmg hobj hints hlen bits hg
  have inK := hY w _ Y
  obtain ⟨fd, G, F, eK, hb, hF, hv⟩ := F w mg fa _ inK T.T.g hmg
  obtain ⟨μ', hv⟩ := hv ns hlen bits
  rw [← eK] at inK hF
  exact lawG inK T.T.g T.T.b T.T.builtins T.T.nolimit hg hobj hints (Nat.le_trans hlen hn2) hr hF hb hv
end DL

/-! Statements of the data layer, further: a starred target, a cell's item stored, calls with keywords, comprehensions given to a name. -/
namespace DL
open PySem PySem.Spec PyProof.Rows L2

/-! ### a, *b = t -/
theorem ns_one {h : Heap} {L : Addr} {m m' : Str → Option Value} (x : h.Ns L m) (y : h.Ns L m') : m = m' := by
  obtain ⟨o, es, ep, e1, e2, _, e3⟩ := x
  obtain ⟨o', es', ep', f1, f2, _, f3⟩ := y
  rw [e1] at f1
  cases f1
  rw [e2] at f2
  cases f2
  funext z
  rw [← e3, ← f3]
section
variable {X : Cx} {pins : List (Addr × Obj)} {σ : L2.St} {H : Hp} {s : Shared}
theorem objok_there {P : Program} {w : World} {H : Hp} {h : Heap} {a : Addr} {o : HO} (x : ObjOk P w H h a o) : ∃ ob, h.get? a = some ob := by
  cases o with
  | lst xs => obtain ⟨_, _, _, _, e⟩ := x; exact ⟨_, e⟩
  | tup xs => obtain ⟨_, _, _, o, e, _⟩ := x; exact ⟨_, e⟩
  | dK kvs => obtain ⟨_, _, _, _, o, _, _, e, _⟩ := x; exact ⟨_, e⟩
  | dT kvs => obtain ⟨_, _, _, _, o, _, _, e, _⟩ := x; exact ⟨_, e⟩
  | set S n => obtain ⟨o, _, _, _, e, _⟩ := x; exact ⟨_, e⟩
  | ins C dx fs => obtain ⟨_, _, _, e, _⟩ := x; exact ⟨_, e⟩
  | own y => obtain ⟨_, e⟩ := x; exact ⟨_, e⟩
  | xd fs => obtain ⟨_, ⟨_, _, _, e, _⟩, _⟩ := x; exact ⟨_, e⟩
  | rng lo hi => obtain ⟨_, _, _, e⟩ := x; exact ⟨_, e⟩
  | frz ob u => obtain ⟨e, _⟩ := x; exact ⟨_, e⟩
  | tbl ps => exact ⟨_, x⟩
  | met f y => exact ⟨_, x⟩
  | ext φ => obtain ⟨_, ⟨_, e⟩, _⟩ := x; exact ⟨_, e⟩
theorem Inv.led {m : Str → Option Value} {h' : Heap} {tk : Nat} {D : Addr} {ys : List V} {its : List Value} (I : Inv X pins σ H s) (F : Fr X.base X.env.locals s.heap m) (F' : Fr X.base X.env.locals h' m) (N' : News X.base X.env.locals h' ((D, PySem.W.listOf its.toArray 0) :: allNews X.base s.heap X.env.locals))
    (lt : ∀ p ∈ allNews X.base s.heap X.env.locals, p.1 < D) (r : Vals ys its) (hz : ys.length ≤ sizeLine) : H D = none ∧ Inv X pins σ (upd H D (.lst ys)) { s with heap := h', toks := tk } := by
  obtain ⟨hD, nL, nb⟩ := N' (D, PySem.W.listOf its.toArray 0) List.mem_cons_self
  have fresh : s.heap.get? D = none := by
    cases q : s.heap.get? D with
    | none => rfl
    | some o => exact absurd (lt (D, o) (mem_allNews nL nb q)) (Nat.lt_irrefl _)
  have nH : H D = none := by
    cases q : H D with
    | none => rfl
    | some o =>
      obtain ⟨u, e⟩ := objok_there (I.hok D o q)
      rw [fresh] at e
      cases e
  have keep : ∀ b o, b ≠ X.env.locals → s.heap.get? b = some o → h'.get? b = some o := by
    intro b o hb e
    cases q : X.base.get? b with
    | some u =>
      have := F.keep b u q
      rw [e] at this
      cases this
      exact F'.keep b _ q
    | none => exact (N' (b, o) (List.mem_cons_of_mem _ (mem_allNews hb q e))).1
  have ns : ∀ m', s.heap.Ns X.env.locals m' → h'.Ns X.env.locals m' := fun m' hm => by rw [ns_one hm F.ns]; exact F'.ns
  refine ⟨nH, ?_⟩
  have sD : ∀ b o, s.heap.get? b = some o → b ≠ D := fun b o e z => by rw [z, fresh] at e; cases e
  apply I.step (g' := s.gens) (d' := s.drawn) (ch := [])
  · exact fun _ z => nomatch z
  · exact fun b o hb _ _ e _ => keep b o hb e
  · exact fun b o hb _ _ e _ => ⟨o.slots, keep b o hb e⟩
  · exact fun b o _ e n => by rw [upd_ne (sD b o e)]; exact n
  · intro b o _ e
    by_cases hb : b = X.env.locals
    · subst hb
      obtain ⟨o', _, _, e', _⟩ := F'.ns
      exact ⟨o', e'⟩
    · exact ⟨o, keep b o hb e⟩
  · exact fun b xs e => by rw [upd_ne (ne_of_none e nH)]; exact e
  · exact fun b o u e => by rw [upd_ne (ne_of_none e nH)]; exact e
  · exact fun b ps e => ⟨#[], by rw [upd_ne (ne_of_none e nH), e]; simp⟩
  · exact ns
  · intro b u e
    by_cases hb : b = D
    · subst hb
      rw [upd_same] at e
      cases e
      exact ⟨hz, its, 0, r, hD⟩
    · rw [upd_ne hb] at e
      refine (I.hok b u e).stay (fun c v hc q => keep c v ?_ q) (fun c q => by rw [upd_ne (ne_of_none q nH)]; exact q) fun c xs q => by rw [upd_ne (ne_of_none q nH)]; exact q
      rcases hc with rfl | hc
      · intro z; rw [z, I.free] at e; cases e
      · intro z; rw [z, I.free] at hc; cases hc
  · exact I.bare
end
def gStarV (K : PySem.W.Frag) (n : Nat) (t : TGs) : TG := fun v σ H Q => ∃ a xs, v = .ref a ∧ SqT K H a xs ∧ n ≤ xs.length ∧ xs.length ≤ 16384 ∧ ∀ D, H D = none → t (xs.take n ++ [.ref D]) σ (upd H D (.lst (xs.drop n))) Q
section
variable {X : Cx} {G : GT} {W : WX} {e t : Expr} {es : List Expr} {pos p : Pos} {g : MG} {gs : MGs} {S T : List Nat}
theorem pgs_star {tg : TG} {u : TGs} (h1 : PG X t tg) (h2 : PGs X es u) (hs : (assignEach (.Starred t p :: es) X.env).map (·.2) = assign t X.env :: (assignEach es X.env).map (·.2) := by rfl) : PGs X (.Starred t p :: es) (gCons tg u) := by
  constructor
  intro pins s σ H vs us Q I r h
  obtain ⟨v, vr, rfl, h⟩ := h
  cases r with
  | cons r rr =>
    rw [hs]
    apply assignInOrder_cons
    apply thn (h1.run pins s σ H _ _ _ I r h)
    rintro _ s1 ⟨σ1, H1, I1, q1⟩
    exact h2.run pins s1 σ1 H1 _ _ Q I1 rr q1
theorem pg_star {k n : Nat} {u : TGs} (hc : X.calm = true) (h : PGs X es u) (hn : (assignEach es X.env).length = n + 1 := by rfl) (hst : (assignEach es X.env).findIdx? (·.1) = some n := by rfl) : PG X (.Tuple es k pos) (gStarV X.K n u) := by
  constructor
  intro pins s σ H v uu Q I r hw
  obtain ⟨a, xs, rfl, hq, hl, h16, hw⟩ := hw
  cases r
  obtain ⟨its, rv, ht, hz⟩ := I.tuple hq
  obtain ⟨m, F⟩ := I.fr
  have hlen := rv.length
  refine PySem.W.kun_assignT (i := n) (n := n + 1) (first := its.take n) (mids := its.drop n) (lasts := []) F news_all ht (I.ok.hd hc) hn hst (Nat.lt_succ_self _) ?_ ?_ ?_ ?_ ?_ ?_
  · rw [List.size_toArray]; omega
  · rw [List.size_toArray]; omega
  · rfl
  · show (its.drop n).take (its.toArray.size + 1 - (n + 1)) = its.drop n
    rw [List.take_of_length_le]
    rw [List.length_drop, List.size_toArray]
    omega
  · show (its.drop n).drop (its.toArray.size + 1 - (n + 1)) = []
    rw [List.drop_of_length_le]
    rw [List.length_drop, List.size_toArray]
    omega
  · intro D h' tk F' N' lt
    obtain ⟨nH, I'⟩ := Inv.led (tk := tk) I F F' N' lt (rv.drop n) (by rw [List.length_drop]; omega)
    rw [List.append_nil]
    exact h.run pins _ σ _ _ _ Q I' ((rv.take n).append (Paired.cons (show L2.RelV (V.ref D) (Value.ref D) from rfl) .nil)) (hw D nH)
def gStar (n : Nat) (g : MGs) : MG := fun b ρ μ => match b with
  | .d (.tuple ds) => if n ≤ ds.length ∧ ds.length ≤ 16384 then g ((ds.take n).map .d ++ [.d (.list (ds.drop n))]) ρ μ else .bad
  | _ => .bad
theorem gcons_imp : ∀ vs σ H Q, tGs G (S ++ T) (gsCons g gs) vs σ H Q → gCons (tG G S g) (tGs G T gs) vs σ H Q := by
  rintro vs σ H Q ⟨w, μ, ρ, bs, hl, he, r, p⟩
  cases r with
  | nil => exact p.elim
  | @cons v b vs bs rv rr =>
    refine ⟨v, vs, rfl, w, μ, ρ, b, hl, he, rv, ?_⟩
    have p : PstG G w (S ++ T) σ ((g b ρ μ).bind fun ρ μ => gs bs ρ μ) Q := p
    cases q : g b ρ μ with
    | bad => rw [q] at p; exact p.elim
    | ex _ _ => rw [q] at p; exact p.elim
    | ok ρ1 μ1 =>
      rw [q] at p
      have p : PstG G w (S ++ T) σ (gs bs ρ1 μ1) Q := p
      refine fun w1 σ1 H1 l1 lay1 en1 ag => ⟨w1, μ1, ρ1, bs, lay1, en1, Rvs.mono l1 rr, ?_⟩
      cases q2 : gs bs ρ1 μ1 with
      | bad => rw [q2] at p; exact p.elim
      | ex _ _ => rw [q2] at p; exact p.elim
      | ok ρ2 μ2 =>
        rw [q2] at p
        exact fun w2 σ2 H2 l2 lay2 en2 ag2 => p w2 σ2 H2 (l1.trans l2) lay2 en2 (ag.trans ag2)
theorem dgs_star (h1 : DG X G S t g) (h2 : DGs X G T es gs) (hs : (assignEach (.Starred t p :: es) X.env).map (·.2) = assign t X.env :: (assignEach es X.env).map (·.2) := by rfl) : DGs X G (S ++ T) (.Starred t p :: es) (gsCons g gs) := PGs.imp (pgs_star h1 h2 hs) gcons_imp
theorem dg_star {k n : Nat} (hc : X.calm = true) (hK : X.K = G.K) (h : DGs X G S es gs) (hn : (assignEach es X.env).length = n + 1 := by rfl) (hst : (assignEach es X.env).findIdx? (·.1) = some n := by rfl) : DG X G S (.Tuple es k pos) (gStar n gs) := by
  refine PG.imp (pg_star hc h hn hst) ?_
  rintro v σ H Q ⟨w, μ, ρ, b, hl, he, r, p⟩
  unfold gStar at p
  split at p
  · rename_i ds
    split at p
    · rename_i hh
      obtain ⟨a, xs, rfl, h1, h2⟩ := rv_tup r
      refine ⟨a, xs, rfl, by rw [hK]; exact seqT hl.same h1, by rw [h2.length]; exact hh.1, by rw [h2.length]; exact hh.2, fun D nD => ?_⟩
      obtain ⟨le, l2⟩ := hl.new nD (.lst (xs.drop n))
      refine ⟨_, μ, ρ, _, l2, he.mono le, ?_, PstG.mono le p⟩
      have r1 : Rvs G (w.put D (.lst (xs.drop n))) (xs.take n) ((ds.take n).map .d) := Rvs_of_RpA (RpA.mono le.1 _ _ (h2.take n))
      have r2 : Rv G (w.put D (.lst (xs.drop n))) (.ref D) (.d (.list (ds.drop n))) := .lst (SqL.of upd_same) (RpA.mono le.1 _ _ (h2.drop n))
      exact Paired.rec (motive := fun l m _ => Rvs G (w.put D (.lst (xs.drop n))) (l ++ [.ref D]) (m ++ [.d (.list (ds.drop n))])) (.cons r2 .nil) (fun r _ ih => .cons r ih) r1
    · exact p.elim
  · exact p.elim
end

/-! ### x[i] = v of a cell -/
section
variable {G : GT} {w : Wd} {μ : Store} {H : Hp}
theorem get_nodup {l : List Addr} (h : l.Nodup) {i j : Nat} {a : Addr} (hi : l[i]? = some a) (hj : l[j]? = some a) : i = j := by
  obtain ⟨h1, e1⟩ := List.getElem?_eq_some_iff.mp hi
  obtain ⟨h2, e2⟩ := List.getElem?_eq_some_iff.mp hj
  exact (List.getElem_inj h).mp (e1.trans e2.symm)
/-- a cell is written -/
theorem Lay.write (l : Lay G w μ H) {n : Nat} {a : Addr} {c : Cell} {o : HO} (ha : w.α[n]? = some a) (nI : w.I a = none) (hc : ∀ H', H' a = some o → CellAt G w H' a c) : Lay G w (μ.set n c) (upd H a o) := by
  have nF := l.fd a (List.mem_of_getElem? ha)
  refine ⟨fun b u e => ?_, by rw [List.length_set]; exact l.len, l.nd, fun b hb => ?_, fun b u e => ?_, l.fd, l.di, fun m c' b e q => ?_⟩
  · rw [upd_ne (fun z => by rw [z, nI] at e; cases e)]; exact l.same b u e
  · by_cases z : b = a
    · subst z; exact ⟨o, upd_same⟩
    · rw [upd_ne z]; exact l.lv b hb
  · rw [upd_ne (fun z => by rw [z, nF] at e; cases e)]; exact l.fr b u e
  · by_cases z : n = m
    · subst z
      rw [ha] at q
      cases q
      have hn : n < μ.length := by rw [← l.len]; exact (List.getElem?_eq_some_iff.mp ha).1
      rw [List.getElem?_set_self hn] at e
      cases e
      exact hc _ upd_same
    · rw [List.getElem?_set_ne z] at e
      have ne : b ≠ a := fun y => z (get_nodup l.nd ha (y ▸ q))
      exact (l.at_ m c' b e q).cong (fun z => z) ⟨Same.refl _, List.prefix_refl _⟩ (upd_ne ne)
end
def dSetIx (x i v : Dv) (μ : Store) : Option Store := match x, i with
  | .c n, .d (.int k) => match μ[n]? with
    | some (.lst xs) => match ixN xs.length k with
      | some j => some (μ.set n (.lst (xs.set j v)))
      | none => none
    | _ => none
  | _, _ => none
def optN : Option Store → DEnv → Out Fl
  | some μ, ρ => .ok (.nx ρ) μ
  | none, _ => .bad
def sSetIx (m mo mi : ME) : MS := fun ρ μ => (m ρ μ).bind fun v μ => (mo ρ μ).bind fun x μ => (mi ρ μ).bind fun i μ => optN (dSetIx x i v μ) ρ
section
variable {X : Cx} {G : GT} {W : WX} {a b c e o tg : Expr} {es : List Expr} {m mo mi : ME} {mas : MA} {pos p : Pos} {S : List Nat}
theorem Rvs.set {w : Wd} {vs : List V} {bs : List Dv} (r : Rvs G w vs bs) {v : V} {b : Dv} (q : Rv G w v b) : ∀ j, Rvs G w (vs.set j v) (bs.set j b) := by
  induction r with
  | nil => intro j; exact .nil
  | cons r t ih =>
    intro j
    cases j with
    | zero => exact .cons q t
    | succ j => exact .cons r (ih j)
theorem ds_setIx {i : Expr} {pos' : Pos} (hv : DE X G W e m) (ho : DE X G W o mo) (hi : DE X G W i mi) (hs : swapsWithSole [.Subscript o i pos'] e pos.line X.env = pure false := by rfl) (hw : swappedStores [.Subscript o i pos'] e X.env = pure none := by rfl)
    (h1 : (assignEach [.Subscript o i pos'] X.env).map (·.2) = [assign (.Subscript o i pos') X.env] := by rfl)
    (ha : ∀ v, assign (.Subscript o i pos') X.env v = (do
      let ov ← holding [v] (eval o X.env)
      let iv ← holding [v, ov] (eval i X.env)
      standAt pos'
      holding [v, ov, iv] (setItem ov iv v)
      release [v, ov, iv] []) := by intro _; rfl) : DS X G W (.Assign [.Subscript o i pos'] e pos) (sSetIx m mo mi) := by
  refine PS.imp (ps_asg hv (pg_sub ho hi set_list ha) hs hw h1) ?_
  rintro D σ H ⟨w, μ, ρ, hl, he, p⟩
  refine tD.seqS (k := fun ρ v μ => (mo ρ μ).bind fun x μ => (mi ρ μ).bind fun i μ => optN (dSetIx x i v μ) ρ) hl he p fun w1 μ1 H1 v v' l1 lay1 en1 r1 p1 => ?_
  refine tD.seqS (k := fun ρ x μ => (mi ρ μ).bind fun i μ => optN (dSetIx x i v' μ) ρ) lay1 en1 p1 fun w2 μ2 H2 x x' l2 lay2 en2 r2 p2 => ?_
  refine tD.seqS (k := fun ρ i μ => optN (dSetIx x' i v' μ) ρ) lay2 en2 p2 fun w3 μ3 H3 y y' l3 lay3 en3 r3 p3 => ?_
  have r1 := (r1.mono l2).mono l3
  have r2 := r2.mono l3
  cases x' with
  | d _ => exact p3.elim
  | f _ => exact p3.elim
  | c n =>
    cases y' with
    | c _ => exact p3.elim
    | f _ => exact p3.elim
    | d yy =>
      cases yy with
      | int k =>
        unfold dSetIx at p3
        simp only at p3
        cases e : μ3[n]? with
        | none => simp only [e] at p3; exact p3.elim
        | some cl =>
          cases cl with
          | lst xs =>
            simp only [e] at p3
            cases q : ixN xs.length k with
            | none => simp only [q] at p3; exact p3.elim
            | some j =>
              simp only [q] at p3
              obtain ⟨a, g1, rfl⟩ := r2
              obtain ⟨nI, vs, g2, g3⟩ := lay3.at_ n _ a e g1
              refine ⟨a, vs, k, j, rfl, rv_int r3, g2, by rw [Paired.length g3]; exact q, ?_⟩
              exact p3 w3 σ _ w3.le_refl (lay3.write g1 nI fun H' e => ⟨nI, _, e, g3.set r1 j⟩) en3
          | _ => simp only [e] at p3; exact p3.elim
      | _ => exact p3.elim

/-! ### name = [.. for ..] -/
theorem ds_setLc {i : Nat} {y : Str} {py : Pos} {elt tg iter : Expr} {ifs : List Expr} {scope : Scope} (own : List (Str × Nat)) {lpos spos : Pos} {mi : MI} {g : MG} {tt : MT} {te : ME} {fin : OpN} (hf : OkFin G fin) (hc : X.calm = true) (hN : X.N.Nodup)
    (hi : DI X G W tg iter mi) (ok : BlkOk X.N X.env.scope scope own)
    (hg : ∀ (s : Shared) (H : Hp) (C : Addr) (cl : List (Str × Addr)) (fp : List Addr), DG (X.blk s H scope (compEnvC scope cl C X.env) fp) G S tg g) (ht : ∀ (s : Shared) (H : Hp) (C : Addr) (cl : List (Str × Addr)) (fp : List Addr), PTs (X.blk s H scope (compEnvC scope cl C X.env) fp) ifs (tT G W0 tt))
    (he : ∀ (s : Shared) (H : Hp) (C : Addr) (cl : List (Str × Addr)) (fp : List Addr), DE (X.blk s H scope (compEnvC scope cl C X.env) fp) G W0 elt te)
    (hy : X.N[i]? = some y := by rfl) (hyl : X.env.scope.names.lookup y = some .local := by rfl) (hsw : swapsWith (.ListComp elt [⟨tg, iter, ifs, 0⟩] scope lpos) (some (.Name y py)) spos.line X.env = pure true := by exact sw_true rfl rfl rfl (by decide +kernel))
    (hS : ∀ i ∈ S, i ∈ own.map (·.2) := by decide) (hs : ∀ x, foldedSetIterable iter X.env x = pure x := by intro _; rfl) :
    DS X G W (.Assign [.Name y py] (.ListComp elt [⟨tg, iter, ifs, 0⟩] scope lpos) spos) (sSet i (eLc fin mi g tt te (own.map (·.2)))) := by
  refine PS.imp (ps_setLc hc hN hy hyl hsw hi ok hg ht he hs) ?_
  rintro D σ H ⟨w, μ, ρ, hl, he, p⟩
  apply lc_imp hf hS
  exact tD.seqS (k := fun ρ b μ => .ok (.nx (ρ.set i (some b))) μ) hl he p fun w1 μ1 H1 v b l1 lay1 en1 r1 p1 => p1 w1 _ H1 w1.le_refl lay1 (en1.set i r1)
end

/-! ### calls with keywords -/
def pickL {α : Type} (d : α) (ix : List Nat) (l : List α) : List α := ix.map fun i => l.getD i d
def eCallK (n m : Nat) (ix : List Nat) (F : OpN) (a k : MA) : ME := fun ρ μ => (a ρ μ).bind fun bs μ => (k ρ μ).bind fun cs μ => if cs.length = m then fCall n F (pickL (.d .none) ix (bs ++ cs)) μ else .bad
abbrev DK (X : Cx) (G : GT) (W : WX) (ks : List Keyword) (m : MA) : Prop := PK X ks (tA G W m)
section
variable {X : Cx} {G : GT} {W : WX} {e : Expr} {es : List Expr} {kws : List Keyword} {ma : ME} {mas mks : MA} {pos p kpos : Pos} {x : Str} {nm : Option Str} {k n : Nat} {f : Addr} {fd : FuncData} {ps ks : List Str} {F : OpN} {ix : List Nat}
theorem PK.imp {t t' : TA} (h : PK X kws t) (i : ∀ σ H Q, t' σ H Q → t σ H Q) : PK X kws t' := ⟨fun po p s σ H Q I hw => h.run po p s σ H Q I (i _ _ _ hw)⟩
theorem dk_nil : DK X G W [] aNil := by
  refine PK.imp pk_nil ?_
  rintro σ H Q ⟨w, μ, ρ, hl, he, p⟩
  exact p w [] H w.le_refl hl .nil
theorem dk_cons (ha : DE X G W e ma) (hr : DK X G W kws mks) : DK X G W (⟨nm, e, kpos⟩ :: kws) (aCons ma mks) := PK.imp (pk_cons ha hr) acons_imp
theorem pick_vals {vs : List V} {us : List Value} (r : Vals vs us) : ∀ ix : List Nat, Vals (pickL .non ix vs) (pickL .none ix us)
  | [] => .nil
  | i :: ix => by
    refine .cons ?_ (pick_vals r ix)
    cases e : vs[i]? with
    | none =>
      have e2 := r.none_of e
      simp only [List.getD, e, e2]
      rfl
    | some v =>
      obtain ⟨u, e2, q⟩ := r.get e
      simp only [List.getD, e, e2]
      exact q
theorem pick_rvs {w : Wd} {vs : List V} {bs : List Dv} (r : Rvs G w vs bs) : ∀ ix : List Nat, Rvs G w (pickL .non ix vs) (pickL (.d .none) ix bs)
  | [] => .nil
  | i :: ix => by
    refine .cons ?_ (pick_rvs r ix)
    have hl := Paired.length r
    cases e : bs[i]? with
    | none =>
      have e2 : vs[i]? = none := List.getElem?_eq_none (by have := List.getElem?_eq_none_iff.mp e; omega)
      simp only [List.getD, e, e2]
      exact .non
    | some b =>
      obtain ⟨v, e2, q⟩ := r.at e
      simp only [List.getD, e, e2]
      exact q
/-- f(k = v, ..), keywords alone -/
theorem de_callK0 (hF : FnG X.prog X.w X.K X.mg X.base k f fd ps (spD G n F)) (g : X.A.guards = some []) (hr : Room k X.A) (hg : Gl X x) (hm : X.mg x = some (.ref f)) (hk : PySem.W.keepIn X.K (.ref f) = true)
    (hb : ∀ (s : Shared) (ws : List Value), ws.length = ks.length → BindsTo s fd ⟨[] ++ [], ks.zip ws⟩ (ps.zip (pickL .none ix ws))) (tk : Takes X W)
    (hkw : DK X G W kws mks) (hall : (backToKw pos (keywordEach kws X.env)).all (·.1.isSome) = true := by rfl) (hks : (backToKw pos (keywordEach kws X.env)).filterMap (·.1) = ks := by rfl)
    (hdb : (x == ("__debug__" : Str)) = false := by decide) (hpl : ((backTo pos (starEach [] X.env)).any (·.1) || (backToKw pos (keywordEach kws X.env)).any (·.1.isNone)) = false := by rfl) :
    DE X G W (.Call (.Name x p) [] kws pos) (eCallK n ks.length ix F aNil mks) := by
  constructor
  rintro pins s σ H Q I ⟨w, μ, ρ, hl, he, pp⟩
  apply wpAny_Call_Name_kw
  apply ld_glob I hg hm _ hdb
  apply PySem.W.callWith_KW0 (h₀ := X.base) I.ok.mod.kin hk hall _ hpl
  have pp : Pst G W σ (Rv G) w ((mks ρ μ).bind fun cs μ => if cs.length = ks.length then fCall n F (pickL (.d .none) ix ([] ++ cs)) μ else .bad) Q := pp
  apply thn (hkw.run pos pins s σ H (fun zs H2 => zs.length = ks.length ∧ (spD G n F) (pickL .non ix zs) H2 Q (WE W σ)) I (tD.seq (k := fun ρ cs μ => if cs.length = ks.length then fCall n F (pickL (.d .none) ix ([] ++ cs)) μ else .bad) hl he pp fun w1 μ1 H1 vs bs l1 lay1 en1 r1 p1 => ?_))
  · rintro ws s1 ⟨zs, H1, I1, r, hz, q⟩
    refine ⟨I1.kIn, ?_⟩
    rw [hks]
    apply wpAny_call
    apply codeAny_mono (runG hF g hr (fun _ _ _ _ _ I c => passAt tk σ _ _ _ _ _ I c) I1 (hb s1 ws (by rw [← r.length]; exact hz)) (pick_vals r ix) q)
    rintro (e | fl) s' q
    · exact q
    · cases fl with
      | ret u => exact q
      | next => exact q.elim
      | brk => exact q.elim
      | cont => exact q.elim
  · by_cases hb : bs.length = ks.length
    · simp only [if_pos hb, List.nil_append] at p1
      refine ⟨by rw [Paired.length r1]; exact hb, ?_⟩
      unfold fCall at p1
      by_cases q : (pickL (.d .none) ix bs).length = n
      · rw [if_pos q] at p1
        refine ⟨?_, w1, μ1, _, lay1, pick_rvs r1 ix, ?_⟩
        · rw [← q, pickL, pickL, List.length_map, List.length_map]
        · cases z : F (pickL (.d .none) ix bs) μ1 with
          | ok c μ2 => rw [z] at p1; exact p1
          | ex c μ2 => rw [z] at p1; exact p1
          | bad => rw [z] at p1; exact p1
      · rw [if_neg q] at p1
        exact p1.elim
    · simp only [if_neg hb] at p1
      exact p1.elim
end
end DL

/-! The data layer: built-in functions, methods of texts, what is walked. -/
namespace DL
open PySem PySem.Spec PyProof.Rows L2

theorem CallR.or {X : Cx} {f : Value} {r r' : List V → Hp → VK → Prop} (h : CallR X f r) (h' : CallR X f r') : CallR X f (fun xs H Q => r xs H Q ∨ r' xs H Q) := by
  intro pins s σ H xs us Q I rx q
  rcases q with q | q
  · exact h pins s σ H xs us Q I rx q
  · exact h' pins s σ H xs us Q I rx q
theorem MtR.or {X : Cx} {f : String} {r r' : V → List V → Hp → VK → Prop} (h : MtR X f r) (h' : MtR X f r') : MtR X f (fun x xs H Q => r x xs H Q ∨ r' x xs H Q) := by
  intro pins s σ H x xs v us Q I rv rx q
  rcases q with q | q
  · exact h pins s σ H x xs v us Q I rv rx q
  · exact h' pins s σ H x xs v us Q I rv rx q

/-! ### one, two arguments -/
def n1 (f : Dv → Store → Out Dv) : OpN := fun bs μ => match bs with
  | [b] => f b μ
  | _ => .bad
def n2 (f : Dv → Dv → Store → Out Dv) : OpN := fun bs μ => match bs with
  | [b, c] => f b c μ
  | _ => .bad
section
variable {G : GT}
theorem ok_n1 {r : List V → Hp → VK → Prop} {f : Dv → Store → Out Dv} (h : ∀ (W : WX) (σ : L2.St) (w : Wd) (μ : Store) (H : Hp) (x : V) (b : Dv) (Q : VK), Lay G w μ H → Rv G w x b → Pst G W σ (Rv G) w (f b μ) Q → r [x] H Q) : OkN G r (n1 f) := by
  intro W σ w μ H xs bs Q l r p
  match bs, r, p with
  | [b], .cons r .nil, p => exact h W σ w μ H _ b Q l r p
  | [], _, p => exact p.elim
  | _ :: _ :: _, _, p => exact p.elim
theorem ok_n2 {r : List V → Hp → VK → Prop} {f : Dv → Dv → Store → Out Dv} (h : ∀ (W : WX) (σ : L2.St) (w : Wd) (μ : Store) (H : Hp) (x y : V) (b c : Dv) (Q : VK), Lay G w μ H → Rv G w x b → Rv G w y c → Pst G W σ (Rv G) w (f b c μ) Q → r [x, y] H Q) : OkN G r (n2 f) := by
  intro W σ w μ H xs bs Q l r p
  match bs, r, p with
  | [b, c], .cons r (.cons r' .nil), p => exact h W σ w μ H _ _ b c Q l r r' p
  | [], _, p => exact p.elim
  | [_], _, p => exact p.elim
  | _ :: _ :: _ :: _, _, p => exact p.elim

def dLen : OpN := n1 fun b μ => match b with
  | .d (.str z) => if z.length ≤ sizeLine then .ok (.d (.int z.length)) μ else .bad
  | b => match itemsA b μ with
    | some xs => .ok (.d (.int xs.length)) μ
    | none => .bad
theorem ok_len : OkN G (fun xs H Q => ∃ x n, xs = [x] ∧ LenV G.K x H n ∧ Q (.int n) H) dLen := by
  apply ok_n1
  intro W σ w μ H x b Q l r p
  split at p
  · split at p
    · rename_i h
      rw [rv_str r]
      exact ⟨_, _, rfl, ⟨h, rfl⟩, p w _ H w.le_refl l (.int _)⟩
    · exact p.elim
  · split at p
    · rename_i xs h
      obtain ⟨a, vs, rfl, g1, g2⟩ := itemsA_ok l r h
      refine ⟨_, xs.length, rfl, ?_, p w _ H w.le_refl l (.int _)⟩
      rcases g1 with g1 | g1
      · exact .inl ⟨vs, g1, (Paired.length g2).symm⟩
      · exact .inr ⟨vs, g1, (Paired.length g2).symm⟩
    · exact p.elim
def dInt : OpN := n1 fun b μ => match b with
  | .d (.int i) => .ok (.d (.int i)) μ
  | .d (.bool k) => .ok (.d (.int (if k then 1 else 0))) μ
  | .d (.str z) => match PySem.intText? z with
    | some n => if z.length ≤ 640 then .ok (.d (.int n)) μ else .bad
    | none => .bad
  | _ => .bad
def rInt1 : List V → Hp → VK → Prop := fun xs H Q => (∃ i, xs = [.int i] ∧ Q (.int i) H) ∨ ∃ k, xs = [.bl k] ∧ Q (.int (if k then 1 else 0)) H
def rIntS : List V → Hp → VK → Prop := fun xs H Q => ∃ a n, xs = [.str a] ∧ PySem.intText? a = some n ∧ a.length ≤ 640 ∧ Q (.int n) H
theorem call_intA {X : Cx} : CallR X (.type "int") (fun xs H Q => rInt1 xs H Q ∨ rIntS xs H Q) := CallR.or (r := rInt1) (r' := rIntS) call_int1 call_int_str
theorem ok_int : OkN G (fun xs H Q => rInt1 xs H Q ∨ rIntS xs H Q) dInt := by
  apply ok_n1
  intro W σ w μ H x b Q l r p
  split at p
  · rw [rv_int r]; exact .inl (.inl ⟨_, rfl, p w _ H w.le_refl l (.int _)⟩)
  · rw [rv_bl r]; exact .inl (.inr ⟨_, rfl, p w _ H w.le_refl l (.int _)⟩)
  · split at p
    · rename_i h
      split at p
      · rename_i h2
        rw [rv_str r]; exact .inr ⟨_, _, rfl, h, h2, p w _ H w.le_refl l (.int _)⟩
      · exact p.elim
    · exact p.elim
  · exact p.elim
def dStr : OpN := n1 fun b μ => match b with
  | .d (.int i) => if i.natAbs.log2 < 1920 then .ok (.d (.str (toString i))) μ else .bad
  | .d (.str z) => .ok (.d (.str z)) μ
  | _ => .bad
def rStrI : List V → Hp → VK → Prop := fun xs H Q => ∃ i, xs = [.int i] ∧ i.natAbs.log2 < 1920 ∧ Q (.str (toString i)) H
def rStrS : List V → Hp → VK → Prop := fun xs H Q => ∃ a, xs = [.str a] ∧ Q (.str a) H
theorem call_strA {X : Cx} : CallR X (.type "str") (fun xs H Q => rStrI xs H Q ∨ rStrS xs H Q) := CallR.or (r := rStrI) (r' := rStrS) call_str_int SkE.call_str_str
theorem ok_str : OkN G (fun xs H Q => rStrI xs H Q ∨ rStrS xs H Q) dStr := by
  apply ok_n1
  intro W σ w μ H x b Q l r p
  split at p
  · split at p
    · rename_i h
      rw [rv_int r]; exact .inl ⟨_, rfl, h, p w _ H w.le_refl l (.str _)⟩
    · exact p.elim
  · rw [rv_str r]; exact .inr ⟨_, rfl, p w _ H w.le_refl l (.str _)⟩
  · exact p.elim
def dAbs : OpN := n1 fun b μ => match b with
  | .d (.int i) => .ok (.d (.int (if i < 0 then -i else i))) μ
  | _ => .bad
theorem ok_abs : OkN G (fun xs H Q => ∃ i, xs = [.int i] ∧ Q (.int (if i < 0 then -i else i)) H) dAbs := by
  apply ok_n1
  intro W σ w μ H x b Q l r p
  split at p
  · rw [rv_int r]; exact ⟨_, rfl, p w _ H w.le_refl l (.int _)⟩
  · exact p.elim
def dMax : OpN := n2 fun b c μ => match b, c with
  | .d (.int i), .d (.int j) => .ok (.d (.int (if j > i then j else i))) μ
  | _, _ => .bad
theorem ok_max : OkN G (fun xs H Q => ∃ i j, xs = [.int i, .int j] ∧ Q (.int (if j > i then j else i)) H) dMax := by
  apply ok_n2
  intro W σ w μ H x y b c Q l r r' p
  split at p
  · rw [rv_int r, rv_int r']; exact ⟨_, _, rfl, p w _ H w.le_refl l (.int _)⟩
  · exact p.elim
def dMin : OpN := n2 fun b c μ => match b, c with
  | .d (.int i), .d (.int j) => .ok (.d (.int (if j < i then j else i))) μ
  | _, _ => .bad
theorem ok_min : OkN G (fun xs H Q => ∃ i j, xs = [.int i, .int j] ∧ Q (.int (if j < i then j else i)) H) dMin := by
  apply ok_n2
  intro W σ w μ H x y b c Q l r r' p
  split at p
  · rw [rv_int r, rv_int r']; exact ⟨_, _, rfl, p w _ H w.le_refl l (.int _)⟩
  · exact p.elim
def allB : List Dv → Option (List Bool)
  | [] => some []
  | .d (.bool k) :: r => match allB r with
    | some ks => some (k :: ks)
    | none => none
  | _ => none
theorem allB_map : ∀ ks : List Bool, allB (ks.map fun k => .d (.bool k)) = some ks
  | [] => rfl
  | k :: ks => by rw [List.map_cons, allB, allB_map ks]
theorem allB_eq : ∀ {bs : List Dv} {ks : List Bool}, allB bs = some ks → bs = (ks.map PyData.bool).map Dv.d
  | [], _, h => by cases h; rfl
  | .d (.bool k) :: r, _, h => by
    unfold allB at h
    cases q : allB r with
    | none => rw [q] at h; cases h
    | some xs => rw [q] at h; cases h; rw [allB_eq q]; rfl
def dAll (f : List Bool → Bool) : OpN := n1 fun b μ => match items b μ with
  | some bs => match allB bs with
    | some ks => .ok (.d (.bool (f ks))) μ
    | none => .bad
  | none => .bad
theorem bools_ok {w : Wd} {μ : Store} {H : Hp} {x : V} {b : Dv} {bs : List Dv} {ks : List Bool} (l : Lay G w μ H) (r : Rv G w x b) (h : items b μ = some bs) (h2 : allB bs = some ks) : ∃ a, x = .ref a ∧ SqL G.K H a (ks.map V.bl) := by
  obtain ⟨a, vs, rfl, g1, g2⟩ := items_ok l r h
  rw [allB_eq h2] at g2
  rw [rv_bls (RpA_of_Rvs g2)] at g1
  exact ⟨a, rfl, g1⟩
theorem ok_all : OkN G (rAll G.K) (dAll fun ks => ks.all id) := by
  apply ok_n1
  intro W σ w μ H x b Q l r p
  split at p
  · rename_i bs h
    split at p
    · rename_i ks h2
      obtain ⟨a, rfl, g⟩ := bools_ok l r h h2
      exact ⟨a, ks, rfl, g, p w _ H w.le_refl l (.bl _)⟩
    · exact p.elim
  · exact p.elim
theorem ok_any : OkN G (rAny G.K) (dAll fun ks => ks.any id) := by
  apply ok_n1
  intro W σ w μ H x b Q l r p
  split at p
  · rename_i bs h
    split at p
    · rename_i ks h2
      obtain ⟨a, rfl, g⟩ := bools_ok l r h h2
      exact ⟨a, ks, rfl, g, p w _ H w.le_refl l (.bl _)⟩
    · exact p.elim
  · exact p.elim
def allI : List Dv → Option (List Int)
  | [] => some []
  | .d (.int k) :: r => match allI r with
    | some ks => some (k :: ks)
    | none => none
  | _ => none
theorem allI_map : ∀ ks : List Int, allI (ks.map fun k => .d (.int k)) = some ks
  | [] => rfl
  | k :: ks => by rw [List.map_cons, allI, allI_map ks]
theorem allI_eq : ∀ {bs : List Dv} {ks : List Int}, allI bs = some ks → bs = (ks.map PyData.int).map Dv.d
  | [], _, h => by cases h; rfl
  | .d (.int k) :: r, _, h => by
    unfold allI at h
    cases q : allI r with
    | none => rw [q] at h; cases h
    | some xs => rw [q] at h; cases h; rw [allI_eq q]; rfl
def dSum : OpN := n1 fun b μ => match items b μ with
  | some bs => match allI bs with
    | some ks => .ok (.d (.int ks.sum)) μ
    | none => .bad
  | none => .bad
theorem ok_sum : OkN G (rSum G.K) dSum := by
  apply ok_n1
  intro W σ w μ H x b Q l r p
  split at p
  · rename_i bs h
    split at p
    · rename_i ks h2
      obtain ⟨a, vs, rfl, g1, g2⟩ := items_ok l r h
      rw [allI_eq h2] at g2
      rw [rv_ints (RpA_of_Rvs g2)] at g1
      exact ⟨a, ks, rfl, g1, p w _ H w.le_refl l (.int _)⟩
    · exact p.elim
  · exact p.elim

/-! ### repr -/
def rRepr (K : PySem.W.Frag) : List V → Hp → VK → Prop := fun xs H Q => ∃ x d, xs = [x] ∧ Dp K H x d ∧ d.showable = true ∧ d.hasDict = false ∧ d.depth ≤ 40 ∧ d.shown.length ≤ sizeLine ∧ Q (.str d.shown) H
theorem call_reprA {X : Cx} (g : X.A.guards = some []) (hu : X.A.units + 64 < cLine) : CallR X (.builtin "repr") (rRepr X.K) := by
  intro pins s σ H xs us Q I r h
  obtain ⟨x, d, rfl, dp, sh, nd, dep, sz, q⟩ := h
  obtain ⟨u, rfl, r1⟩ := vals1 r
  obtain ⟨as, rd⟩ := Dp.reads I d x u dp r1
  have fin : ∀ h' u tk, (∀ b o, s.heap.get? b = some o → h'.get? b = some o) → EP X pins σ Q (.str d.shown u) { s with heap := h', toks := tk } := fun h' u tk hk => ⟨.str d.shown, H, I.kept hk, ⟨u, rfl⟩, q⟩
  have go : isDisplay d = true → wpAny (model X.prog X.w) X.A (call (.builtin "repr") [u]) (EP X pins σ Q) X.xe s := fun hd => by
    obtain ⟨a, rfl⟩ := isRef_of_reads rd hd
    exact repr_of_reads' rd sh (PyData.noDict_hsm nd) g (by omega) (fun _ _ e => e) fin sz
  cases d with
  | none => cases rd; exact PySem.P.repr_of_none (fin s.heap _ _ fun _ _ e => e)
  | bool b => cases rd; exact PySem.P.repr_of_bool (fin s.heap _ _ fun _ _ e => e)
  | int i => cases rd; exact PySem.P.repr_of_int (by simpa [PyData.showable] using sh) (fin s.heap _ _ fun _ _ e => e)
  | str z => cases rd; exact PySem.P.repr_of_str (fin s.heap _ _ fun _ _ e => e) (hsz := by simpa [PyData.shown] using sz)
  | list ds => exact go rfl
  | tuple ds => exact go rfl
  | dict ds => cases dp
def dRepr : OpN := n1 fun b μ => match view b μ with
  | some d => if (d.showable && nodict d && !d.hasDict && decide (d.depth ≤ 40) && decide (d.shown.length ≤ sizeLine)) = true then .ok (.d (.str d.shown)) μ else .bad
  | none => .bad
theorem ok_repr : OkN G (rRepr G.K) dRepr := by
  apply ok_n1
  intro W σ w μ H x b Q l r p
  split at p
  · rename_i d h
    split at p
    · rename_i h2
      simp only [Bool.and_eq_true, decide_eq_true_eq, Bool.not_eq_true'] at h2
      exact ⟨x, d, rfl, Rp.dp _ _ h2.1.1.1.2 (view_ok l r h), h2.1.1.1.1, h2.1.1.2, h2.1.2, h2.2, p w _ H w.le_refl l (.str _)⟩
    · exact p.elim
  · exact p.elim
end
end DL

/-! The data layer: what is walked, methods of texts, cells frozen. -/
namespace DL
open PySem PySem.Spec PyProof.Rows L2

/-! ### what is walked -/
def signs (z : Str) : List Dv := z.cps.toList.map fun c => .d (.str ⟨#[c]⟩)
/-- a frozen list, a tuple, a text -/
def walkD : Dv → Store → Out (List Dv)
  | .d (.str z), μ => .ok (signs z) μ
  | .d (.list ds), μ => .ok (ds.map .d) μ
  | .d (.tuple ds), μ => .ok (ds.map .d) μ
  | _, _ => .bad
def iSeq (a : ME) : MI := fun ρ μ => (a ρ μ).bind walkD
section
variable {G : GT} {w : Wd}
theorem it_tup {a : Addr} {vs : List V} {bs : List Dv} (hs : SqT G.K w.I a vs) (r : Rvs G w vs bs) : ItR G w (Itt G.K a) bs where
  go := fun i w' μ H hi l lay => ⟨vs, vs[i]'(by rw [Paired.length r]; exact hi), seqT (Same.trans l.1 lay.same) hs, by simp⟩
  yld := fun i b w' μ H x H' e l lay y => by
    obtain ⟨rfl, y⟩ := y
    obtain ⟨v, e1, q⟩ := r.at e
    have := y vs (seqT (Same.trans l.1 lay.same) hs)
    rw [e1] at this
    cases this
    exact ⟨w', w'.le_refl, lay, q.mono l⟩
  stop := fun i w' μ H hi l lay => ⟨vs, seqT (Same.trans l.1 lay.same) hs, by rw [Paired.length r]; exact hi⟩
theorem it_str (z : Str) : ItR G w (Its z) (signs z) where
  go := fun i w' μ H hi l lay => by
    have hi : i < z.cps.toList.length := by simpa [signs] using hi
    show i < z.cps.size
    simpa using hi
  yld := fun i b w' μ H x H' e l lay y => by
    obtain ⟨rfl, c, e1, rfl⟩ := y
    unfold signs at e
    rw [List.getElem?_map, Array.getElem?_toList, e1] at e
    cases e
    exact ⟨w', w'.le_refl, lay, .str _⟩
  stop := fun i w' μ H hi l lay => by
    have hi : z.cps.toList.length ≤ i := by simpa [signs] using hi
    show z.cps.size ≤ i
    simpa using hi
theorem it_range (lo : Int) (n : Nat) : ItR G w (Itr lo n) ((List.range n).map fun (i : Nat) => Dv.d (.int (lo + (i : Int)))) where
  go := fun i w' μ H hi l lay => by
    rw [List.length_map, List.length_range] at hi
    exact hi
  yld := fun i b w' μ H x H' e l lay y => by
    obtain ⟨rfl, rfl⟩ := y
    rw [List.getElem?_map] at e
    cases q : (List.range n)[i]? with
    | none => rw [q] at e; cases e
    | some j =>
      rw [q] at e
      cases e
      obtain ⟨h1, h2⟩ := List.getElem?_eq_some_iff.mp q
      rw [List.getElem_range] at h2
      subst h2
      exact ⟨w', w'.le_refl, lay, .int _⟩
  stop := fun i w' μ H hi l lay => by
    rw [List.length_map, List.length_range] at hi
    exact hi
end
def iAny (K : PySem.W.Frag) (te : TE) : TI := fun σ H R => te σ H fun x H1 => (∃ a, x = .ref a ∧ (∃ xs, SqL K H1 a xs) ∧ R (Itl K a) H1) ∨ (∃ a, x = .ref a ∧ (∃ xs, SqT K H1 a xs) ∧ R (Itt K a) H1) ∨ ∃ z, x = .str z ∧ R (Its z) H1
section
variable {X : Cx} {G : GT} {W : WX} {tg e : Expr} {es : List Expr} {m : ME} {mas : MA} {pos p : Pos}
theorem pi_any {te : TE} (he : PE X e te) : PI X tg e (iAny X.K te) := by
  constructor
  intro pins s σ H R I h
  apply thn (he.run pins s σ H _ I h)
  rintro v s1 ⟨x, H1, I1, r1, ⟨a, rfl, ⟨xs, hq⟩, q⟩ | ⟨a, rfl, ⟨xs, hq⟩, q⟩ | ⟨z, rfl, q⟩⟩
  · cases r1
    obtain ⟨its, rv, pl, _⟩ := I1.list hq
    apply wpAny_pyIter_list pl.isList
    exact pi_one (tk := s1.toks) I1 _ (turn_list a _) ⟨_, Heap.get?_push_size _ rfl, rfl, rfl⟩ q
  · cases r1
    obtain ⟨its, rv, pt, _⟩ := I1.tuple hq
    apply wpAny_pyIter_tuple (show s1.heap.IsTuple a its.toArray from pt)
    exact pi_one (tk := s1.toks) I1 _ (turn_tuple a _) ⟨_, Heap.get?_push_size _ rfl, rfl, rfl⟩ q
  · obtain ⟨t, rfl⟩ := r1
    by_cases ha : z.cps.all (· < 128) = true
    · exact wpAny_pyIter_ascii ha (pi_one (tk := s1.toks) I1 _ (turn_str _ z t "str_ascii_iterator" (Or.inl rfl)) ⟨_, Heap.get?_push_size _ rfl, rfl, rfl⟩ q)
    · exact wpAny_pyIter_wide (by simpa using ha) (pi_one (tk := s1.toks) I1 _ (turn_str _ z t "str_iterator" (Or.inr rfl)) ⟨_, Heap.get?_push_size _ rfl, rfl, rfl⟩ q)
theorem it_listX {w : Wd} {a : Addr} {vs : List V} {bs : List Dv} (hs : SqL G.K w.I a vs) (r : Rvs G w vs bs) : ItR G w (Itl G.K a) bs where
  go := fun i w' μ H hi l lay => ⟨vs, vs[i]'(by rw [Paired.length r]; exact hi), seqL (Same.trans l.1 lay.same) hs, by simp⟩
  yld := fun i b w' μ H x H' e l lay y => by
    obtain ⟨rfl, y⟩ := y
    obtain ⟨v, e1, q⟩ := r.at e
    have := y vs (seqL (Same.trans l.1 lay.same) hs)
    rw [e1] at this
    cases this
    exact ⟨w', w'.le_refl, lay, q.mono l⟩
  stop := fun i w' μ H hi l lay => ⟨vs, seqL (Same.trans l.1 lay.same) hs, by rw [Paired.length r]; exact hi⟩
theorem di_seq (hK : X.K = G.K) (he : DE X G W e m) : DI X G W tg e (iSeq m) := by
  refine PI.imp (pi_any he) ?_
  rintro σ H Q ⟨w, μ, ρ, hl, he, p⟩
  refine tD.seq (k := fun ρ x μ => walkD x μ) hl he p fun w1 μ1 H1 v b l1 lay1 en1 r1 p1 => ?_
  unfold walkD at p1
  split at p1
  · rename_i z
    rw [rv_str r1]
    exact .inr (.inr ⟨z, rfl, p1 w1 _ H1 w1.le_refl lay1 (it_str z)⟩)
  · obtain ⟨a, vs, rfl, g1, g2⟩ := rv_lst r1
    exact .inl ⟨a, rfl, ⟨vs, by rw [hK]; exact seqL lay1.same g1⟩, p1 w1 _ H1 w1.le_refl lay1 (by rw [hK]; exact it_listX g1 (Rvs_of_RpA g2))⟩
  · obtain ⟨a, vs, rfl, g1, g2⟩ := rv_tup r1
    exact .inr (.inl ⟨a, rfl, ⟨vs, by rw [hK]; exact seqT lay1.same g1⟩, p1 w1 _ H1 w1.le_refl lay1 (by rw [hK]; exact it_tup g1 (Rvs_of_RpA g2))⟩)
  · exact p1.elim
def okR (i : Int) : Bool := decide (-(2 ^ 62) ≤ i) && decide (i < 2 ^ 62)
def rng1 : List Dv → Store → Out (List Dv)
  | [.d (.int j)], μ => if okR j = true then .ok ((List.range j.toNat).map fun (i : Nat) => Dv.d (.int i)) μ else .bad
  | _, _ => .bad
def rng2 : List Dv → Store → Out (List Dv)
  | [.d (.int i), .d (.int j)], μ => if (okR i && okR j) = true then .ok ((List.range (j - i).toNat).map fun (k : Nat) => Dv.d (.int (i + k))) μ else .bad
  | _, _ => .bad
def iRng (f : List Dv → Store → Out (List Dv)) (a : MA) : MI := fun ρ μ => (a ρ μ).bind f
theorem di_range1 {a : Expr} (hg : Gl X "range") (hm : X.mg "range" = none) (ha : DA X G W [a] mas) (hs : starEach [a] X.env = [(false, eval a X.env)] := by rfl) : DI X G W tg (.Call (.Name "range" p) [a] [] pos) (iRng rng1 mas) := by
  refine PI.imp (pi_range1 hg hm ha hs) ?_
  rintro σ H Q ⟨w, μ, ρ, hl, he, pp⟩
  refine tD.seq (k := fun ρ xs μ => rng1 xs μ) hl he pp fun w1 μ1 H1 v b l1 lay1 en1 r1 p1 => ?_
  unfold rng1 at p1
  split at p1
  · rename_i j
    split at p1
    · rename_i h
      unfold okR at h
      simp only [Bool.and_eq_true, decide_eq_true_eq] at h
      cases r1 with
      | cons r t =>
        cases t
        rw [rv_int r]
        have z := it_range (G := G) (w := w1) 0 j.toNat
        have : (List.range j.toNat).map (fun (i : Nat) => Dv.d (.int (0 + (i : Int)))) = (List.range j.toNat).map fun (i : Nat) => Dv.d (.int (i : Int)) := by simp only [Int.zero_add]
        rw [this] at z
        exact ⟨j, rfl, h.1, h.2, p1 w1 _ H1 w1.le_refl lay1 z⟩
    · exact p1.elim
  · exact p1.elim
theorem di_range2 {a b : Expr} (hg : Gl X "range") (hm : X.mg "range" = none) (ha : DA X G W [a, b] mas) (hs : starEach [a, b] X.env = [(false, eval a X.env), (false, eval b X.env)] := by rfl) (hs2 : starEach [b] X.env = [(false, eval b X.env)] := by rfl) :
    DI X G W tg (.Call (.Name "range" p) [a, b] [] pos) (iRng rng2 mas) := by
  refine PI.imp (pi_range2 hg hm ha hs hs2) ?_
  rintro σ H Q ⟨w, μ, ρ, hl, he, pp⟩
  refine tD.seq (k := fun ρ xs μ => rng2 xs μ) hl he pp fun w1 μ1 H1 v b l1 lay1 en1 r1 p1 => ?_
  unfold rng2 at p1
  split at p1
  · rename_i i j
    split at p1
    · rename_i h
      unfold okR at h
      simp only [Bool.and_eq_true, decide_eq_true_eq] at h
      cases r1 with
      | cons r t =>
        cases t with
        | cons r' t =>
          cases t
          rw [rv_int r, rv_int r']
          exact ⟨i, j, rfl, ⟨h.1.1, h.1.2, h.2.1, h.2.2⟩, p1 w1 _ H1 w1.le_refl lay1 (it_range i _)⟩
    · exact p1.elim
  · exact p1.elim
end

/-! ### a cell that is changed no more -/
def dFrz : Op1 := fun x μ => match x with
  | .d y => .ok (.d y) μ
  | .c n => match μ[n]? with
    | some (.lst xs) => match allD xs with
      | some ds => .ok (.d (.list ds)) (μ.set n .dead)
      | none => .bad
    | _ => .bad
  | .f _ => .bad
theorem Lay.freeze {G : GT} {w : Wd} {μ : Store} {H : Hp} (l : Lay G w μ H) {n : Nat} {a : Addr} {vs : List V} (ha : w.α[n]? = some a) (nI : w.I a = none) (e : H a = some (.lst vs)) : w.le (w.put a (.lst vs)) ∧ Lay G (w.put a (.lst vs)) (μ.set n .dead) H := by
  have nF := l.fd a (List.mem_of_getElem? ha)
  refine ⟨⟨same_upd nI, List.prefix_refl _, Same.refl _⟩, fun b u q => ?_, by rw [List.length_set]; exact l.len, l.nd, l.lv, l.fr, l.fd, fun b u q => ?_, fun m c b q1 q2 => ?_⟩
  · by_cases z : b = a
    · subst z; have q : upd w.I b (.lst vs) b = some u := q; rw [upd_same] at q; rw [← q]; exact e
    · have q : upd w.I a (.lst vs) b = some u := q; rw [upd_ne z] at q; exact l.same b u q
  · have : b ≠ a := fun z => by rw [z, nF] at q; cases q
    show upd w.I a _ b = none
    rw [upd_ne this]; exact l.di b u q
  · by_cases z : n = m
    · subst z
      have hn : n < μ.length := by rw [← l.len]; exact (List.getElem?_eq_some_iff.mp ha).1
      rw [List.getElem?_set_self hn] at q1
      cases q1
      trivial
    · rw [List.getElem?_set_ne z] at q1
      have ne : b ≠ a := fun y => z (get_nodup l.nd ha (y ▸ q2))
      exact CellAt.cong (w' := w.put a (.lst vs)) (fun z => by show upd w.I a _ b = none; rw [upd_ne ne]; exact z) ⟨same_upd nI, List.prefix_refl _⟩ rfl (l.at_ m c b q1 q2)
section
variable {X : Cx} {G : GT} {W : WX} {e : Expr} {m : ME}
theorem de_frz (he : DE X G W e m) : DE X G W e (e1 dFrz m) := by
  refine PE.imp he ?_
  rintro σ H Q ⟨w, μ, ρ, hl, he, p⟩
  refine ⟨w, μ, ρ, hl, he, ?_⟩
  have p : Pst G W σ (Rv G) w ((m ρ μ).bind fun x μ => dFrz x μ) Q := p
  cases q : m ρ μ with
  | bad => rw [q] at p; exact p.elim
  | ex _ _ => rw [q] at p; exact p
  | ok b μ1 =>
    rw [q] at p
    intro w1 v H1 l1 lay1 r1
    have p1 : Pst G W σ (Rv G) w (dFrz b μ1) Q := p
    have p1 := Pst.mono l1 p1
    cases b with
    | d x => exact p1 w1 v H1 w1.le_refl lay1 r1
    | f n => exact p1.elim
    | c n =>
      unfold dFrz at p1
      simp only at p1
      cases e : μ1[n]? with
      | none => simp only [e] at p1; exact p1.elim
      | some cl =>
        cases cl with
        | lst xs =>
          simp only [e] at p1
          cases q2 : allD xs with
          | none => simp only [q2] at p1; exact p1.elim
          | some ds =>
            simp only [q2] at p1
            obtain ⟨a, g1, rfl⟩ := r1
            obtain ⟨nI, vs, g2, g3⟩ := lay1.at_ n _ a e g1
            obtain ⟨le, l2⟩ := lay1.freeze g1 nI g2
            rw [allD_eq q2] at g3
            exact p1 _ _ H1 le l2 (.lst (SqL.of upd_same) (RpA.mono le.1 _ _ (RpA_of_Rvs g3)))
        | _ => simp only [e] at p1; exact p1.elim
end

/-! ### methods of texts -/
def m0 (f : Str → Store → Out Dv) : Dv → OpN := fun x bs μ => match x, bs with
  | .d (.str a), [] => f a μ
  | _, _ => .bad
def m1 (f : Str → Dv → Store → Out Dv) : Dv → OpN := fun x bs μ => match x, bs with
  | .d (.str a), [b] => f a b μ
  | _, _ => .bad
def m2 (f : Str → Dv → Dv → Store → Out Dv) : Dv → OpN := fun x bs μ => match x, bs with
  | .d (.str a), [b, c] => f a b c μ
  | _, _ => .bad
section
variable {G : GT}
theorem ok_m0 {r : V → List V → Hp → VK → Prop} {f : Str → Store → Out Dv} (h : ∀ (W : WX) (σ : L2.St) (w : Wd) (μ : Store) (H : Hp) (a : Str) (Q : VK), Lay G w μ H → Pst G W σ (Rv G) w (f a μ) Q → r (.str a) [] H Q) : OkM G r (m0 f) := by
  intro W σ w μ H x xs b bs Q l r rr p
  unfold m0 at p
  split at p
  · cases rr; rw [rv_str r]; exact h W σ w μ H _ Q l p
  · exact p.elim
theorem ok_m1 {r : V → List V → Hp → VK → Prop} {f : Str → Dv → Store → Out Dv} (h : ∀ (W : WX) (σ : L2.St) (w : Wd) (μ : Store) (H : Hp) (a : Str) (y : V) (b : Dv) (Q : VK), Lay G w μ H → Rv G w y b → Pst G W σ (Rv G) w (f a b μ) Q → r (.str a) [y] H Q) : OkM G r (m1 f) := by
  intro W σ w μ H x xs b bs Q l r rr p
  unfold m1 at p
  split at p
  · cases rr with
    | cons r1 t => cases t; rw [rv_str r]; exact h W σ w μ H _ _ _ Q l r1 p
  · exact p.elim
theorem ok_m2 {r : V → List V → Hp → VK → Prop} {f : Str → Dv → Dv → Store → Out Dv} (h : ∀ (W : WX) (σ : L2.St) (w : Wd) (μ : Store) (H : Hp) (a : Str) (y z : V) (b c : Dv) (Q : VK), Lay G w μ H → Rv G w y b → Rv G w z c → Pst G W σ (Rv G) w (f a b c μ) Q → r (.str a) [y, z] H Q) : OkM G r (m2 f) := by
  intro W σ w μ H x xs b bs Q l r rr p
  unfold m2 at p
  split at p
  · cases rr with
    | cons r1 t =>
      cases t with
      | cons r2 t => cases t; rw [rv_str r]; exact h W σ w μ H _ _ _ _ _ Q l r1 r2 p
  · exact p.elim
def dPartition : Dv → OpN := m1 fun a b μ => match b with
  | .d (.str b) => if (b.length == 0) = false ∧ a.length ≤ sizeLine then .ok (.d (.tuple [.str (Txt.partition a b).1, .str (Txt.partition a b).2.1, .str (Txt.partition a b).2.2])) μ else .bad
  | _ => .bad
theorem ok_partition : OkM G (fun x xs H Q => ∃ a b, x = .str a ∧ xs = [.str b] ∧ (b.length == 0) = false ∧ a.length ≤ sizeLine ∧ ∀ p, H p = none → Q (.ref p) (upd H p (.tup [.str (Txt.partition a b).1, .str (Txt.partition a b).2.1, .str (Txt.partition a b).2.2]))) dPartition := by
  apply ok_m1
  intro W σ w μ H a y b Q l r p
  split at p
  · split at p
    · rename_i h
      rw [rv_str r]
      refine ⟨a, _, rfl, rfl, h.1, h.2, fun q nq => ?_⟩
      obtain ⟨le, l2⟩ := l.new nq (.tup [.str (Txt.partition a _).1, .str (Txt.partition a _).2.1, .str (Txt.partition a _).2.2])
      exact p _ _ _ le l2 (.tup (SqT.of upd_same) (.cons (.str _) (.cons (.str _) (.cons (.str _) .nil))))
    · exact p.elim
  · exact p.elim
def dSplit : Dv → OpN := m1 fun a b μ => match b with
  | .d (.str b) => if (b.length == 0) = false ∧ a.length + 2 ≤ sizeLine then .ok (.d (.list ((Txt.split a b).map .str))) μ else .bad
  | _ => .bad
theorem ok_split : OkM G (fun x xs H Q => ∃ a b, x = .str a ∧ xs = [.str b] ∧ (b.length == 0) = false ∧ a.length + 2 ≤ sizeLine ∧ rNewStrs (Txt.split a b) H Q) dSplit := by
  apply ok_m1
  intro W σ w μ H a y b Q l r p
  split at p
  · split at p
    · rename_i h
      rw [rv_str r]
      refine ⟨a, _, rfl, rfl, h.1, h.2, fun q nq => ?_⟩
      obtain ⟨le, l2⟩ := l.new nq (.lst ((Txt.split a _).map V.str))
      exact p _ _ _ le l2 (.lst (SqL.of upd_same) (RpA_strs _))
    · exact p.elim
  · exact p.elim
def allS : List Dv → Option (List Str)
  | [] => some []
  | .d (.str k) :: r => match allS r with
    | some ks => some (k :: ks)
    | none => none
  | _ => none
theorem allS_map : ∀ ks : List Str, allS (ks.map fun k => .d (.str k)) = some ks
  | [] => rfl
  | k :: ks => by rw [List.map_cons, allS, allS_map ks]
theorem allS_eq : ∀ {bs : List Dv} {ks : List Str}, allS bs = some ks → bs = (ks.map PyData.str).map Dv.d
  | [], _, h => by cases h; rfl
  | .d (.str k) :: r, _, h => by
    unfold allS at h
    cases q : allS r with
    | none => rw [q] at h; cases h
    | some xs => rw [q] at h; cases h; rw [allS_eq q]; rfl
def dJoin : Dv → OpN := m1 fun a b μ => match itemsA b μ with
  | some bs => match allS bs with
    | some ys => if (ys.map (·.length)).sum + ys.length * a.length ≤ 16777216 then .ok (.d (.str (Txt.join a ys))) μ else .bad
    | none => .bad
  | none => .bad
theorem ok_join : OkM G (fun x xs H Q => ∃ a p, ∃ ys : List Str, x = .str a ∧ xs = [.ref p] ∧ (SqL G.K H p (ys.map V.str) ∨ SqT G.K H p (ys.map V.str)) ∧ (ys.map (·.length)).sum + ys.length * a.length ≤ 16777216 ∧ Q (.str (Txt.join a ys)) H) dJoin := by
  apply ok_m1
  intro W σ w μ H a y b Q l r p
  split at p
  · rename_i bs h
    split at p
    · rename_i ys h2
      split at p
      · rename_i h3
        obtain ⟨q, vs, rfl, g1, g2⟩ := itemsA_ok l r h
        rw [allS_eq h2] at g2
        rw [rv_strs (RpA_of_Rvs g2)] at g1
        exact ⟨a, q, ys, rfl, rfl, g1, h3, p w _ H w.le_refl l (.str _)⟩
      · exact p.elim
    · exact p.elim
  · exact p.elim
def dIndexS : Dv → OpN := m1 fun a b μ => match b with
  | .d (.str b) => match Builtin.Str.occurrences a b 0 a.length 1 with
    | i :: _ => .ok (.d (.int (i : Nat))) μ
    | [] => .bad
  | _ => .bad
theorem ok_indexS : OkM G (fun x xs H Q => ∃ a b i rest, x = .str a ∧ xs = [.str b] ∧ Builtin.Str.occurrences a b 0 a.length 1 = i :: rest ∧ Q (.int (i : Nat)) H) dIndexS := by
  apply ok_m1
  intro W σ w μ H a y b Q l r p
  split at p
  · split at p
    · rename_i i rest h
      rw [rv_str r]
      exact ⟨a, _, i, rest, rfl, rfl, h, p w _ H w.le_refl l (.int _)⟩
    · exact p.elim
  · exact p.elim
end
def rPadF (f : Str → Int → Nat → Str) : V → List V → Hp → VK → Prop := fun x xs H Q => ∃ (a : Str) (i : Int) (z : Str), x = .str a ∧ xs = [.int i, .str z] ∧ PadOk i = true ∧ z.length = 1 ∧ Q (.str (f a i (z.cps.getD 0 0))) H
theorem mt_ljustF {X : Cx} : MtR X "str.ljust" (rPadF Txt.ljustF) := by
  intro pins s σ H x xs v us Q I rx rs h
  obtain ⟨a, i, z, rfl, rfl, h1, h2, q⟩ := h
  obtain ⟨t, rfl⟩ := rx
  obtain ⟨u1, u2, rfl, ⟨t1, rfl⟩, ⟨t2, rfl⟩⟩ := vals2 rs
  exact ljust_fill h1 h2 fun t' k => ⟨.str _, H, I.tok k, ⟨t', rfl⟩, q⟩
theorem mt_rjustF {X : Cx} : MtR X "str.rjust" (rPadF Txt.rjustF) := by
  intro pins s σ H x xs v us Q I rx rs h
  obtain ⟨a, i, z, rfl, rfl, h1, h2, q⟩ := h
  obtain ⟨t, rfl⟩ := rx
  obtain ⟨u1, u2, rfl, ⟨t1, rfl⟩, ⟨t2, rfl⟩⟩ := vals2 rs
  exact rjust_fill h1 h2 fun t' k => ⟨.str _, H, I.tok k, ⟨t', rfl⟩, q⟩
def dPadF (f : Str → Int → Nat → Str) : Dv → OpN := m2 fun a b c μ => match b, c with
  | .d (.int i), .d (.str z) => if PadOk i = true ∧ z.length = 1 then .ok (.d (.str (f a i (z.cps.getD 0 0)))) μ else .bad
  | _, _ => .bad
theorem ok_padF {G : GT} {f : Str → Int → Nat → Str} : OkM G (rPadF f) (dPadF f) := by
  apply ok_m2
  intro W σ w μ H a y z b c Q l r r' p
  split at p
  · split at p
    · rename_i h
      rw [rv_int r, rv_str r']
      exact ⟨a, _, _, rfl, rfl, h.1, h.2, p w _ H w.le_refl l (.str _)⟩
    · exact p.elim
  · exact p.elim

/-! ### a text times a number -/
def dMulA : Op2 := fun x y μ => match x, y with
  | .d (.str z), .d (.int i) => if (decide (-(2 ^ 31) ≤ i) && decide (i < 2 ^ 31) && decide (z.length * i.toNat ≤ sizeLine) && decide (i < 1 ∨ (z.length : Int) ≤ (2 ^ 63 - 1) / i)) = true then .ok (.d (.str (Txt.mul z i))) μ else .bad
  | x, y => dMul x y μ
theorem ok_mulA {G : GT} : Ok2 G (fun x y H Q => rI CMulW (fun i j => .int (i * j)) x y H Q ∨ rMulS x y H Q) dMulA := by
  intro W σ w μ H x y b c Q l rx ry p
  unfold dMulA at p
  split at p
  · split at p
    · rename_i z i h
      simp only [Bool.and_eq_true, decide_eq_true_eq] at h
      refine .inr ⟨z, i, rv_str rx, rv_int ry, ⟨?_, fun h1 _ => ?_, fun h1 _ => ?_⟩, p w _ H w.le_refl l (.str _)⟩
      · simp only [Bool.or_eq_false_iff, decide_eq_false_iff_not]
        omega
      · have := h.2
        omega
      · have h2 := h.1.2
        unfold Builtin.Str.tooLong
        exact decide_eq_false (by omega)
    · exact p.elim
  · exact .inl (ok_mul W σ w μ H x y _ _ Q l rx ry p)
theorem op_mulA {X : Cx} : OpR X (binaryOp .Mult) (fun x y H Q => rI CMulW (fun i j => .int (i * j)) x y H Q ∨ rMulS x y H Q) := op_mulW.or op_mulS
end DL

/-! Defs of a text as callees. -/
namespace DL
open PySem PySem.Spec PyProof.Rows L2
/-- a text of these signs -/
def T (l : List Nat) : Str := ⟨l.toArray⟩
/-- the def called x: its promise over data, how it is found, how its arguments bind -/
structure Cal (P : Program) (w : World) (G : GT) (mg : Str → Option Value) (base : Heap) (x : Str) (k : Nat) (ps : List Str) (kb : List (List Str × List Nat)) (F : OpN) : Prop where
  ex : ∃ (f : Addr) (fd : FuncData), FnG P w G.K mg base k f fd ps (spD G ps.length F) ∧ mg x = some (.ref f) ∧ PySem.W.keepIn G.K (.ref f) = true ∧ Binds G.K fd ps [] ∧
    ∀ q ∈ kb, ∀ (s : Shared) (ws : List Value), ws.length = q.1.length → BindsTo s fd ⟨[] ++ [], q.1.zip ws⟩ (ps.zip (pickL .none q.2 ws))
section
variable {X : Cx} {G : GT} {W : WX} {e : Expr} {es : List Expr} {kws : List Keyword} {mas mks : MA} {pos p : Pos} {x : Str} {k : Nat} {ps ks : List Str} {kb : List (List Str × List Nat)} {F : OpN} {ix : List Nat} {n m : Nat}
theorem de_calC (hK : X.K = G.K) (C : Cal X.prog X.w G X.mg X.base x k ps kb F) (g : X.A.guards = some []) (hr : Room k X.A) (tk : Takes X W) (hg : Gl X x) (ha : DA X G W (e :: es) mas) (hdb : (x == ("__debug__" : Str)) = false := by decide)
    (he : starEach (e :: es) X.env = (false, eval e X.env) :: starEach es X.env := by rfl) (hpl : (backTo pos (starEach es X.env)).any (·.1) = false := by rfl) (hn : ps.length = n := by rfl) : DE X G W (.Call (.Name x p) (e :: es) [] pos) (eN (fCall n F) mas) := by
  subst hn
  obtain ⟨f, fd, h1, h2, h3, h4, _⟩ := C.ex
  rw [← hK] at h1 h3 h4
  exact de_callG h1 g hr hg h2 h3 h4 tk ha hdb he hpl
theorem de_calK (ks : List Str) (ix : List Nat) (hK : X.K = G.K) (C : Cal X.prog X.w G X.mg X.base x k ps kb F) (g : X.A.guards = some []) (hr : Room k X.A) (tk : Takes X W) (hg : Gl X x) (hkw : DK X G W kws mks) (hm : (ks, ix) ∈ kb)
    (hall : (backToKw pos (keywordEach kws X.env)).all (·.1.isSome) = true := by rfl) (hks : (backToKw pos (keywordEach kws X.env)).filterMap (·.1) = ks := by rfl)
    (hdb : (x == ("__debug__" : Str)) = false := by decide) (hpl : ((backTo pos (starEach [] X.env)).any (·.1) || (backToKw pos (keywordEach kws X.env)).any (·.1.isNone)) = false := by rfl) (hn : ps.length = n := by rfl) (hl : ks.length = m := by rfl) : DE X G W (.Call (.Name x p) [] kws pos) (eCallK n m ix F aNil mks) := by
  subst hn hl
  obtain ⟨f, fd, h1, h2, h3, h4, h5⟩ := C.ex
  rw [← hK] at h1 h3
  exact de_callK0 h1 g hr hg h2 h3 (fun s ws hl => h5 (ks, ix) hm s ws hl) tk hkw hall hks hdb hpl
end
end DL

/-! Running the data forms: equations for simp, texts as lists of signs, a law's hand of drawn numbers. -/
namespace DL
open PySem PySem.Spec PyProof.Rows L2

/-! ### texts as lists -/
theorem T_tl (x : Str) : T x.cps.toList = x := rfl
theorem tl_T (l : List Nat) : (T l).cps.toList = l := rfl
theorem T_len (l : List Nat) : (T l).length = l.length := by simp [T, Str.length]
theorem T_inj {l m : List Nat} : T l = T m ↔ l = m := ⟨fun h => by have := congrArg (fun x : Str => x.cps.toList) h; exact this, fun h => by rw [h]⟩
theorem T_app (l m : List Nat) : T l ++ T m = T (l ++ m) := TL.ext_tl (by rw [TL.tl_append]; rfl)
theorem T_one (c : Nat) : (⟨#[c]⟩ : Str) = T [c] := rfl
theorem ofS (s : String) : Str.ofString s = T (s.toList.map Char.toNat) := TL.ext_tl (TL.tl_ofString s)
theorem eqv_T (l m : List Nat) : PyData.eqv (.str (T l)) (.str (T m)) = decide (l = m) := by
  show (T l == T m) = _
  rw [Bool.eq_iff_iff]
  simp [T_inj]
theorem cutS_T (l : List Nat) (lo hi : Option Int) : cutS (T l) lo hi = T (cutL l lo hi) := by
  unfold cutS cutL
  rw [tl_T, T_len]
  rfl
theorem sub1_T (c : Nat) (l : List Nat) : sub1 (T [c]) (T l) = decide (c ∈ l) := rfl
theorem signs_T (l : List Nat) : signs (T l) = l.map fun c => .d (.str (T [c])) := rfl
theorem line_big : 16000000 ≤ sizeLine := by rw [sizeLine_eq]; decide
theorem join_T (l : List Nat) (ps : List (List Nat)) : Txt.join (T l) (ps.map T) = T (TL.joinL l ps) := by
  apply TL.ext_tl
  rw [TL.join_eq, TL.tl_join, List.map_map]
  show TL.joinL l (ps.map fun p => (T p).cps.toList) = _
  simp [tl_T]
theorem joinL_nil (ps : List (List Nat)) : TL.joinL [] ps = ps.flatten := by
  induction ps with
  | nil => rfl
  | cons p ps ih =>
    cases ps with
    | nil => simp [TL.joinL]
    | cons q qs =>
      rw [TL.joinL, ih]
      simp
theorem part_T (l : List Nat) (s : Nat) : Txt.partition (T l) (T [s]) = match TL.par [s] [] l with
    | some (a, b) => (T a, T [s], T b)
    | none => (T l, T [], T []) := by
  rw [TL.partition_par _ _ (by simp [TL.tl, tl_T])]
  show (match TL.par [s] [] l with | some (a, b) => _ | none => _) = _
  cases TL.par [s] [] l <;> rfl
theorem split_T (l : List Nat) (s : Nat) (h : s < 256) : Txt.split (T l) (T [s]) = (TL.spl [s] 0 [] l).map T := by
  apply TL.map_tl_inj
  rw [TL.split_spl _ _ (by simp [TL.tl, tl_T]) (TL.kind_ok (by simp [T, h])), List.map_map]
  show TL.spl [s] 0 [] l = _
  simp [TL.tl, tl_T, Function.comp_def]
/-- a text cut at its first s -/
theorem par_one (s : Nat) (acc l : List Nat) : TL.par [s] acc l = if s ∈ l then some (acc ++ l.takeWhile (· != s), (l.dropWhile (· != s)).drop 1) else none := by
  induction l generalizing acc with
  | nil => rfl
  | cons c r ih =>
    by_cases h : c = s
    · subst h
      rw [TL.par_hit (by simp [TL.pre])]
      simp
    · rw [TL.par_miss (TL.pre_of_head _ _ h), ih]
      have h' : (c != s) = true := by simp [h]
      have hs : (s ∈ c :: r) = (s ∈ r) := by simp [Ne.symm h]
      simp only [hs, List.takeWhile_cons, List.dropWhile_cons, h', if_true]
      split <;> simp
def splitL (s : Nat) : List Nat → List Nat → List (List Nat)
  | acc, [] => [acc]
  | acc, c :: r => if c = s then acc :: splitL s [] r else splitL s (acc ++ [c]) r
theorem spl_one (s : Nat) (acc l : List Nat) : TL.spl [s] 0 acc l = splitL s acc l := by
  induction l generalizing acc with
  | nil => rfl
  | cons c r ih =>
    by_cases h : c = s
    · subst h
      rw [TL.spl_hit (by simp [TL.pre]), splitL, if_pos rfl, ← ih]
      rfl
    · rw [TL.spl_miss (TL.pre_of_head _ _ h), splitL, if_neg h, ih]

/-! ### simp's words: what each form comes to when it is run -/
def finB : Out Fl → Out Dv
  | .ok (.nx _) μ' => .ok (.d .none) μ'
  | .ok (.rt b) μ' => .ok b μ'
  | .ok _ _ => .bad
  | .ex e μ' => .ex e μ'
  | .bad => .bad
theorem runB_eq (n : Nat) (B : MS) (bs : List Dv) (μ : Store) : runB n B bs μ = finB (B (bs.map some ++ List.replicate (n - bs.length) none) μ) := by
  unfold runB
  cases h : B (bs.map some ++ List.replicate (n - bs.length) none) μ with
  | ok f μ' => cases f <;> rfl
  | ex e μ' => rfl
  | bad => rfl
section
variable {ρ : DEnv} {μ : Store} {b : Dv} {a c : ME} {t u : MS} {i : Nat}
@[simp] theorem finB_nx : finB (.ok (.nx ρ) μ) = .ok (.d .none) μ := id rfl
@[simp] theorem finB_rt : finB (.ok (.rt b) μ) = .ok b μ := id rfl
@[simp] theorem finB_ex {e : Ex} : finB (.ex e μ) = .ex e μ := id rfl
@[simp] theorem finB_bad : finB .bad = .bad := id rfl
@[simp] theorem seqF_nx : seqF u (.nx ρ) μ = u ρ μ := id rfl
@[simp] theorem seqF_rt : seqF u (.rt b) μ = .ok (.rt b) μ := id rfl
@[simp] theorem seqF_bk : seqF u (.bk ρ) μ = .ok (.bk ρ) μ := id rfl
@[simp] theorem seqF_ct : seqF u (.ct ρ) μ = .ok (.ct ρ) μ := id rfl
@[simp] theorem sSeq_r : sSeq t u ρ μ = (t ρ μ).bind (seqF u) := id rfl
@[simp] theorem sNext_r : sNext ρ μ = .ok (.nx ρ) μ := id rfl
@[simp] theorem sBreak_r : sBreak ρ μ = .ok (.bk ρ) μ := id rfl
@[simp] theorem sCont_r : sCont ρ μ = .ok (.ct ρ) μ := id rfl
@[simp] theorem sRetN_r : sRetN ρ μ = .ok (.rt (.d .none)) μ := id rfl
@[simp] theorem sRet_r : sRet a ρ μ = (a ρ μ).bind fun b μ => .ok (.rt b) μ := id rfl
@[simp] theorem sDrop_r : sDrop a ρ μ = (a ρ μ).bind fun _ μ => .ok (.nx ρ) μ := id rfl
@[simp] theorem sSet_r : sSet i a ρ μ = (a ρ μ).bind fun b μ => .ok (.nx (ρ.set i (some b))) μ := id rfl
@[simp] theorem sIf_r {k : MT} : sIf k t u ρ μ = (k ρ μ).bind fun x μ => if x = true then t ρ μ else u ρ μ := id rfl
@[simp] theorem sPar_r {j : Nat} {m : MA} : sPar i j m ρ μ = (m ρ μ).bind (parF i j ρ) := id rfl
@[simp] theorem parF_r {j : Nat} {d : Dv} : parF i j ρ [b, d] μ = .ok (.nx ((ρ.set i (some b)).set j (some d))) μ := id rfl
@[simp] theorem sAsg_r {g : MG} : sAsg a g ρ μ = (a ρ μ).bind fun b μ => (g b ρ μ).gb fun ρ μ => .ok (.nx ρ) μ := id rfl
@[simp] theorem sSetIx_r {o j : ME} : sSetIx a o j ρ μ = (a ρ μ).bind fun v μ => (o ρ μ).bind fun x μ => (j ρ μ).bind fun i μ => optN (dSetIx x i v μ) ρ := id rfl
@[simp] theorem optN_r : optN (some μ) ρ = .ok (.nx ρ) μ := id rfl
@[simp] theorem sFor_r {mi : MI} {g : MG} {mb : MS} : sFor mi g mb ρ μ = (mi ρ μ).bind fun bs μ => forL g mb bs ρ μ := id rfl
@[simp] theorem gN_r : gN i b ρ μ = .ok (ρ.set i (some b)) μ := id rfl
@[simp] theorem gT_r {n : Nat} {g : MGs} {ds : List D} : gT n g (.d (.tuple ds)) ρ μ = if ds.length = n then g (ds.map .d) ρ μ else .bad := id rfl
@[simp] theorem gsNil_r : gsNil [] ρ μ = .ok ρ μ := id rfl
@[simp] theorem gsCons_r {g : MG} {r : MGs} {bs : List Dv} : gsCons g r (b :: bs) ρ μ = (g b ρ μ).bind fun ρ μ => r bs ρ μ := id rfl
@[simp] theorem gStar_r {n : Nat} {g : MGs} {ds : List D} : gStar n g (.d (.tuple ds)) ρ μ = if n ≤ ds.length ∧ ds.length ≤ 16384 then g ((ds.take n).map .d ++ [.d (.list (ds.drop n))]) ρ μ else .bad := id rfl
@[simp] theorem eVar_r : eVar i ρ μ = match ρ[i]? with
  | some (some b) => .ok b μ
  | _ => .bad := id rfl
@[simp] theorem eC_r : eC b ρ μ = .ok b μ := id rfl
@[simp] theorem e1_r {f : Op1} : e1 f a ρ μ = (a ρ μ).bind fun x μ => f x μ := id rfl
@[simp] theorem e2_r {f : Op2} : e2 f a c ρ μ = (a ρ μ).bind fun x μ => (c ρ μ).bind fun y μ => f x y μ := id rfl
@[simp] theorem tV_r : tV a ρ μ = (a ρ μ).bind asBool := id rfl
@[simp] theorem asBool_r {k : Bool} : asBool (.d (.bool k)) μ = .ok k μ := id rfl
@[simp] theorem bind_asBool {k : Bool} : (Out.ok (Dv.d (.bool k)) μ).bind asBool = .ok k μ := id rfl
@[simp] theorem tAndM_r {x y : MT} : tAndM x y ρ μ = (x ρ μ).bind fun k μ => if k = true then y ρ μ else .ok false μ := id rfl
@[simp] theorem tOrM_r {x y : MT} : tOrM x y ρ μ = (x ρ μ).bind fun k μ => if k = true then .ok true μ else y ρ μ := id rfl
@[simp] theorem tNotM_r {x : MT} : tNotM x ρ μ = (x ρ μ).bind fun k μ => .ok (!k) μ := id rfl
@[simp] theorem eAnd_r : eAnd a c ρ μ = (a ρ μ).bind fun x μ => (asBool x μ).bind fun k μ => if k = true then c ρ μ else .ok (.d (.bool false)) μ := id rfl
@[simp] theorem eOr_r : eOr a c ρ μ = (a ρ μ).bind fun x μ => (asBool x μ).bind fun k μ => if k = true then .ok (.d (.bool true)) μ else c ρ μ := id rfl
@[simp] theorem eNot_r : eNot a ρ μ = (a ρ μ).bind fun x μ => (asBool x μ).bind fun k μ => .ok (.d (.bool (!k))) μ := id rfl
@[simp] theorem eIf_r {k : MT} : eIf k a c ρ μ = (k ρ μ).bind fun x μ => if x = true then a ρ μ else c ρ μ := id rfl
@[simp] theorem eChain_r {f g : Op2} {d : ME} : eChain f g a c d ρ μ = (a ρ μ).bind fun x μ => (c ρ μ).bind fun y μ => (f x y μ).bind fun z μ => (asBool z μ).bind fun k μ => if k = true then (d ρ μ).bind fun u μ => g y u μ else .ok (.d (.bool false)) μ := id rfl
@[simp] theorem aNil_r : aNil ρ μ = .ok [] μ := id rfl
@[simp] theorem aCons_r {r : MA} : aCons a r ρ μ = (a ρ μ).bind fun x μ => (r ρ μ).bind fun xs μ => .ok (x :: xs) μ := id rfl
@[simp] theorem eN_r {f : OpN} {m : MA} : eN f m ρ μ = (m ρ μ).bind fun xs μ => f xs μ := id rfl
@[simp] theorem fCall_r {n : Nat} {F : OpN} {bs : List Dv} : fCall n F bs μ = if bs.length = n then F bs μ else .bad := id rfl
@[simp] theorem eCallK_r {n m : Nat} {ix : List Nat} {F : OpN} {x y : MA} : eCallK n m ix F x y ρ μ = (x ρ μ).bind fun bs μ => (y ρ μ).bind fun cs μ => if cs.length = m then fCall n F (pickL (.d .none) ix (bs ++ cs)) μ else .bad := id rfl
@[simp] theorem eM_r {k : Dv → Store → Bool} {f : Dv → OpN} {m : MA} : eM k f a m ρ μ = (a ρ μ).bind fun x μ => if k x μ = true then (m ρ μ).bind fun xs μ => f x xs μ else .bad := id rfl
@[simp] theorem isStr_r {z : Str} : isStr (.d (.str z)) μ = true := id rfl
@[simp] theorem eSl_r {l h : MO} : eSl a l h ρ μ = (a ρ μ).bind fun x μ => (l ρ μ).bind fun i μ => (h ρ μ).bind fun j μ => dSl x i j μ := id rfl
@[simp] theorem oNone_r : oNone ρ μ = .ok none μ := id rfl
@[simp] theorem oSome_r : oSome a ρ μ = (a ρ μ).bind asInt := id rfl
@[simp] theorem asInt_r {k : Int} : asInt (.d (.int k)) μ = .ok (some k) μ := id rfl
@[simp] theorem bind_asInt {k : Int} : (Out.ok (Dv.d (.int k)) μ).bind asInt = .ok (some k) μ := id rfl
@[simp] theorem eIsN_r {n : Bool} : eIsN n a ρ μ = (a ρ μ).bind fun x μ => dIsN n x (.d .none) μ := id rfl
@[simp] theorem dIsN_r {n : Bool} {x : D} {y : Dv} : dIsN n (.d x) y μ = .ok (.d (.bool (if n then !isNone x else isNone x))) μ := id rfl
@[simp] theorem eLc_r {f : OpN} {mi : MI} {g : MG} {tt : MT} {vs : List Nat} : eLc f mi g tt a vs ρ μ = (mi ρ μ).bind fun bs μ => lcF f g tt a vs ρ bs μ := id rfl
@[simp] theorem iSeq_r : iSeq a ρ μ = (a ρ μ).bind walkD := id rfl
@[simp] theorem bind_walkD {x : Dv} : (Out.ok x μ).bind walkD = walkD x μ := id rfl
@[simp] theorem iRng_r {f : List Dv → Store → Out (List Dv)} {m : MA} : iRng f m ρ μ = (m ρ μ).bind f := id rfl
-- operations
@[simp] theorem dAdd_ii {x y : Int} : dAdd (.d (.int x)) (.d (.int y)) μ = .ok (.d (.int (x + y))) μ := id rfl
@[simp] theorem dSub_ii {x y : Int} : dInt2 (fun i j => .int (i - j)) (.d (.int x)) (.d (.int y)) μ = .ok (.d (.int (x - y))) μ := id rfl
@[simp] theorem dNum_ii {C : Int → Int → Bool} {g : Int → Int → Int} {x y : Int} (h : C x y = true) : dNum C g (.d (.int x)) (.d (.int y)) μ = .ok (.d (.int (g x y))) μ := by
  show (if C x y = true then _ else _) = _
  rw [if_pos h]
@[simp] theorem dMulA_ii {x y : Int} (h : cMul x y = true) : dMulA (.d (.int x)) (.d (.int y)) μ = .ok (.d (.int (x * y))) μ := by
  show (if cMul x y = true then _ else _) = _
  rw [if_pos h]
@[simp] theorem dNeg_i {x : Int} : dNeg (.d (.int x)) μ = .ok (.d (.int (-x))) μ := id rfl
@[simp] theorem dCmp_ii {g : Int → Int → Bool} {h : List Nat → List Nat → Bool} {x y : Int} : dCmp g h (.d (.int x)) (.d (.int y)) μ = .ok (.d (.bool (g x y))) μ := id rfl
@[simp] theorem dAdd_ss {l m : List Nat} (h : l.length + m.length ≤ 16000000) : dAdd (.d (.str (T l))) (.d (.str (T m))) μ = .ok (.d (.str (T (l ++ m)))) μ := by
  show (if (T l).length + (T m).length ≤ sizeLine then _ else _) = _
  rw [T_len, T_len, T_app, if_pos (Nat.le_trans h line_big)]
theorem dEq_dd {n : Bool} {x y : D} (h : (scalD x y || (SeqAt.shaped x && SeqAt.shaped y)) = true) : dEq n (.d x) (.d y) μ = .ok (.d (.bool (if n then !PyData.eqv x y else PyData.eqv x y))) μ := by
  unfold dEq
  show (match eqD x y with | some k => _ | none => _) = _
  have : eqD x y = some (PyData.eqv x y) := by
    unfold eqD
    by_cases h1 : scalD x y = true
    · rw [if_pos h1]
    · rw [if_neg h1]
      simp only [h1, Bool.false_or] at h
      rw [if_pos h]
  rw [this]
@[simp] theorem dEq_ii {n : Bool} {x y : Int} : dEq n (.d (.int x)) (.d (.int y)) μ = .ok (.d (.bool (if n then !decide (x = y) else decide (x = y)))) μ := by
  rw [dEq_dd rfl]
  have : PyData.eqv (.int x) (.int y) = decide (x = y) := by
    show (x == y) = _
    rw [Bool.eq_iff_iff]; simp
  rw [this]
@[simp] theorem dEq_ss {n : Bool} {x y : List Nat} : dEq n (.d (.str (T x))) (.d (.str (T y))) μ = .ok (.d (.bool (if n then !decide (x = y) else decide (x = y)))) μ := by
  rw [dEq_dd rfl, eqv_T]
@[simp] theorem dIn_ss {n : Bool} {x : Nat} {y : List Nat} : dIn n (.d (.str (T [x]))) (.d (.str (T y))) μ = .ok (.d (.bool (if n then !decide (x ∈ y) else decide (x ∈ y)))) μ := id rfl
@[simp] theorem items_l {ds : List D} : items (.d (.list ds)) μ = some (ds.map .d) := id rfl
@[simp] theorem itemsA_l {ds : List D} : itemsA (.d (.list ds)) μ = some (ds.map .d) := id rfl
@[simp] theorem itemsA_t {ds : List D} : itemsA (.d (.tuple ds)) μ = some (ds.map .d) := id rfl
theorem dIx_l {ds : List D} {k : Int} {x : D} (h : L2.atI ds k = some x) : dIx (.d (.list ds)) (.d (.int k)) μ = .ok (.d x) μ := by
  have : L2.atI (ds.map Dv.d) k = some (.d x) := by
    unfold L2.atI at h ⊢
    rw [List.length_map]
    cases q : ixN ds.length k with
    | none => rw [q] at h; cases h
    | some j =>
      rw [q] at h
      show (ds.map Dv.d)[j]? = _
      have h : ds[j]? = some x := h
      rw [List.getElem?_map, h]
      rfl
  show (match L2.atI (ds.map Dv.d) k with | some b => Out.ok b μ | none => Out.bad) = _
  rw [this]
theorem dIx_t {ds : List D} {k : Int} {x : D} (h : L2.atI ds k = some x) : dIx (.d (.tuple ds)) (.d (.int k)) μ = .ok (.d x) μ := dIx_l h
theorem dIx_s {l : List Nat} {k : Int} {c : Nat} (hl : l.length ≤ 16000000) (h : L2.atI l k = some c) : dIx (.d (.str (T l))) (.d (.int k)) μ = .ok (.d (.str (T [c]))) μ := by
  show (if (T l).length ≤ sizeLine then (match L2.atI (T l).cps.toList k with | some c => _ | none => _) else _) = _
  rw [T_len, if_pos (Nat.le_trans hl line_big), tl_T, h]
  rfl
theorem dIx_c {n : Nat} {xs : List Dv} {k : Int} {x : Dv} (e : μ[n]? = some (.lst xs)) (h : L2.atI xs k = some x) : dIx (.c n) (.d (.int k)) μ = .ok x μ := by
  have : itemsA (.c n) μ = some xs := by
    unfold itemsA itemsT items
    simp only [e]
  show (match itemsA (.c n) μ with | some bs => (match L2.atI bs k with | some b => Out.ok b μ | none => Out.bad) | none => Out.bad) = _
  rw [this]
  show (match L2.atI xs k with | some b => Out.ok b μ | none => Out.bad) = _
  rw [h]
theorem atI_nn {α : Type} {xs : List α} {k : Nat} {x : α} (h : xs[k]? = some x) : L2.atI xs (k : Int) = some x := by
  have hl := (List.getElem?_eq_some_iff.mp h).1
  unfold L2.atI L2.ixN
  rw [if_pos (by omega), if_pos (by omega)]
  simpa using h
theorem dSetIx_c {n : Nat} {xs : List Dv} {k : Int} {j : Nat} {x : Dv} (e : μ[n]? = some (.lst xs)) (h : L2.ixN xs.length k = some j) : dSetIx (.c n) (.d (.int k)) x μ = some (μ.set n (.lst (xs.set j x))) := by
  unfold dSetIx
  simp only [e, h]
@[simp] theorem dLen_s {l : List Nat} (h : l.length ≤ 16000000) : dLen [.d (.str (T l))] μ = .ok (.d (.int l.length)) μ := by
  show (if (T l).length ≤ sizeLine then _ else _) = _
  rw [T_len, if_pos (Nat.le_trans h line_big)]
@[simp] theorem dLen_l {ds : List D} : dLen [.d (.list ds)] μ = .ok (.d (.int ds.length)) μ := by
  show Out.ok (Dv.d (.int ((ds.map Dv.d).length : Nat))) μ = _
  rw [List.length_map]
@[simp] theorem dLen_t {ds : List D} : dLen [.d (.tuple ds)] μ = .ok (.d (.int ds.length)) μ := by
  show Out.ok (Dv.d (.int ((ds.map Dv.d).length : Nat))) μ = _
  rw [List.length_map]
@[simp] theorem allD_cons {x : D} {r : List Dv} : allD (.d x :: r) = (allD r).map (x :: ·) := by
  show (match allD r with | some xs => _ | none => _) = _
  cases allD r <;> rfl
@[simp] theorem allD_nil : allD [] = some [] := id rfl
theorem dList_d {ds : List D} (h : ds.length ≤ sizeLine) : dList (ds.map .d) μ = .ok (.d (.list ds)) μ := by
  unfold dList
  rw [allD_map]
  show (if ds.length ≤ sizeLine then _ else _) = _
  rw [if_pos h]
@[simp] theorem dTup_l {ds : List D} (h : ds.length ≤ 16000000) : dTup (ds.map .d) μ = .ok (.d (.tuple ds)) μ := by
  unfold dTup
  rw [allD_map]
  show (if ds.length ≤ sizeLine then _ else _) = _
  rw [if_pos (Nat.le_trans h line_big)]
@[simp] theorem dList_1 {a : D} : dList [.d a] μ = .ok (.d (.list [a])) μ := dList_d (ds := [a]) (Nat.le_trans (by show 1 ≤ 16000000; decide) line_big)
@[simp] theorem dList_2 {a b : D} : dList [.d a, .d b] μ = .ok (.d (.list [a, b])) μ := dList_d (ds := [a, b]) (Nat.le_trans (by show 2 ≤ 16000000; decide) line_big)
@[simp] theorem dTup_1 {a : D} : dTup [.d a] μ = .ok (.d (.tuple [a])) μ := dTup_l (ds := [a]) (by show 1 ≤ 16000000; decide)
@[simp] theorem dTup_2 {a b : D} : dTup [.d a, .d b] μ = .ok (.d (.tuple [a, b])) μ := dTup_l (ds := [a, b]) (by show 2 ≤ 16000000; decide)
@[simp] theorem dTup_3 {a b c : D} : dTup [.d a, .d b, .d c] μ = .ok (.d (.tuple [a, b, c])) μ := dTup_l (ds := [a, b, c]) (by show 3 ≤ 16000000; decide)
@[simp] theorem dTup_4 {a b c d : D} : dTup [.d a, .d b, .d c, .d d] μ = .ok (.d (.tuple [a, b, c, d])) μ := dTup_l (ds := [a, b, c, d]) (by show 4 ≤ 16000000; decide)
theorem dTup_d {ds : List D} (h : ds.length ≤ sizeLine) : dTup (ds.map .d) μ = .ok (.d (.tuple ds)) μ := by
  unfold dTup
  rw [allD_map]
  show (if ds.length ≤ sizeLine then _ else _) = _
  rw [if_pos h]
@[simp] theorem dSl_s {l : List Nat} {i j : Option Int} (h : l.length ≤ 16000000) : dSl (.d (.str (T l))) i j μ = .ok (.d (.str (T (cutL l i j)))) μ := by
  show (if (T l).length ≤ sizeLine then Out.ok (Dv.d (.str (cutS (T l) i j))) μ else _) = _
  rw [T_len, cutS_T, if_pos (Nat.le_trans h line_big)]
@[simp] theorem dSl_t {ds : List D} {i j : Option Int} : dSl (.d (.tuple ds)) i j μ = .ok (.d (.tuple (cutL ds i j))) μ := id rfl
theorem allS_T (ls : List (List Nat)) : allS ((ls.map fun l => PyData.str (T l)).map Dv.d) = some (ls.map T) := by
  have := allS_map (ls.map T)
  rw [List.map_map] at this
  rw [List.map_map]
  exact this
/-- texts joined -/
theorem dJoin_s {l : List Nat} {ls : List (List Nat)} (h : (ls.map (·.length)).sum + ls.length * l.length ≤ 16777216) : dJoin (.d (.str (T l))) [.d (.list (ls.map fun l => PyData.str (T l)))] μ = .ok (.d (.str (T (TL.joinL l ls)))) μ := by
  show (match allS ((ls.map fun l => PyData.str (T l)).map Dv.d) with | some (ys : List Str) => (if (ys.map Str.length).sum + ys.length * (T l).length ≤ 16777216 then Out.ok (Dv.d (.str (Txt.join (T l) ys))) μ else Out.bad) | none => Out.bad) = _
  rw [allS_T]
  show (if ((ls.map T).map Str.length).sum + (ls.map T).length * (T l).length ≤ 16777216 then _ else _) = _
  have e : (ls.map T).map Str.length = ls.map (·.length) := by
    rw [List.map_map]
    apply List.map_congr_left
    intro x _
    exact T_len x
  rw [e, List.length_map, T_len, if_pos h, join_T]
end
theorem ite_bind {β γ : Type} (c : Prop) [Decidable c] (a b : Out β) (k : β → Store → Out γ) : (if c then a else b).bind k = if c then a.bind k else b.bind k := by split <;> rfl

/-! ### the hand -/
/-- a cell of three numbers, in bounds; m: how many draws at most so far -/
def Hnd (h m : Nat) (μ : Store) : Prop := ∃ a b c : Int, μ[h]? = some (.lst [.d (.int a), .d (.int b), .d (.int c)]) ∧ 0 ≤ a ∧ a.natAbs < 2 ^ 700 ∧ 0 ≤ b ∧ b < 2 ^ 62 ∧ 0 ≤ c ∧ c ≤ m
theorem Hnd.mono {h m n : Nat} {μ : Store} (x : Hnd h m μ) (l : m ≤ n) : Hnd h n μ := by
  obtain ⟨a, b, c, e, h1, h2, h3, h4, h5, h6⟩ := x
  exact ⟨a, b, c, e, h1, h2, h3, h4, h5, by omega⟩
/-- nothing but the cell h is otherwise -/
def Oth (h : Nat) (μ μ' : Store) : Prop := μ'.length = μ.length ∧ ∀ i, i ≠ h → μ'[i]? = μ[i]?
theorem Oth.refl (h : Nat) (μ : Store) : Oth h μ μ := ⟨rfl, fun _ _ => rfl⟩
theorem Oth.trans {h : Nat} {a b c : Store} (x : Oth h a b) (y : Oth h b c) : Oth h a c := ⟨y.1.trans x.1, fun i hi => (y.2 i hi).trans (x.2 i hi)⟩
theorem Oth.set (h : Nat) (μ : Store) (c : Cell) : Oth h μ (μ.set h c) := ⟨List.length_set, fun i hi => List.getElem?_set_ne (Ne.symm hi)⟩
theorem lt_of_get {h : Nat} {μ : Store} {c : Cell} (e : μ[h]? = some c) : h < μ.length := (List.getElem?_eq_some_iff.mp e).1
theorem log2_lt {i : Int} {n : Nat} (h : i.natAbs < 2 ^ n) (hn : 0 < n) : i.natAbs.log2 < n := PySem.Flt.log2_lt_of hn h
theorem cMul_ok {i j : Int} {a b : Nat} (ha : i.natAbs < 2 ^ a) (hb : j.natAbs < 2 ^ b) (h0 : 0 < a) (h1 : 0 < b) (h : a + b ≤ 1000000) : cMul i j = true := by
  unfold cMul
  exact decide_eq_true (wide_mul ha hb h0 h1 h)
theorem cMod_of {x k : Int} (h : 0 < k) : cMod x k = true := decide_eq_true h
end DL

/-! Loops and comprehensions run: lemmas over the data forms. -/
namespace DL
open PySem PySem.Spec PyProof.Rows L2
/-- a comprehension whose turn changes nothing and gives f of its item -/
theorem lcM_map {g : MG} {te : ME} {ρ : DEnv} {μ : Store} {f : Dv → Dv} : ∀ {bs : List Dv}, (∀ b ∈ bs, ∃ ρ', g b ρ μ = .ok ρ' μ ∧ te ρ' μ = .ok (f b) μ) → lcM g tYesM te ρ bs μ = .ok (bs.map f) μ
  | [], _ => rfl
  | b :: bs, h => by
    obtain ⟨ρ', h1, h2⟩ := h b List.mem_cons_self
    have ih := lcM_map (g := g) (te := te) (ρ := ρ) (μ := μ) (f := f) (bs := bs) fun x hx => h x (List.mem_cons_of_mem _ hx)
    unfold lcM
    rw [h1]
    simp only [gb_ok, tYesM, if_true]
    rw [h2]
    simp only [gb_ok]
    rw [ih]
    rfl
/-- .. with a test -/
theorem lcM_filter {g : MG} {tt : MT} {te : ME} {ρ : DEnv} {μ : Store} {p : Dv → Bool} {f : Dv → Dv} : ∀ {bs : List Dv}, (∀ b ∈ bs, ∃ ρ', g b ρ μ = .ok ρ' μ ∧ tt ρ' μ = .ok (p b) μ ∧ (p b = true → te ρ' μ = .ok (f b) μ)) → lcM g tt te ρ bs μ = .ok ((bs.filter p).map f) μ
  | [], _ => rfl
  | b :: bs, h => by
    obtain ⟨ρ', h1, h2, h3⟩ := h b List.mem_cons_self
    have ih := lcM_filter (g := g) (tt := tt) (te := te) (ρ := ρ) (μ := μ) (p := p) (f := f) (bs := bs) fun x hx => h x (List.mem_cons_of_mem _ hx)
    unfold lcM
    rw [h1]
    simp only [gb_ok]
    rw [h2]
    simp only [gb_ok]
    by_cases hp : p b = true
    · rw [if_pos hp, h3 hp, List.filter_cons_of_pos hp]
      simp only [gb_ok]
      rw [ih]
      rfl
    · rw [if_neg hp, ih, List.filter_cons_of_neg hp]
theorem lcF_list {g : MG} {tt : MT} {te : ME} {vs : List Nat} {ρ : DEnv} {bs : List Dv} {μ μ' : Store} {ds : List D} (h : lcM g tt te (wipeD ρ vs) bs μ = .ok (ds.map .d) μ') (hb : bs.length ≤ sizeLine) (hd : ds.length ≤ sizeLine) : lcF dList g tt te vs ρ bs μ = .ok (.d (.list ds)) μ' := by
  unfold lcF
  rw [if_pos hb, h]
  exact dList_d hd
/-- a for that goes on -/
theorem forL_cons {g : MG} {mb : MS} {b : Dv} {bs : List Dv} {ρ ρ1 ρ2 : DEnv} {μ μ1 μ2 : Store} (h1 : g b ρ μ = .ok ρ1 μ1) (h2 : mb ρ1 μ1 = .ok (.nx ρ2) μ2) : forL g mb (b :: bs) ρ μ = forL g mb bs ρ2 μ2 := by
  conv => lhs; unfold forL
  rw [h1]
  simp only [gb_ok]
  rw [h2]
  rfl
theorem forL_ret {g : MG} {mb : MS} {b v : Dv} {bs : List Dv} {ρ ρ1 : DEnv} {μ μ1 μ2 : Store} (h1 : g b ρ μ = .ok ρ1 μ1) (h2 : mb ρ1 μ1 = .ok (.rt v) μ2) : forL g mb (b :: bs) ρ μ = .ok (.rt v) μ2 := by
  conv => lhs; unfold forL
  rw [h1]
  simp only [gb_ok]
  rw [h2]
  rfl
/-- a for by an invariant -/
theorem forL_inv {g : MG} {mb : MS} (Pv : Nat → DEnv → Store → Prop) : ∀ {bs : List Dv} {i : Nat} {ρ : DEnv} {μ : Store}, Pv i ρ μ → (∀ k b ρ μ, i ≤ k → bs[k - i]? = some b → Pv k ρ μ → ∃ ρ1 μ1 ρ2 μ2, g b ρ μ = .ok ρ1 μ1 ∧ mb ρ1 μ1 = .ok (.nx ρ2) μ2 ∧ Pv (k + 1) ρ2 μ2) →
    ∃ ρ' μ', forL g mb bs ρ μ = .ok (.nx ρ') μ' ∧ Pv (i + bs.length) ρ' μ'
  | [], i, ρ, μ, h0, _ => ⟨ρ, μ, rfl, h0⟩
  | b :: bs, i, ρ, μ, h0, h => by
    obtain ⟨ρ1, μ1, ρ2, μ2, h1, h2, h3⟩ := h i b ρ μ (Nat.le_refl _) (by simp) h0
    obtain ⟨ρ', μ', e, q⟩ := forL_inv Pv (bs := bs) (i := i + 1) h3 fun k c ρ μ hk hc => h k c ρ μ (by omega) (by
      have : k - i = (k - (i + 1)) + 1 := by omega
      rw [this, List.getElem?_cons_succ]
      exact hc)
    refine ⟨ρ', μ', ?_, ?_⟩
    · rw [forL_cons h1 h2, e]
    · rw [List.length_cons]
      have : i + 1 + bs.length = i + (bs.length + 1) := by omega
      rw [← this]
      exact q
theorem whileL_go {c : MT} {mb : MS} {n : Nat} {ρ ρ1 : DEnv} {μ μ1 μ2 : Store} (h1 : c ρ μ = .ok true μ1) (h2 : mb ρ μ1 = .ok (.nx ρ1) μ2) : whileL c mb (n + 1) ρ μ = whileL c mb n ρ1 μ2 := by
  conv => lhs; unfold whileL
  rw [h1]
  simp only [bind_ok, if_true]
  rw [h2]
  rfl
theorem whileL_end {c : MT} {mb : MS} {n : Nat} {ρ : DEnv} {μ μ1 : Store} (h1 : c ρ μ = .ok false μ1) : whileL c mb (n + 1) ρ μ = .ok (.nx ρ) μ1 := by
  conv => lhs; unfold whileL
  rw [h1]
  rfl

/-- signs joined -/
theorem dJoin_one {l : List Nat} {μ : Store} (h : l.length ≤ 16000000) : dJoin (.d (.str (T []))) [.d (.list (l.map fun c => PyData.str (T [c])))] μ = .ok (.d (.str (T l))) μ := by
  have e1 : ∀ l : List Nat, ((l.map fun c => [c]).map (·.length)).sum = l.length := fun l => by
    induction l with
    | nil => rfl
    | cons c l ih =>
      simp only [List.map_cons, List.sum_cons, List.length_cons, List.length_nil]
      rw [ih]
      omega
  have e2 : ∀ l : List Nat, (l.map fun c => [c]).flatten = l := fun l => by
    induction l with
    | nil => rfl
    | cons c l ih => rw [List.map_cons, List.flatten_cons, ih]; rfl
  have := dJoin_s (μ := μ) (l := []) (ls := l.map fun c => [c]) (by rw [e1]; show l.length + (l.map fun c => [c]).length * 0 ≤ _; omega)
  rw [List.map_map, joinL_nil, e2] at this
  exact this
/-! ### slices -/
theorem cut_to {α : Type} (l : List α) {k : Int} (h : 0 ≤ k) : cutL l none (some k) = l.take k.toNat := by
  have e : HT.sIx l.length l.length (some k) = min k.toNat l.length := by
    show (if k < 0 then _ else _) = _
    rw [if_neg (by omega)]
  unfold cutL
  rw [e]
  show (l.drop 0).take (min k.toNat l.length - 0) = _
  rw [List.drop_zero, Nat.sub_zero, List.take_eq_take_iff]
  omega
theorem cut_from {α : Type} (l : List α) {k : Int} (h : 0 ≤ k) : cutL l (some k) none = l.drop k.toNat := by
  have e : HT.sIx l.length 0 (some k) = min k.toNat l.length := by
    show (if k < 0 then _ else _) = _
    rw [if_neg (by omega)]
  unfold cutL
  rw [e]
  show (l.drop (min k.toNat l.length)).take (l.length - min k.toNat l.length) = _
  rw [List.take_of_length_le (by rw [List.length_drop]; omega)]
  by_cases hk : k.toNat ≤ l.length
  · rw [Nat.min_eq_left hk]
  · rw [Nat.min_eq_right (by omega), List.drop_of_length_le (Nat.le_refl _), List.drop_of_length_le (by omega)]
theorem cut_toN {α : Type} (l : List α) {k : Int} (h : k < 0) : cutL l none (some k) = l.take (l.length - (-k).toNat) := by
  have e : HT.sIx l.length l.length (some k) = (k + (l.length : Int)).toNat := by
    show (if k < 0 then _ else _) = _
    rw [if_pos h]
  unfold cutL
  rw [e]
  show (l.drop 0).take ((k + (l.length : Int)).toNat - 0) = _
  rw [List.drop_zero, Nat.sub_zero]
  congr 1
  omega
theorem cut_fromN {α : Type} (l : List α) {k : Int} (h : k < 0) : cutL l (some k) none = l.drop (l.length - (-k).toNat) := by
  have e : HT.sIx l.length 0 (some k) = (k + (l.length : Int)).toNat := by
    show (if k < 0 then _ else _) = _
    rw [if_pos h]
  unfold cutL
  rw [e]
  show (l.drop (k + (l.length : Int)).toNat).take (l.length - (k + (l.length : Int)).toNat) = _
  rw [List.take_of_length_le (by rw [List.length_drop]; omega)]
  congr 1
  omega
end DL

/-! More words for simp: walks, tests of signs, numbers in texts. -/
namespace DL
open PySem PySem.Spec PyProof.Rows L2
section
variable {μ : Store} {ρ : DEnv}
@[simp] theorem walkD_s {z : List Nat} : walkD (.d (.str (T z))) μ = .ok (z.map fun c => .d (.str (T [c]))) μ := id rfl
@[simp] theorem walkD_l {ds : List D} : walkD (.d (.list ds)) μ = .ok (ds.map .d) μ := id rfl
@[simp] theorem walkD_t {ds : List D} : walkD (.d (.tuple ds)) μ = .ok (ds.map .d) μ := id rfl
@[simp] theorem rng1_r {j : Int} (h : okR j = true) : rng1 [.d (.int j)] μ = .ok ((List.range j.toNat).map fun (i : Nat) => Dv.d (.int i)) μ := by
  show (if okR j = true then _ else _) = _
  rw [if_pos h]
@[simp] theorem dAll_b {f : List Bool → Bool} {ks : List Bool} : dAll f [.d (.list (ks.map PyData.bool))] μ = .ok (.d (.bool (f ks))) μ := by
  show (match allB ((ks.map PyData.bool).map Dv.d) with | some ks => Out.ok (Dv.d (.bool (f ks))) μ | none => Out.bad) = _
  have := allB_map ks
  rw [List.map_map]
  have e : (Dv.d ∘ PyData.bool) = fun k => Dv.d (.bool k) := rfl
  rw [e, this]
@[simp] theorem dAbs_i {i : Int} : dAbs [.d (.int i)] μ = .ok (.d (.int (if i < 0 then -i else i))) μ := id rfl
@[simp] theorem dMax_i {i j : Int} : dMax [.d (.int i), .d (.int j)] μ = .ok (.d (.int (if j > i then j else i))) μ := id rfl
@[simp] theorem dMin_i {i j : Int} : dMin [.d (.int i), .d (.int j)] μ = .ok (.d (.int (if j < i then j else i))) μ := id rfl
@[simp] theorem dInt_b {k : Bool} : dInt [.d (.bool k)] μ = .ok (.d (.int (if k then 1 else 0))) μ := id rfl
@[simp] theorem dInt_i {k : Int} : dInt [.d (.int k)] μ = .ok (.d (.int k)) μ := id rfl
def isDig (c : Nat) : Bool := decide (48 ≤ c ∧ c ≤ 57)
theorem isDig_iff {c : Nat} : isDig c = true ↔ 48 ≤ c ∧ c ≤ 57 := by simp [isDig]
theorem dig_mem (c : Nat) : (c ∈ [48, 49, 50, 51, 52, 53, 54, 55, 56, 57]) = (isDig c = true) := by
  unfold isDig
  simp only [List.mem_cons, List.not_mem_nil, or_false, decide_eq_true_eq, eq_iff_iff]
  omega
def dval (l : List Nat) : Nat := NumText.digitsVal l
theorem dval_app (l m : List Nat) (k : Nat) : dval (l ++ m) = m.foldl (fun acc c => acc * 10 + (c - 48)) (dval l) := by
  unfold dval NumText.digitsVal
  rw [List.foldl_append]
theorem all_dig {l : List Nat} (h : l.all isDig = true) : NumText.AllDigits l := fun c hc => by
  have := List.all_eq_true.mp h c hc
  exact isDig_iff.mp this
theorem dInt_s {l : List Nat} (h : l.all isDig = true) (h0 : l ≠ []) (h1 : l.length ≤ 640) : dInt [.d (.str (T l))] μ = .ok (.d (.int (dval l))) μ := by
  have e := intText_digits (x := T l) (by rw [tl_T]; exact all_dig h) (by rw [tl_T]; exact h0) (by rw [T_len]; omega)
  rw [tl_T] at e
  show (match PySem.intText? (T l) with | some n => if (T l).length ≤ 640 then Out.ok (Dv.d (.int n)) μ else .bad | none => .bad) = _
  rw [e, T_len]
  show (if l.length ≤ 640 then _ else _) = _
  rw [if_pos h1]
  rfl
def showI (i : Int) : List Nat := if i < 0 then 45 :: TL.numL i.natAbs else TL.numL i.natAbs
theorem dStr_n {n : Nat} (h : n.log2 < 1920) : dStr [.d (.int (n : Int))] μ = .ok (.d (.str (T (TL.numL n)))) μ := by
  show (if (n : Int).natAbs.log2 < 1920 then Out.ok (Dv.d (.str (toString (n : Int)))) μ else Out.bad) = _
  rw [if_pos (by simpa using h)]
  have : (toString (n : Int) : String) = toString (n : Int) := rfl
  have e := TL.tl_num n
  have : Str.ofString (toString (n : Int)) = T (TL.numL n) := TL.ext_tl (by rw [e]; rfl)
  exact congrArg (fun x => Out.ok (Dv.d (.str x)) μ) this
theorem toString_neg (n : Nat) (h : 0 < n) : toString (-(n : Int)) = "-" ++ toString (n : Int) := by
  obtain ⟨m, rfl⟩ : ∃ m, n = m + 1 := ⟨n - 1, by omega⟩
  rfl
theorem dStr_m {n : Nat} (h0 : 0 < n) (h : n.log2 < 1920) : dStr [.d (.int (-(n : Int)))] μ = .ok (.d (.str (T (45 :: TL.numL n)))) μ := by
  show (if (-(n : Int)).natAbs.log2 < 1920 then Out.ok (Dv.d (.str (toString (-(n : Int))))) μ else Out.bad) = _
  rw [if_pos (by simpa using h), toString_neg n h0]
  have e := TL.tl_num n
  have : Str.ofString ("-" ++ toString (n : Int)) = T (45 :: TL.numL n) := TL.ext_tl (by
    rw [TL.tl_ofString, String.toList_append, List.map_append]
    have e2 := TL.tl_ofString (toString (n : Int))
    rw [e] at e2
    rw [← e2]
    rfl)
  exact congrArg (fun x => Out.ok (Dv.d (.str x)) μ) this
@[simp] theorem dIn_t2 {n : Bool} {x a b : List Nat} : dIn n (.d (.str (T x))) (.d (.tuple [.str (T a), .str (T b)])) μ = .ok (.d (.bool (if n then !(decide (a = x) || decide (b = x)) else (decide (a = x) || decide (b = x))))) μ := by
  show (match allFlat ([PyData.str (T a), PyData.str (T b)].map Dv.d) with
      | some (ds : List D) => (if flatD (.str (T x)) = true then Out.ok (Dv.d (PyData.bool (if n then !(ds.any fun y => PyData.eqv y (.str (T x))) else ds.any fun y => PyData.eqv y (.str (T x))))) μ else Out.bad)
      | none => .bad) = _
  rw [allFlat_map (by intro d hd; simp at hd; rcases hd with rfl | rfl <;> rfl)]
  show Out.ok (Dv.d (PyData.bool (if n then !([PyData.str (T a), PyData.str (T b)].any fun y => PyData.eqv y (.str (T x))) else [PyData.str (T a), PyData.str (T b)].any fun y => PyData.eqv y (.str (T x))))) μ = _
  simp [eqv_T]
theorem ljustF_T (l : List Nat) (n c : Nat) : Txt.ljustF (T l) (n : Int) c = T (l ++ List.replicate (n - l.length) c) := by
  unfold Txt.ljustF
  rw [T_len]
  split
  · rename_i h
    have : n - l.length = 0 := by omega
    rw [this]
    show T l = T (l ++ [])
    rw [List.append_nil]
  · apply TL.ext_tl
    show (Array.replicate 0 c ++ (T l).cps ++ Array.replicate ((n : Int).toNat - l.length) c).toList = (T _).cps.toList
    rw [tl_T, Array.toList_append, Array.toList_append, tl_T, Array.toList_replicate, Array.toList_replicate]
    rfl
theorem rjustF_T (l : List Nat) (n c : Nat) : Txt.rjustF (T l) (n : Int) c = T (List.replicate (n - l.length) c ++ l) := by
  unfold Txt.rjustF
  rw [T_len]
  split
  · rename_i h
    have : n - l.length = 0 := by omega
    rw [this]
    rfl
  · apply TL.ext_tl
    show (Array.replicate ((n : Int).toNat - l.length) c ++ (T l).cps ++ Array.replicate 0 c).toList = (T _).cps.toList
    rw [tl_T, Array.toList_append, Array.toList_append, tl_T, Array.toList_replicate, Array.toList_replicate]
    simp
theorem padOk {k : Nat} (h : k ≤ 16000000) : PadOk (k : Int) = true := by
  have hb := line_big
  unfold PadOk fitsSsize Builtin.Str.tooLong
  simp
  omega
theorem dLjust {l : List Nat} {k c : Nat} (h : k ≤ 16000000) : dPadF Txt.ljustF (.d (.str (T l))) [.d (.int k), .d (.str (T [c]))] μ = .ok (.d (.str (T (l ++ List.replicate (k - l.length) c)))) μ := by
  show (if PadOk (k : Int) = true ∧ (T [c]).length = 1 then Out.ok (Dv.d (.str (Txt.ljustF (T l) k c))) μ else Out.bad) = _
  rw [if_pos ⟨padOk h, rfl⟩, ljustF_T]
theorem dRjust {l : List Nat} {k c : Nat} (h : k ≤ 16000000) : dPadF Txt.rjustF (.d (.str (T l))) [.d (.int k), .d (.str (T [c]))] μ = .ok (.d (.str (T (List.replicate (k - l.length) c ++ l)))) μ := by
  show (if PadOk (k : Int) = true ∧ (T [c]).length = 1 then Out.ok (Dv.d (.str (Txt.rjustF (T l) k c))) μ else Out.bad) = _
  rw [if_pos ⟨padOk h, rfl⟩, rjustF_T]
theorem tw_self {s : Nat} : ∀ {l : List Nat}, s ∉ l → l.takeWhile (· != s) = l
  | [], _ => rfl
  | c :: l, h => by
    have h1 : (c != s) = true := by simp; exact fun q => h (q ▸ List.mem_cons_self)
    rw [List.takeWhile_cons, h1, if_pos rfl, tw_self fun q => h (List.mem_cons_of_mem _ q)]
theorem dw_nil {s : Nat} : ∀ {l : List Nat}, s ∉ l → l.dropWhile (· != s) = []
  | [], _ => rfl
  | c :: l, h => by
    have h1 : (c != s) = true := by simp; exact fun q => h (q ▸ List.mem_cons_self)
    rw [List.dropWhile_cons, h1, if_pos rfl, dw_nil fun q => h (List.mem_cons_of_mem _ q)]
theorem dPart_one {l : List Nat} {s : Nat} (h : l.length ≤ 16000000) : dPartition (.d (.str (T l))) [.d (.str (T [s]))] μ = .ok (.d (.tuple [.str (T (l.takeWhile (· != s))), .str (T (if s ∈ l then [s] else [])), .str (T ((l.dropWhile (· != s)).drop 1))])) μ := by
  show (if ((T [s]).length == 0) = false ∧ (T l).length ≤ sizeLine then Out.ok (Dv.d (PyData.tuple [.str (Txt.partition (T l) (T [s])).1, .str (Txt.partition (T l) (T [s])).2.1, .str (Txt.partition (T l) (T [s])).2.2])) μ else Out.bad) = _
  have hb := line_big
  rw [if_pos ⟨rfl, by rw [T_len]; omega⟩, part_T, par_one]
  by_cases q : s ∈ l
  · rw [if_pos q, if_pos q]
    rfl
  · rw [if_neg q, if_neg q]
    have e1 := tw_self q
    have e2 := dw_nil q
    rw [e1, e2]
    rfl
def zs (n : Nat) : List Nat := List.replicate n 48
theorem dAdd_ll {xs ys : List D} (h : xs.length + ys.length ≤ 16000000) : dAdd (.d (.list xs)) (.d (.list ys)) μ = .ok (.d (.list (xs ++ ys))) μ := by
  show dList (xs.map Dv.d ++ ys.map Dv.d) μ = _
  rw [← List.map_append]
  exact dList_d (by rw [List.length_append]; exact Nat.le_trans h line_big)
theorem dSplit_one {l : List Nat} {s : Nat} (hs : s < 256) (h : l.length ≤ 15000000) : dSplit (.d (.str (T l))) [.d (.str (T [s]))] μ = .ok (.d (.list ((splitL s [] l).map fun p => .str (T p)))) μ := by
  have hb := line_big
  show (if ((T [s]).length == 0) = false ∧ (T l).length + 2 ≤ sizeLine then Out.ok (Dv.d (.list ((Txt.split (T l) (T [s])).map .str))) μ else Out.bad) = _
  rw [if_pos ⟨rfl, by rw [T_len]; omega⟩, split_T _ _ hs, spl_one, List.map_map]
  rfl
theorem splitL_no {s : Nat} : ∀ {l acc : List Nat}, s ∉ l → splitL s acc l = [acc ++ l]
  | [], acc, _ => by rw [List.append_nil]; rfl
  | c :: l, acc, h => by
    have h1 : ¬ c = s := fun q => h (q ▸ List.mem_cons_self)
    rw [splitL, if_neg h1, splitL_no fun q => h (List.mem_cons_of_mem _ q)]
    simp
theorem splitL_app {s : Nat} : ∀ {a acc r : List Nat}, s ∉ a → splitL s acc (a ++ s :: r) = (acc ++ a) :: splitL s [] r
  | [], acc, r, _ => by
    rw [List.nil_append, splitL, if_pos rfl, List.append_nil]
  | c :: a, acc, r, h => by
    have h1 : ¬ c = s := fun q => h (q ▸ List.mem_cons_self)
    rw [List.cons_append, splitL, if_neg h1, splitL_app fun q => h (List.mem_cons_of_mem _ q)]
    simp
theorem splitL_ne {s : Nat} : ∀ {l acc : List Nat}, splitL s acc l ≠ []
  | [], acc => by unfold splitL; simp
  | c :: l, acc => by
    unfold splitL
    split
    · simp
    · exact splitL_ne
theorem cut_at {s : Nat} : ∀ {l : List Nat}, s ∈ l → ∃ a r, l = a ++ s :: r ∧ s ∉ a
  | c :: l, h => by
    by_cases hc : c = s
    · exact ⟨[], l, by rw [hc]; rfl, by simp⟩
    · obtain ⟨a, r, e, n⟩ := cut_at (l := l) (by
        rcases List.mem_cons.mp h with h | h
        · exact absurd h.symm hc
        · exact h)
      exact ⟨c :: a, r, by rw [e]; rfl, by simp; exact ⟨fun q => hc q.symm, n⟩⟩
theorem tw_app {s : Nat} : ∀ {a r : List Nat}, s ∉ a → (a ++ s :: r).takeWhile (· != s) = a
  | [], r, _ => by simp
  | c :: a, r, h => by
    have h1 : (c != s) = true := by simp; exact fun q => h (q ▸ List.mem_cons_self)
    rw [List.cons_append, List.takeWhile_cons, h1, if_pos rfl, tw_app fun q => h (List.mem_cons_of_mem _ q)]
theorem dw_app {s : Nat} : ∀ {a r : List Nat}, s ∉ a → ((a ++ s :: r).dropWhile (· != s)).drop 1 = r
  | [], r, _ => by simp
  | c :: a, r, h => by
    have h1 : (c != s) = true := by simp; exact fun q => h (q ▸ List.mem_cons_self)
    rw [List.cons_append, List.dropWhile_cons, h1, if_pos rfl, dw_app fun q => h (List.mem_cons_of_mem _ q)]
/-- a comprehension over the signs of a text -/
theorem lcF_signs {i : Nat} {te : ME} {vs : List Nat} {l : List Nat} {f : Nat → D} (hl : l.length ≤ 16000000) (h : ∀ c ∈ l, te ((wipeD ρ vs).set i (some (.d (.str (T [c]))))) μ = .ok (.d (f c)) μ) :
    lcF dList (gN i) tYesM te vs ρ (l.map fun c => .d (.str (T [c]))) μ = .ok (.d (.list (l.map f))) μ := by
  have hb := line_big
  refine lcF_list ?_ (by rw [List.length_map]; omega) (by rw [List.length_map]; omega)
  have := lcM_map (g := gN i) (te := te) (ρ := wipeD ρ vs) (μ := μ) (f := fun b => match b with | .d (.str z) => .d (f (z.cps.toList.headD 0)) | b => b) (bs := l.map fun c => .d (.str (T [c]))) (by
    intro b hb
    obtain ⟨c, hc, rfl⟩ := List.mem_map.mp hb
    exact ⟨_, rfl, h c hc⟩)
  rw [this, List.map_map, List.map_map]
  rfl
end
end DL

/-! repr of small data, a sign times a number. -/
namespace DL
open PySem PySem.Spec PyProof.Rows L2
section
variable {μ : Store} {ρ : DEnv}
theorem str_len_app (x y : Str) : (x ++ y).length = x.length + y.length := by
  rw [← T_tl x, ← T_tl y, T_app, T_len, T_len, T_len, List.length_append]
theorem dMulA_s1 {z : List Nat} (h : z.length ≤ 1000) : dMulA (.d (.str (T z))) (.d (.int 1)) μ = .ok (.d (.str (T z))) μ := by
  have hb := line_big
  show (if (decide (-(2 ^ 31) ≤ (1 : Int)) && decide ((1 : Int) < 2 ^ 31) && decide ((T z).length * (1 : Int).toNat ≤ sizeLine) && decide ((1 : Int) < 1 ∨ ((T z).length : Int) ≤ (2 ^ 63 - 1) / 1)) = true then Out.ok (Dv.d (.str (Txt.mul (T z) 1))) μ else .bad) = _
  rw [if_pos (by
    rw [T_len]
    simp only [Bool.and_eq_true, decide_eq_true_eq]
    refine ⟨⟨⟨by decide, by decide⟩, ?_⟩, .inr ?_⟩
    · show z.length * 1 ≤ _; omega
    · omega)]
  rfl
theorem dMulA_s0 {z : List Nat} : dMulA (.d (.str (T z))) (.d (.int 0)) μ = .ok (.d (.str (T []))) μ := by
  show (if (decide (-(2 ^ 31) ≤ (0 : Int)) && decide ((0 : Int) < 2 ^ 31) && decide ((T z).length * (0 : Int).toNat ≤ sizeLine) && decide ((0 : Int) < 1 ∨ ((T z).length : Int) ≤ (2 ^ 63 - 1) / 0)) = true then Out.ok (Dv.d (.str (Txt.mul (T z) 0))) μ else .bad) = _
  rw [if_pos (by
    simp only [Bool.and_eq_true, decide_eq_true_eq]
    refine ⟨⟨⟨by decide, by decide⟩, ?_⟩, .inl (by decide)⟩
    show (T z).length * 0 ≤ _; omega)]
  rfl
/-- none or a number of at most 40 figures -/
def smallD : D → Bool
  | .none => true
  | .int i => decide (i.natAbs < 10 ^ 40)
  | _ => false
theorem small_len {x : D} (h : smallD x = true) : x.shown.length ≤ 41 := by
  cases x with
  | none => show Str.length "None" ≤ 41; decide +kernel
  | int i =>
    have h : i.natAbs < 10 ^ 40 := of_decide_eq_true h
    show Str.length (Str.ofString (toString i)) ≤ 41
    rcases Int.le_total 0 i with hi | hi
    · obtain ⟨n, rfl⟩ := Int.eq_ofNat_of_zero_le hi
      have e : Str.ofString (toString (n : Int)) = T (TL.numL n) := TL.ext_tl (by rw [TL.tl_num n]; rfl)
      rw [e, T_len]
      exact Nat.le_trans (TL.numL_len (by decide) (k := 40) (by simpa using h)) (by decide)
    · obtain ⟨n, hn⟩ := Int.eq_ofNat_of_zero_le (a := -i) (by omega)
      have : i = -(n : Int) := by omega
      subst this
      by_cases h0 : 0 < n
      · rw [toString_neg n h0]
        have e : Str.ofString ("-" ++ toString (n : Int)) = T (45 :: TL.numL n) := TL.ext_tl (by
          rw [TL.tl_ofString, String.toList_append, List.map_append]
          have e2 := TL.tl_ofString (toString (n : Int))
          rw [TL.tl_num n] at e2
          rw [← e2]
          rfl)
        rw [e, T_len, List.length_cons]
        have := TL.numL_len (n := n) (by decide) (k := 40) (by simpa using h)
        omega
      · have : n = 0 := by omega
        subst this
        decide +kernel
  | bool b => cases h
  | str z => cases h
  | list ds => cases h
  | tuple ds => cases h
  | dict ds => cases h
theorem small_show {x : D} (h : smallD x = true) : x.showable = true ∧ nodict x = true ∧ x.hasDict = false ∧ x.depth = 0 := by
  cases x with
  | none => exact ⟨rfl, rfl, rfl, rfl⟩
  | int i =>
    refine ⟨?_, rfl, rfl, rfl⟩
    have h : i.natAbs < 10 ^ 40 := of_decide_eq_true h
    show decide (i.natAbs.log2 < 1920) = true
    have h2 : i.natAbs < 2 ^ 200 := Nat.lt_trans h (by decide)
    have := log2_lt (i := i) (n := 200) h2 (by decide)
    exact decide_eq_true (by omega)
  | bool b => cases h
  | str z => cases h
  | list ds => cases h
  | tuple ds => cases h
  | dict ds => cases h
theorem dRepr_1 {x : D} (h : smallD x = true) : dRepr [.d x] μ = .ok (.d (.str x.shown)) μ := by
  have hb := line_big
  have h1 := small_len h
  obtain ⟨a, b, c, d⟩ := small_show h
  show (if (x.showable && nodict x && !x.hasDict && decide (x.depth ≤ 40) && decide (x.shown.length ≤ sizeLine)) = true then Out.ok (Dv.d (.str x.shown)) μ else .bad) = _
  rw [if_pos (by rw [a, b, c, d]; simp; omega)]
theorem dRepr_2 {x : D} (h : smallD x = true) : dRepr [.d (.list [x, x])] μ = .ok (.d (.str (PyData.list [x, x]).shown)) μ := by
  have hb := line_big
  have h1 := small_len h
  obtain ⟨a, b, c, d⟩ := small_show h
  have hl : (PyData.list [x, x]).shown.length ≤ 1000 := by
    show Str.length (listText [x.shown, x.shown]) ≤ 1000
    unfold listText
    simp only [textFrom, str_len_app]
    have e1 : Str.length ("[" : Str) = 1 := by decide +kernel
    have e2 : Str.length ("]" : Str) = 1 := by decide +kernel
    have e3 : Str.length (", " : Str) = 2 := by decide +kernel
    have e4 : Str.length ("" : Str) = 0 := by decide +kernel
    simp [e1, e2, e3, e4]
    omega
  show (if ((x.showable && (x.showable && true)) && nodict (.list [x, x]) && !(x.hasDict || (x.hasDict || false)) && decide (max x.depth (max x.depth 0) + 1 ≤ 40) && decide ((PyData.list [x, x]).shown.length ≤ sizeLine)) = true then Out.ok (Dv.d (.str (PyData.list [x, x]).shown)) μ else .bad) = _
  have hn : nodict (.list [x, x]) = true := by simp [nodict, nodicts, b]
  rw [if_pos (by rw [a, c, d, hn]; simp; omega)]
end
end DL

namespace LW
open PySem PySem.Spec PyProof.Rows L2 DL
@[simp] theorem S_0 : ("0123456789" : Str) = T [48, 49, 50, 51, 52, 53, 54, 55, 56, 57] := by decide +kernel
@[simp] theorem S_1 : ("-" : Str) = T [45] := by decide +kernel
@[simp] theorem S_2 : ("." : Str) = T [46] := by decide +kernel
@[simp] theorem S_3 : ("whole" : Str) = T [119, 104, 111, 108, 101] := by decide +kernel
@[simp] theorem S_4 : ("0" : Str) = T [48] := by decide +kernel
@[simp] theorem S_5 : ("" : Str) = T [] := by decide +kernel
@[simp] theorem S_6 : ("y" : Str) = T [121] := by decide +kernel
@[simp] theorem S_7 : ("m" : Str) = T [109] := by decide +kernel
@[simp] theorem S_8 : ("d" : Str) = T [100] := by decide +kernel
@[simp] theorem S_9 : (" .-+0x9~" : Str) = T [32, 46, 45, 43, 48, 120, 57, 126] := by decide +kernel
@[simp] theorem S_10 : ("amount" : Str) = T [97, 109, 111, 117, 110, 116] := by decide +kernel
@[simp] theorem S_11 : ("+" : Str) = T [43] := by decide +kernel
@[simp] theorem S_12 : ("0900123456789" : Str) = T [48, 57, 48, 48, 49, 50, 51, 52, 53, 54, 55, 56, 57] := by decide +kernel
@[simp] theorem S_13 : ("+-" : Str) = T [43, 45] := by decide +kernel
@[simp] theorem S_14 : ("--" : Str) = T [45, 45] := by decide +kernel
@[simp] theorem S_15 : ("1" : Str) = T [49] := by decide +kernel
@[simp] theorem S_16 : ("99999999" : Str) = T [57, 57, 57, 57, 57, 57, 57, 57] := by decide +kernel
@[simp] theorem S_17 : ("999999999" : Str) = T [57, 57, 57, 57, 57, 57, 57, 57, 57] := by decide +kernel
@[simp] theorem S_18 : ("00000000" : Str) = T [48, 48, 48, 48, 48, 48, 48, 48] := by decide +kernel
@[simp] theorem S_19 : ("100000000" : Str) = T [49, 48, 48, 48, 48, 48, 48, 48, 48] := by decide +kernel
@[simp] theorem S_20 : ("1000000000" : Str) = T [49, 48, 48, 48, 48, 48, 48, 48, 48, 48] := by decide +kernel
@[simp] theorem S_21 : ("0000" : Str) = T [48, 48, 48, 48] := by decide +kernel
@[simp] theorem S_22 : ("md" : Str) = T [109, 100] := by decide +kernel
/-! ### 1. The defs as data: what each comes to (printed by gen.py) -/
def top (i : Nat) : Stmt := PySem.Challenge.pw_cleanedtables_k02_numbers_read_and_writt.main.body.getD i (.Pass ⟨0, 0, 0, 0⟩)
abbrev s_l_hand : Stmt := top 20
abbrev N_l_hand : List Str := ["_law_script", "_law_k", "_law_cell", "_law_great"]
def r1_l_hand : MS := sRet (eN cList (aCons (eVar 3) (aCons (e2 dMod (e2 dAdd (e2 dAdd (e2 dMulA (e2 dMod (eVar 2) (eC (.d (.int 2305843009213693951)))) (eC (.d (.int 1000003)))) (e2 dMulA (eC (.d (.int 7919))) (eVar 1))) (eC (.d (.int 29)))) (eC (.d (.int 2305843009213693921)))) (aCons (eC (.d (.int 0))) (aNil)))))
def r2_l_hand : MS := sSeq (sSet 3 (eIf (tV (e2 dGe (eN dAbs (aCons (eVar 2) (aNil))) (e2 dPow (eC (.d (.int 10))) (eC (.d (.int 18)))))) (e2 dMod (eN dAbs (aCons (eVar 2) (aNil))) (e2 dMulA (e2 dMulA (e2 dPow (eC (.d (.int 10))) (eC (.d (.int 60)))) (e2 dPow (eC (.d (.int 10))) (eC (.d (.int 60))))) (e2 dPow (eC (.d (.int 10))) (eC (.d (.int 60)))))) (eC (.d (.int 0))))) (r1_l_hand)
def B_l_hand : MS := sSeq (sSet 2 (eIf (tV (e2 dLt (eVar 1) (eN dLen (aCons (eVar 0) (aNil))))) (e2 dIx (eVar 0) (eVar 1)) (eC (.d (.int 0))))) (r2_l_hand)
def F_l_hand : OpN := runB 4 B_l_hand
abbrev s_l_take : Stmt := top 21
abbrev N_l_take : List Str := ["_law_hand_here", "_law_many", "_law_digit", "_law_turn", "_law_one", "_law_two", "_law_mixed", "_law_last"]
def r1_l_take : MS := sRet (eVar 2)
def r2_l_take : MS := sSeq (sSetIx (e2 dDiv (e2 dIx (eVar 0) (eC (.d (.int 0)))) (eVar 1)) (eVar 0) (eC (.d (.int 0)))) (r1_l_take)
def r3_l_take : MS := sRet (e2 dMod (e2 dDiv (e2 dMod (e2 dMulA (e2 dAdd (eVar 6) (eC (.d (.int 13)))) (eVar 7)) (eC (.d (.int 2305843009213693907)))) (eC (.d (.int 64)))) (eVar 1))
def r4_l_take : MS := sSeq (sSet 7 (e2 dAdd (e2 dAdd (e2 dMod (eVar 6) (eC (.d (.int 1000003)))) (e2 dMulA (eC (.d (.int 6700417))) (eVar 3))) (eC (.d (.int 5))))) (r3_l_take)
def r5_l_take : MS := sSeq (sSet 6 (e2 dMod (e2 dMulA (eVar 4) (eVar 5)) (eC (.d (.int 2305843009213693951))))) (r4_l_take)
def r6_l_take : MS := sSeq (sSet 5 (e2 dAdd (e2 dAdd (e2 dMod (e2 dIx (eVar 0) (eC (.d (.int 1)))) (eC (.d (.int 7919)))) (e2 dMulA (eC (.d (.int 15485863))) (eVar 3))) (eC (.d (.int 17))))) (r5_l_take)
def r7_l_take : MS := sSeq (sSet 4 (e2 dAdd (e2 dIx (eVar 0) (eC (.d (.int 1)))) (e2 dMulA (eC (.d (.int 104729))) (eVar 3)))) (r6_l_take)
def r8_l_take : MS := sSeq (sSetIx (eVar 3) (eVar 0) (eC (.d (.int 2)))) (r7_l_take)
def r9_l_take : MS := sSeq (sSet 3 (e2 dAdd (e2 dIx (eVar 0) (eC (.d (.int 2)))) (eC (.d (.int 1))))) (r8_l_take)
def B_l_take : MS := sSeq (sIf (tV (e2 dGt (e2 dIx (eVar 0) (eC (.d (.int 0)))) (eC (.d (.int 0))))) (sSeq (sSet 2 (e2 dMod (e2 dIx (eVar 0) (eC (.d (.int 0)))) (eVar 1))) (r2_l_take)) (sNext)) (r9_l_take)
def F_l_take : OpN := runB 8 B_l_take
abbrev s_l_pick : Stmt := top 22
abbrev N_l_pick : List Str := ["_law_hand_here", "_law_some"]
def B_l_pick : MS := sRet (e2 dIx (eVar 1) (eN (fCall 2 F_l_take) (aCons (eVar 0) (aCons (eN dLen (aCons (eVar 1) (aNil))) (aNil)))))
def F_l_pick : OpN := runB 2 B_l_pick
abbrev s_l_figures : Stmt := top 23
abbrev N_l_figures : List Str := ["_law_hand_here", "_law_most", "_law_many", "_law_k"]
def c1_l_figures : ME := eN (fCall 2 F_l_pick) (aCons (eVar 0) (aCons (eC (.d (.str "0900123456789"))) (aNil)))
def r1_l_figures : MS := sRet (eM isStr dJoin (eC (.d (.str ""))) (aCons (eLc dList (iRng rng1 (aCons (eVar 2) (aNil))) (gN 3) (tYesM) (c1_l_figures) [3]) (aNil)))
def B_l_figures : MS := sSeq (sSet 2 (eN (fCall 2 F_l_take) (aCons (eVar 0) (aCons (e2 dAdd (eVar 1) (eC (.d (.int 1)))) (aNil))))) (r1_l_figures)
def F_l_figures : OpN := runB 4 B_l_figures
abbrev s_l_signs : Stmt := top 24
abbrev N_l_signs : List Str := ["_law_hand_here", "_law_sign", "_law_ahead", "_law_lot", "_law_found", "_law_way", "_law_at", "_law_odd"]
def r1_l_signs : MS := sRet (eIf (tV (e2 (dEq false) (eVar 5) (eC (.d (.int 1))))) (e2 dAdd (eSl (eVar 4) (oNone) (oSome (eVar 6))) (eSl (eVar 4) (oSome (e2 dAdd (eVar 6) (eC (.d (.int 1))))) (oNone))) (eVar 4))
def r2_l_signs : MS := sSeq (sIf (tV (e2 (dEq false) (eVar 5) (eC (.d (.int 0))))) (sRet (e2 dAdd (e2 dAdd (eSl (eVar 4) (oNone) (oSome (eVar 6))) (eVar 7)) (eSl (eVar 4) (oSome (eVar 6)) (oNone)))) (sNext)) (r1_l_signs)
def r3_l_signs : MS := sSeq (sSet 7 (eN (fCall 2 F_l_pick) (aCons (eVar 0) (aCons (eC (.d (.str " .-+0x9~"))) (aNil))))) (r2_l_signs)
def r4_l_signs : MS := sSeq (sPar 5 6 (aCons (eN (fCall 2 F_l_take) (aCons (eVar 0) (aCons (eC (.d (.int 7))) (aNil)))) (aCons (eN (fCall 2 F_l_take) (aCons (eVar 0) (aCons (e2 dAdd (eN dLen (aCons (eVar 4) (aNil))) (eC (.d (.int 1)))) (aNil)))) (aNil)))) (r3_l_signs)
def r5_l_signs : MS := sSeq (sIf (tV (e2 (dEq false) (eVar 3) (eC (.d (.int 4))))) (sSet 4 (e2 dAdd (eVar 1) (eN (fCall 2 F_l_pick) (aCons (eVar 0) (aCons (eN dList (aCons (eC (.d (.str "0"))) (aCons (eC (.d (.str "1"))) (aCons (eC (.d (.str "99999999"))) (aCons (eC (.d (.str "999999999"))) (aCons (eC (.d (.str "00000000"))) (aCons (eC (.d (.str "100000000"))) (aCons (eC (.d (.str "1000000000"))) (aNil))))))))) (aNil)))))) (sNext)) (r4_l_signs)
def r6_l_signs : MS := sSeq (sIf (tV (e2 dLt (eVar 3) (eC (.d (.int 3))))) (sSet 4 (e2 dAdd (e2 dAdd (eVar 4) (eC (.d (.str ".")))) (eN (fCall 2 F_l_figures) (aCons (eVar 0) (aCons (eC (.d (.int 5))) (aNil)))))) (sNext)) (r5_l_signs)
def r7_l_signs : MS := sSeq (sSet 4 (e2 dAdd (eVar 1) (eVar 2))) (r6_l_signs)
def r8_l_signs : MS := sSeq (sSet 3 (eN (fCall 2 F_l_take) (aCons (eVar 0) (aCons (eC (.d (.int 5))) (aNil))))) (r7_l_signs)
def B_l_signs : MS := sSeq (sPar 1 2 (aCons (eN (fCall 2 F_l_pick) (aCons (eVar 0) (aCons (eN dList (aCons (eC (.d (.str ""))) (aCons (eC (.d (.str ""))) (aCons (eC (.d (.str "-"))) (aCons (eC (.d (.str "+"))) (aCons (eC (.d (.str "-"))) (aCons (eC (.d (.str "+-"))) (aCons (eC (.d (.str "--"))) (aNil))))))))) (aNil)))) (aCons (eN (fCall 2 F_l_figures) (aCons (eVar 0) (aCons (eC (.d (.int 10))) (aNil)))) (aNil)))) (r8_l_signs)
def F_l_signs : OpN := runB 8 B_l_signs
abbrev s_l_sum : Stmt := top 25
abbrev N_l_sum : List Str := ["_law_signs_here", "_law_found", "_law_one"]
def r1_l_sum : MS := sSet 1 (e2 dAdd (e2 dMulA (eC (.d (.int 10))) (eVar 1)) (eM isStr dIndexS (eC (.d (.str "0123456789"))) (aCons (eVar 2) (aNil))))
def w1_l_sum : MS := sSeq (sIf (tV (e2 (dIn true) (eVar 2) (eC (.d (.str "0123456789"))))) (sRet (eC (.d .none))) (sNext)) (r1_l_sum)
def r2_l_sum : MS := sRet (eIf (tV (e2 (dEq true) (eVar 0) (eC (.d (.str ""))))) (eVar 1) (eC (.d .none)))
def r3_l_sum : MS := sSeq (sFor (iSeq (eVar 0)) (gN 2) (w1_l_sum)) (r2_l_sum)
def B_l_sum : MS := sSeq (sSet 1 (eC (.d (.int 0)))) (r3_l_sum)
def F_l_sum : OpN := runB 3 B_l_sum
abbrev s_l_due : Stmt := top 26
abbrev N_l_due : List Str := ["_law_signs_here", "_law_many", "_law_body", "_law_parts", "_law_behind", "_law_found"]
def r1_l_due : MS := sRet (eIf (tV (e2 (dEq false) (e2 dIx (eVar 0) (eC (.d (.int 0)))) (eC (.d (.str "-"))))) (e2 dSub (eC (.d (.int 0))) (eVar 5)) (eVar 5))
def r2_l_due : MS := sSeq (sSet 5 (eN (fCall 1 F_l_sum) (aCons (e2 dAdd (e2 dIx (eVar 3) (eC (.d (.int 0)))) (eSl (e2 dAdd (eVar 4) (eC (.d (.str "0000")))) (oNone) (oSome (eVar 1)))) (aNil)))) (r1_l_due)
def r3_l_due : MS := sSeq (sIf (tOrM (tNotM (tV (eChain dLt dLt (eC (.d (.int 0))) (eN dLen (aCons (eVar 4) (aNil))) (eIf (tV (e2 (dEq false) (eVar 1) (eC (.d (.int 0))))) (eC (.d (.int 2))) (e2 dAdd (eVar 1) (eC (.d (.int 1)))))))) (tOrM (tV (eIsN false (eN (fCall 1 F_l_sum) (aCons (e2 dIx (eVar 3) (eC (.d (.int 0)))) (aNil))))) (tV (eIsN false (eN (fCall 1 F_l_sum) (aCons (eVar 4) (aNil))))))) (sRet (eC (.d .none))) (sNext)) (r2_l_due)
def r4_l_due : MS := sSeq (sSet 4 (e2 dIx (e2 dAdd (eVar 3) (eN dList (aCons (eC (.d (.str "0"))) (aNil)))) (eC (.d (.int 1))))) (r3_l_due)
def r5_l_due : MS := sSeq (sIf (tOrM (tV (e2 dGt (eN dLen (aCons (eVar 3) (aNil))) (eC (.d (.int 2))))) (tOrM (tAndM (tV (e2 (dEq false) (eVar 1) (eC (.d (.int 0))))) (tV (e2 dGt (eN dLen (aCons (eVar 3) (aNil))) (eC (.d (.int 1)))))) (tNotM (tV (eChain dLt dLt (eC (.d (.int 0))) (eN dLen (aCons (e2 dIx (eVar 3) (eC (.d (.int 0)))) (aNil))) (eIf (tV (e2 (dEq false) (eVar 1) (eC (.d (.int 0))))) (eC (.d (.int 10))) (eC (.d (.int 9))))))))) (sRet (eC (.d .none))) (sNext)) (r4_l_due)
def r6_l_due : MS := sSeq (sSet 3 (eM isStr dSplit (eVar 2) (aCons (eC (.d (.str "."))) (aNil)))) (r5_l_due)
def B_l_due : MS := sSeq (sSet 2 (eIf (tV (e2 (dIn false) (eSl (eVar 0) (oNone) (oSome (eC (.d (.int 1))))) (eN dTup (aCons (eC (.d (.str "-"))) (aCons (eC (.d (.str "+"))) (aNil)))))) (eSl (eVar 0) (oSome (eC (.d (.int 1)))) (oNone)) (eVar 0))) (r6_l_due)
def F_l_due : OpN := runB 6 B_l_due
abbrev s_are_figures : Stmt := top 7
abbrev N_are_figures : List Str := ["text", "least", "most", "sign"]
def c1_are_figures : ME := e2 (dIn false) (eVar 3) (eC (.d (.str "0123456789")))
def B_are_figures : MS := sRet (eAnd (eChain dLe dLe (eVar 1) (eN dLen (aCons (eVar 0) (aNil))) (eVar 2)) (eN (dAll fun ks => ks.all id) (aCons (eLc dList (iSeq (eVar 0)) (gN 3) (tYesM) (c1_are_figures) [3]) (aNil))))
def F_are_figures : OpN := runB 4 B_are_figures
abbrev s_read_whole : Stmt := top 8
abbrev N_read_whole : List Str := ["text", "most", "body"]
def r1_read_whole : MS := sRet (eIf (tV (e2 (dEq false) (e2 dIx (eVar 0) (eC (.d (.int 0)))) (eC (.d (.str "-"))))) (e1 dNeg (eN dInt (aCons (eVar 2) (aNil)))) (eN dInt (aCons (eVar 2) (aNil))))
def r2_read_whole : MS := sSeq (sIf (tNotM (tV (eN (fCall 3 F_are_figures) (aCons (eVar 2) (aCons (eC (.d (.int 1))) (aCons (eVar 1) (aNil))))))) (sRet (eC (.d .none))) (sNext)) (r1_read_whole)
def B_read_whole : MS := sSeq (sSet 2 (eIf (tV (e2 (dIn false) (eSl (eVar 0) (oNone) (oSome (eC (.d (.int 1))))) (eN dTup (aCons (eC (.d (.str "+"))) (aCons (eC (.d (.str "-"))) (aNil)))))) (eSl (eVar 0) (oSome (eC (.d (.int 1)))) (oNone)) (eVar 0))) (r2_read_whole)
def F_read_whole : OpN := runB 3 B_read_whole
abbrev s_read_amount : Stmt := top 9
abbrev N_read_amount : List Str := ["text", "places", "ahead", "point", "behind"]
def r1_read_amount : MS := sRet (eN (fCall 2 F_read_whole) (aCons (e2 dAdd (eVar 2) (eM isStr (dPadF Txt.ljustF) (eVar 4) (aCons (eVar 1) (aCons (eC (.d (.str "0"))) (aNil))))) (aCons (e2 dAdd (eC (.d (.int 8))) (eVar 1)) (aNil))))
def r2_read_amount : MS := sSeq (sIf (tV (eIsN false (eN (fCall 2 F_read_whole) (aCons (eVar 2) (aCons (eC (.d (.int 8))) (aNil)))))) (sRet (eC (.d .none))) (sNext)) (r1_read_amount)
def r3_read_amount : MS := sSeq (sIf (tAndM (tV (e2 (dEq true) (eVar 3) (eC (.d (.str ""))))) (tNotM (tV (eN (fCall 3 F_are_figures) (aCons (eVar 4) (aCons (eC (.d (.int 1))) (aCons (eVar 1) (aNil)))))))) (sRet (eC (.d .none))) (sNext)) (r2_read_amount)
def B_read_amount : MS := sSeq (sAsg (eM isStr dPartition (eVar 0) (aCons (eC (.d (.str "."))) (aNil))) (gT 3 (gsCons (gN 2) (gsCons (gN 3) (gsCons (gN 4) (gsNil)))))) (r3_read_amount)
def F_read_amount : OpN := runB 5 B_read_amount
abbrev s_read_day : Stmt := top 14
abbrev N_read_day : List Str := ["text", "order", "sign", "parts", "told", "letter", "part", "one"]
def B_read_day : MS := sBad
def F_read_day : OpN := runB 8 B_read_day
abbrev s_read_as : Stmt := top 15
abbrev N_read_as : List Str := ["form", "text", "word", "rest"]
def r1_read_as : MS := sRet (eIf (tV (e2 (dEq false) (eVar 2) (eC (.d (.str "amount"))))) (eN (fCall 2 F_read_amount) (aCons (eVar 1) (aCons (e2 dIx (eVar 3) (eC (.d (.int 0)))) (aNil)))) (eN (fCall 2 F_read_day) (aCons (eVar 1) (aCons (e2 dIx (eVar 3) (eC (.d (.int 0)))) (aNil)))))
def r2_read_as : MS := sSeq (sIf (tV (e2 (dEq false) (eVar 2) (eC (.d (.str "whole"))))) (sRet (eN (fCall 2 F_read_whole) (aCons (eVar 1) (aCons (eC (.d (.int 9))) (aNil))))) (sNext)) (r1_read_as)
def B_read_as : MS := sSeq (sAsg (eVar 0) (gStar 1 (gsCons (gN 2) (gsCons (gN 3) (gsNil))))) (r2_read_as)
def F_read_as : OpN := runB 4 B_read_as
abbrev s_l_shown : Stmt := top 27
abbrev N_l_shown : List Str := ["_law_found", "_law_many", "_law_one", "_law_figures_here", "_law_ahead"]
def r1_l_shown : MS := sSet 2 (e2 dDiv (eVar 2) (eC (.d (.int 10))))
def w1_l_shown : MS := sSeq (sSet 3 (e2 dAdd (e2 dIx (eC (.d (.str "0123456789"))) (e2 dSub (eVar 2) (e2 dMulA (e2 dDiv (eVar 2) (eC (.d (.int 10)))) (eC (.d (.int 10)))))) (eVar 3))) (r1_l_shown)
def u1_l_shown : MT := tOrM (tV (e2 dGt (eVar 2) (eC (.d (.int 0))))) (tV (e2 dLt (eN dLen (aCons (eVar 3) (aNil))) (e2 dAdd (eVar 1) (eC (.d (.int 1))))))
def r2_l_shown : MS := sRet (eIf (tV (e2 dGt (eVar 1) (eC (.d (.int 0))))) (e2 dAdd (e2 dAdd (eVar 4) (eC (.d (.str ".")))) (eSl (eVar 3) (oSome (e2 dSub (eN dLen (aCons (eVar 3) (aNil))) (eVar 1))) (oNone))) (eVar 4))
def r3_l_shown : MS := sSeq (sSet 4 (e2 dAdd (e2 dMulA (eC (.d (.str "-"))) (eN dInt (aCons (e2 dLt (eVar 0) (eC (.d (.int 0)))) (aNil)))) (eSl (eVar 3) (oNone) (oSome (e2 dSub (eN dLen (aCons (eVar 3) (aNil))) (eVar 1)))))) (r2_l_shown)
def r4_l_shown : MS := sSeq (whileL (u1_l_shown) (w1_l_shown) 100) (r3_l_shown)
def B_l_shown : MS := sSeq (sPar 2 3 (aCons (eN dAbs (aCons (eVar 0) (aNil))) (aCons (eC (.d (.str ""))) (aNil)))) (r4_l_shown)
def F_l_shown : OpN := runB 5 B_l_shown
abbrev s_written_amount : Stmt := top 16
abbrev N_written_amount : List Str := ["number", "places", "signs", "ahead"]
def r1_written_amount : MS := sRet (e2 dAdd (e2 dAdd (e2 dAdd (eVar 3) (eSl (eVar 2) (oNone) (oSome (e1 dNeg (eVar 1))))) (eC (.d (.str ".")))) (eSl (eVar 2) (oSome (e1 dNeg (eVar 1))) (oNone)))
def r2_written_amount : MS := sSeq (sSet 3 (eIf (tV (e2 dLt (eVar 0) (eC (.d (.int 0))))) (eC (.d (.str "-"))) (eC (.d (.str ""))))) (r1_written_amount)
def B_written_amount : MS := sSeq (sSet 2 (eM isStr (dPadF Txt.rjustF) (eN dStr (aCons (eN dAbs (aCons (eVar 0) (aNil))) (aNil))) (aCons (e2 dAdd (eVar 1) (eC (.d (.int 1)))) (aCons (eC (.d (.str "0"))) (aNil))))) (r2_written_amount)
def F_written_amount : OpN := runB 4 B_written_amount
abbrev s_written_day : Stmt := top 17
abbrev N_written_day : List Str := ["number", "order", "year", "month", "day", "told", "letter"]
def B_written_day : MS := sBad
def F_written_day : OpN := runB 7 B_written_day
abbrev s_written : Stmt := top 18
abbrev N_written : List Str := ["form", "number", "word", "rest"]
def r1_written : MS := sRet (eIf (tV (e2 (dEq false) (eVar 2) (eC (.d (.str "amount"))))) (eN (fCall 2 F_written_amount) (aCons (eVar 1) (aCons (e2 dIx (eVar 3) (eC (.d (.int 0)))) (aNil)))) (eN (fCall 2 F_written_day) (aCons (eVar 1) (aCons (e2 dIx (eVar 3) (eC (.d (.int 0)))) (aNil)))))
def r2_written : MS := sSeq (sIf (tV (e2 (dEq false) (eVar 2) (eC (.d (.str "whole"))))) (sRet (eN dStr (aCons (eVar 1) (aNil)))) (sNext)) (r1_written)
def B_written : MS := sSeq (sAsg (eVar 0) (gStar 1 (gsCons (gN 2) (gsCons (gN 3) (gsNil))))) (r2_written)
def F_written : OpN := runB 4 B_written
abbrev s_law : Stmt := top 28
abbrev N_law : List Str := ["_law_script", "_law_k", "_law_hand_here", "_law_turn", "_law_signs_here", "_law_many", "_law_kind", "_law_due_here", "_law_shown_here"]
def r1_law : MS := sIf (tV (e2 (dEq true) (eN dRepr (aCons (eN (fCall 2 F_read_as) (aCons (eVar 6) (aCons (eVar 8) (aNil)))) (aNil))) (eN dRepr (aCons (eVar 7) (aNil))))) (sRet (eC (.d (.bool false)))) (sNext)
def r2_law : MS := sSeq (sIf (tV (e2 (dEq true) (eN dList (aCons (eN (fCall 2 F_written) (aCons (eVar 6) (aCons (eVar 7) (aNil)))) (aCons (eCallK 2 2 [1, 0] F_written aNil (aCons (eVar 7) (aCons (eVar 6) (aNil)))) (aNil)))) (eN dList (aCons (eVar 8) (aCons (eVar 8) (aNil)))))) (sRet (eC (.d (.bool false)))) (sNext)) (r1_law)
def r3_law : MS := sIf (tV (eIsN true (eVar 7))) (sSeq (sSet 8 (eN (fCall 2 F_l_shown) (aCons (eVar 7) (aCons (eVar 5) (aNil))))) (r2_law)) (sNext)
def r4_law : MS := sSeq (sIf (tV (e2 (dEq true) (eN dRepr (aCons (eN dList (aCons (eN (fCall 2 F_read_as) (aCons (eVar 6) (aCons (eVar 4) (aNil)))) (aCons (eCallK 2 2 [1, 0] F_read_as aNil (aCons (eVar 4) (aCons (eVar 6) (aNil)))) (aNil)))) (aNil))) (eN dRepr (aCons (eN dList (aCons (eVar 7) (aCons (eVar 7) (aNil)))) (aNil))))) (sRet (eC (.d (.bool false)))) (sNext)) (r3_law)
def r5_law : MS := sSeq (sSet 7 (eN (fCall 2 F_l_due) (aCons (eVar 4) (aCons (eVar 5) (aNil))))) (r4_law)
def w1_law : MS := sSeq (sSet 6 (eIf (tV (e2 (dEq false) (eVar 5) (eC (.d (.int 0))))) (eN dTup (aCons (eC (.d (.str "whole"))) (aNil))) (eN dTup (aCons (eC (.d (.str "amount"))) (aCons (eVar 5) (aNil)))))) (r5_law)
def r6_law : MS := sFor (iRng rng1 (aCons (eC (.d (.int 5))) (aNil))) (gN 5) (w1_law)
def w2_law : MS := sSeq (sSet 4 (eN (fCall 1 F_l_signs) (aCons (eVar 2) (aNil)))) (r6_law)
def r7_law : MS := sFor (iRng rng1 (aCons (eC (.d (.int 30))) (aNil))) (gN 3) (w2_law)
def w3_law : MS := sSeq (sSet 2 (eN (fCall 2 F_l_hand) (aCons (eVar 0) (aCons (eVar 1) (aNil))))) (r7_law)
def r8_law : MS := sRet (eC (.d (.bool true)))
def B_law : MS := sSeq (sFor (iRng rng1 (aCons (eN dMax (aCons (eC (.d (.int 1))) (aCons (eN dMin (aCons (eC (.d (.int 4))) (aCons (eN dLen (aCons (eVar 0) (aNil))) (aNil)))) (aNil)))) (aNil))) (gN 1) (w3_law)) (r8_law)
def F_law : OpN := runB 9 B_law
/-! ### 2. Each def keeps its data form -/
abbrev GG (K : PySem.W.Frag) : GT := ⟨K, fun _ => none⟩
structure Tx (K : PySem.W.Frag) (mg : Str → Option Value) : Prop where
  b_abs : mg "abs" = none
  b_all : mg "all" = none
  b_int : mg "int" = none
  b_len : mg "len" = none
  b_max : mg "max" = none
  b_min : mg "min" = none
  b_range : mg "range" = none
  b_repr : mg "repr" = none
  b_str : mg "str" = none
  c_FIGURES : ∃ t, mg "FIGURES" = some (.str "0123456789" t)
  c_MOST_AMOUNT : ∃ t, mg "MOST_AMOUNT" = some (.int 8 t)
  c_MOST_WHOLE : ∃ t, mg "MOST_WHOLE" = some (.int 9 t)
section
variable {P : Program} {w : World} {K : PySem.W.Frag} {mg : Str → Option Value} {base : Heap}
theorem sc_l_hand : FnScope N_l_hand ["_law_script", "_law_k"] (defScope s_l_hand) := ⟨rfl, rfl, rfl, by decide +kernel, rfl, by decide +kernel, by decide +kernel⟩
theorem ok_l_hand {f : Addr} {fd : FuncData} (F : Fun K "_law_hand" "_law_hand" s_l_hand f fd) (T : Tx K mg) : FnG P w K mg base 1 f fd ["_law_script", "_law_k"] (spD (GG K) 2 F_l_hand) := by
  have sc := sc_l_hand
  refine fn_okG (G := GG K) F sc fun cdv A outer s H E g hr tk po => ?_
  exact dss_cons (ds_set (i := 2) sc.nd (de_ifExp (dt_cmp op_ltA ok_cmp (de_var 1) (de_callB call_len ok_len (by rfl) T.b_len (by decide +kernel) (da_cons (de_var 0) (da_nil)))) (de_ix ix_seq ok_ix (de_var 0) (de_var 1)) (de_int))) (dss_cons (ds_set (i := 3) sc.nd (de_ifExp (dt_cmp op_geA ok_cmp (de_callB call_abs ok_abs (by rfl) T.b_abs (by decide +kernel) (da_cons (de_var 2) (da_nil))) (de_op op_pow ok_pow (de_int) (de_int))) (de_op op_mod ok_mod (de_callB call_abs ok_abs (by rfl) T.b_abs (by decide +kernel) (da_cons (de_var 2) (da_nil))) (de_op op_mulA ok_mulA (de_op op_mulA ok_mulA (de_op op_pow ok_pow (de_int) (de_int)) (de_op op_pow ok_pow (de_int) (de_int))) (de_op op_pow ok_pow (de_int) (de_int)))) (de_int))) (dss_one (ds_ret (de_lstC (da_cons (de_var 3) (da_cons (de_op op_mod ok_mod (de_op op_addA ok_add (de_op op_addA ok_add (de_op op_mulA ok_mulA (de_op op_mod ok_mod (de_var 2) (de_int)) (de_int)) (de_op op_mulA ok_mulA (de_int) (de_var 1))) (de_int)) (de_int)) (da_cons (de_int) (da_nil))))))))
theorem sc_l_take : FnScope N_l_take ["_law_hand_here", "_law_many"] (defScope s_l_take) := ⟨rfl, rfl, rfl, by decide +kernel, rfl, by decide +kernel, by decide +kernel⟩
theorem ok_l_take {f : Addr} {fd : FuncData} (F : Fun K "_law_take" "_law_take" s_l_take f fd) (T : Tx K mg) : FnG P w K mg base 1 f fd ["_law_hand_here", "_law_many"] (spD (GG K) 2 F_l_take) := by
  have sc := sc_l_take
  refine fn_okG (G := GG K) F sc fun cdv A outer s H E g hr tk po => ?_
  exact dss_cons (ds_if (dt_cmp op_gtA ok_cmp (de_ix ix_seq ok_ix (de_var 0) (de_int)) (de_int)) (dss_cons (ds_set (i := 2) sc.nd (de_op op_mod ok_mod (de_ix ix_seq ok_ix (de_var 0) (de_int)) (de_var 1))) (dss_cons (ds_setIx (de_op op_fdivW ok_div (de_ix ix_seq ok_ix (de_var 0) (de_int)) (de_var 1)) (de_var 0) (de_int)) (dss_one (ds_ret (de_var 2))))) (dss_nil)) (dss_cons (ds_set (i := 3) sc.nd (de_op op_addA ok_add (de_ix ix_seq ok_ix (de_var 0) (de_int)) (de_int))) (dss_cons (ds_setIx (de_var 3) (de_var 0) (de_int)) (dss_cons (ds_set (i := 4) sc.nd (de_op op_addA ok_add (de_ix ix_seq ok_ix (de_var 0) (de_int)) (de_op op_mulA ok_mulA (de_int) (de_var 3)))) (dss_cons (ds_set (i := 5) sc.nd (de_op op_addA ok_add (de_op op_addA ok_add (de_op op_mod ok_mod (de_ix ix_seq ok_ix (de_var 0) (de_int)) (de_int)) (de_op op_mulA ok_mulA (de_int) (de_var 3))) (de_int))) (dss_cons (ds_set (i := 6) sc.nd (de_op op_mod ok_mod (de_op op_mulA ok_mulA (de_var 4) (de_var 5)) (de_int))) (dss_cons (ds_set (i := 7) sc.nd (de_op op_addA ok_add (de_op op_addA ok_add (de_op op_mod ok_mod (de_var 6) (de_int)) (de_op op_mulA ok_mulA (de_int) (de_var 3))) (de_int))) (dss_one (ds_ret (de_op op_mod ok_mod (de_op op_fdivW ok_div (de_op op_mod ok_mod (de_op op_mulA ok_mulA (de_op op_addA ok_add (de_var 6) (de_int)) (de_var 7)) (de_int)) (de_int)) (de_var 1))))))))))
theorem sc_l_pick : FnScope N_l_pick ["_law_hand_here", "_law_some"] (defScope s_l_pick) := ⟨rfl, rfl, rfl, by decide +kernel, rfl, by decide +kernel, by decide +kernel⟩
theorem ok_l_pick {f : Addr} {fd : FuncData} (F : Fun K "_law_pick" "_law_pick" s_l_pick f fd) (T : Tx K mg) (C_l_take : Cal P w (GG K) mg base "_law_take" 1 ["_law_hand_here", "_law_many"] [] F_l_take) : FnG P w K mg base 2 f fd ["_law_hand_here", "_law_some"] (spD (GG K) 2 F_l_pick) := by
  have sc := sc_l_pick
  refine fn_okG (G := GG K) F sc fun cdv A outer s H E g hr tk po => ?_
  exact dss_one (ds_ret (de_ix ix_seq ok_ix (de_var 1) (de_calC rfl C_l_take (by exact g) (by exact hr.mono (by decide)) tk (by rfl) (da_cons (de_var 0) (da_cons (de_callB call_len ok_len (by rfl) T.b_len (by decide +kernel) (da_cons (de_var 1) (da_nil))) (da_nil))))))
theorem sc_l_figures : FnScope N_l_figures ["_law_hand_here", "_law_most"] (defScope s_l_figures) := ⟨rfl, rfl, rfl, by decide +kernel, rfl, by decide +kernel, by decide +kernel⟩
theorem ok_l_figures {f : Addr} {fd : FuncData} (F : Fun K "_law_figures" "_law_figures" s_l_figures f fd) (T : Tx K mg) (C_l_take : Cal P w (GG K) mg base "_law_take" 1 ["_law_hand_here", "_law_many"] [] F_l_take) (C_l_pick : Cal P w (GG K) mg base "_law_pick" 2 ["_law_hand_here", "_law_some"] [] F_l_pick) : FnG P w K mg base 3 f fd ["_law_hand_here", "_law_most"] (spD (GG K) 2 F_l_figures) := by
  have sc := sc_l_figures
  refine fn_okG (G := GG K) F sc fun cdv A outer s H E g hr tk po => ?_
  exact dss_cons (ds_set (i := 2) sc.nd (de_calC rfl C_l_take (by exact g) (by exact hr.mono (by decide)) tk (by rfl) (da_cons (de_var 0) (da_cons (de_op op_addA ok_add (de_var 1) (de_int)) (da_nil))))) (dss_one (ds_ret (de_bm PySem.F.plainAttrs_str PySem.F.slot_str_join PySem.F.type_str_join mt_join ok_join ty_str rfl (de_str) (da_cons (de_lc [("_law_k", 3)] fin_list rfl sc.nd (di_range1 (by rfl) T.b_range (da_cons (de_var 2) (da_nil))) (blkOk_by (N := N_l_figures) (sc := defScope s_l_figures) (by decide +kernel)) (fun _ _ _ _ _ => dg_name (i := 3) sc.nd) (fun _ _ _ _ _ => dts_nil) (fun _ _ _ _ _ => de_calC rfl C_l_pick (by exact g) (by exact hr.mono (by decide)) takes0 (by rfl) (da_cons (de_var 0) (da_cons (de_str) (da_nil))))) (da_nil)))))
theorem sc_l_signs : FnScope N_l_signs ["_law_hand_here"] (defScope s_l_signs) := ⟨rfl, rfl, rfl, by decide +kernel, rfl, by decide +kernel, by decide +kernel⟩
theorem ok_l_signs {f : Addr} {fd : FuncData} (F : Fun K "_law_signs" "_law_signs" s_l_signs f fd) (T : Tx K mg) (C_l_pick : Cal P w (GG K) mg base "_law_pick" 2 ["_law_hand_here", "_law_some"] [] F_l_pick) (C_l_figures : Cal P w (GG K) mg base "_law_figures" 3 ["_law_hand_here", "_law_most"] [] F_l_figures) (C_l_take : Cal P w (GG K) mg base "_law_take" 1 ["_law_hand_here", "_law_many"] [] F_l_take) : FnG P w K mg base 4 f fd ["_law_hand_here"] (spD (GG K) 1 F_l_signs) := by
  have sc := sc_l_signs
  refine fn_okG (G := GG K) F sc fun cdv A outer s H E g hr tk po => ?_
  exact dss_cons (ds_par (i := 1) (j := 2) rfl sc.nd (da_cons (de_calC rfl C_l_pick (by exact g) (by exact hr.mono (by decide)) tk (by rfl) (da_cons (de_var 0) (da_cons (de_lst (da_cons (de_str) (da_cons (de_str) (da_cons (de_str) (da_cons (de_str) (da_cons (de_str) (da_cons (de_str) (da_cons (de_str) (da_nil))))))))) (da_nil)))) (da_cons (de_calC rfl C_l_figures (by exact g) (by exact hr.mono (by decide)) tk (by rfl) (da_cons (de_var 0) (da_cons (de_int) (da_nil)))) (da_nil)))) (dss_cons (ds_set (i := 3) sc.nd (de_calC rfl C_l_take (by exact g) (by exact hr.mono (by decide)) tk (by rfl) (da_cons (de_var 0) (da_cons (de_int) (da_nil))))) (dss_cons (ds_set (i := 4) sc.nd (de_op op_addA ok_add (de_var 1) (de_var 2))) (dss_cons (ds_if (dt_cmp op_ltA ok_cmp (de_var 3) (de_int)) (dss_one (ds_set (i := 4) sc.nd (de_op op_addA ok_add (de_op op_addA ok_add (de_var 4) (de_str)) (de_calC rfl C_l_figures (by exact g) (by exact hr.mono (by decide)) tk (by rfl) (da_cons (de_var 0) (da_cons (de_int) (da_nil))))))) (dss_nil)) (dss_cons (ds_if (dt_cmp (op_eqA (by exact hr.units)) ok_eq (de_var 3) (de_int)) (dss_one (ds_set (i := 4) sc.nd (de_op op_addA ok_add (de_var 1) (de_calC rfl C_l_pick (by exact g) (by exact hr.mono (by decide)) tk (by rfl) (da_cons (de_var 0) (da_cons (de_lst (da_cons (de_str) (da_cons (de_str) (da_cons (de_str) (da_cons (de_str) (da_cons (de_str) (da_cons (de_str) (da_cons (de_str) (da_nil))))))))) (da_nil))))))) (dss_nil)) (dss_cons (ds_par (i := 5) (j := 6) rfl sc.nd (da_cons (de_calC rfl C_l_take (by exact g) (by exact hr.mono (by decide)) tk (by rfl) (da_cons (de_var 0) (da_cons (de_int) (da_nil)))) (da_cons (de_calC rfl C_l_take (by exact g) (by exact hr.mono (by decide)) tk (by rfl) (da_cons (de_var 0) (da_cons (de_op op_addA ok_add (de_callB call_len ok_len (by rfl) T.b_len (by decide +kernel) (da_cons (de_var 4) (da_nil))) (de_int)) (da_nil)))) (da_nil)))) (dss_cons (ds_set (i := 7) sc.nd (de_calC rfl C_l_pick (by exact g) (by exact hr.mono (by decide)) tk (by rfl) (da_cons (de_var 0) (da_cons (de_str) (da_nil))))) (dss_cons (ds_if (dt_cmp (op_eqA (by exact hr.units)) ok_eq (de_var 5) (de_int)) (dss_one (ds_ret (de_op op_addA ok_add (de_op op_addA ok_add (de_slice rfl (de_var 4) (do_none) (do_some (de_var 6))) (de_var 7)) (de_slice rfl (de_var 4) (do_some (de_var 6)) (do_none))))) (dss_nil)) (dss_one (ds_ret (de_ifExp (dt_cmp (op_eqA (by exact hr.units)) ok_eq (de_var 5) (de_int)) (de_op op_addA ok_add (de_slice rfl (de_var 4) (do_none) (do_some (de_var 6))) (de_slice rfl (de_var 4) (do_some (de_op op_addA ok_add (de_var 6) (de_int))) (do_none))) (de_var 4)))))))))))
theorem sc_l_sum : FnScope N_l_sum ["_law_signs_here"] (defScope s_l_sum) := ⟨rfl, rfl, rfl, by decide +kernel, rfl, by decide +kernel, by decide +kernel⟩
theorem ok_l_sum {f : Addr} {fd : FuncData} (F : Fun K "_law_sum" "_law_sum" s_l_sum f fd) (T : Tx K mg) : FnG P w K mg base 1 f fd ["_law_signs_here"] (spD (GG K) 1 F_l_sum) := by
  have sc := sc_l_sum
  refine fn_okG (G := GG K) F sc fun cdv A outer s H E g hr tk po => ?_
  exact dss_cons (ds_set (i := 1) sc.nd (de_int)) (dss_cons (ds_for po rfl (di_seq rfl (de_var 0)) (dg_name (i := 2) sc.nd) (dss_cons (ds_if (dt_cmp op_notInA ok_in (de_var 2) (de_str)) (dss_one (ds_ret (de_non))) (dss_nil)) (dss_one (ds_set (i := 1) sc.nd (de_op op_addA ok_add (de_op op_mulA ok_mulA (de_int) (de_var 1)) (de_bm PySem.F.plainAttrs_str PySem.F.slot_str_index PySem.F.type_str_index mt_sindex ok_indexS ty_str rfl (de_str) (da_cons (de_var 2) (da_nil)))))))) (dss_one (ds_ret (de_ifExp (dt_cmp (op_neA (by exact hr.units)) ok_ne (de_var 0) (de_str)) (de_var 1) (de_non)))))
theorem sc_l_due : FnScope N_l_due ["_law_signs_here", "_law_many"] (defScope s_l_due) := ⟨rfl, rfl, rfl, by decide +kernel, rfl, by decide +kernel, by decide +kernel⟩
theorem ok_l_due {f : Addr} {fd : FuncData} (F : Fun K "_law_due" "_law_due" s_l_due f fd) (T : Tx K mg) (C_l_sum : Cal P w (GG K) mg base "_law_sum" 1 ["_law_signs_here"] [] F_l_sum) : FnG P w K mg base 2 f fd ["_law_signs_here", "_law_many"] (spD (GG K) 2 F_l_due) := by
  have sc := sc_l_due
  refine fn_okG (G := GG K) F sc fun cdv A outer s H E g hr tk po => ?_
  exact dss_cons (ds_set (i := 2) sc.nd (de_ifExp (dt_cmp op_inA ok_in (de_slice rfl (de_var 0) (do_none) (do_some (de_int))) (de_tup (da_cons (de_str) (da_cons (de_str) (da_nil))))) (de_slice rfl (de_var 0) (do_some (de_int)) (do_none)) (de_var 0))) (dss_cons (ds_set (i := 3) sc.nd (de_bm PySem.F.plainAttrs_str PySem.F.slot_str_split PySem.F.type_str_split mt_split ok_split ty_str rfl (de_var 2) (da_cons (de_str) (da_nil)))) (dss_cons (ds_if (dw_pt (dw_or (dt_cmp op_gtA ok_cmp (de_callB call_len ok_len (by rfl) T.b_len (by decide +kernel) (da_cons (de_var 3) (da_nil))) (de_int)) (dw_or (dw_pt (dw_and (dt_cmp (op_eqA (by exact hr.units)) ok_eq (de_var 1) (de_int)) (dw_and1 (dt_cmp op_gtA ok_cmp (de_callB call_len ok_len (by rfl) T.b_len (by decide +kernel) (da_cons (de_var 3) (da_nil))) (de_int))))) (dw_or1 (dt_not (dt_chain op_ltA ok_cmp op_ltA ok_cmp (de_int) (de_callB call_len ok_len (by rfl) T.b_len (by decide +kernel) (da_cons (de_ix ix_seq ok_ix (de_var 3) (de_int)) (da_nil))) (de_ifExp (dt_cmp (op_eqA (by exact hr.units)) ok_eq (de_var 1) (de_int)) (de_int) (de_int)))))))) (dss_one (ds_ret (de_non))) (dss_nil)) (dss_cons (ds_set (i := 4) sc.nd (de_ix ix_seq ok_ix (de_op op_addA ok_add (de_var 3) (de_lst (da_cons (de_str) (da_nil)))) (de_int))) (dss_cons (ds_if (dw_pt (dw_or (dt_not (dt_chain op_ltA ok_cmp op_ltA ok_cmp (de_int) (de_callB call_len ok_len (by rfl) T.b_len (by decide +kernel) (da_cons (de_var 4) (da_nil))) (de_ifExp (dt_cmp (op_eqA (by exact hr.units)) ok_eq (de_var 1) (de_int)) (de_int) (de_op op_addA ok_add (de_var 1) (de_int))))) (dw_or (dt_isN (de_calC rfl C_l_sum (by exact g) (by exact hr.mono (by decide)) tk (by rfl) (da_cons (de_ix ix_seq ok_ix (de_var 3) (de_int)) (da_nil)))) (dw_or1 (dt_isN (de_calC rfl C_l_sum (by exact g) (by exact hr.mono (by decide)) tk (by rfl) (da_cons (de_var 4) (da_nil)))))))) (dss_one (ds_ret (de_non))) (dss_nil)) (dss_cons (ds_set (i := 5) sc.nd (de_calC rfl C_l_sum (by exact g) (by exact hr.mono (by decide)) tk (by rfl) (da_cons (de_op op_addA ok_add (de_ix ix_seq ok_ix (de_var 3) (de_int)) (de_slice rfl (de_op op_addA ok_add (de_var 4) (de_str)) (do_none) (do_some (de_var 1)))) (da_nil)))) (dss_one (ds_ret (de_ifExp (dt_cmp (op_eqA (by exact hr.units)) ok_eq (de_ix ix_seq ok_ix (de_var 0) (de_int)) (de_str)) (de_op op_sub ok_sub (de_int) (de_var 5)) (de_var 5)))))))))
theorem sc_are_figures : FnScope N_are_figures ["text", "least", "most"] (defScope s_are_figures) := ⟨rfl, rfl, rfl, by decide +kernel, rfl, by decide +kernel, by decide +kernel⟩
theorem ok_are_figures {f : Addr} {fd : FuncData} (F : Fun K "are_figures" "are_figures" s_are_figures f fd) (T : Tx K mg) : FnG P w K mg base 1 f fd ["text", "least", "most"] (spD (GG K) 3 F_are_figures) := by
  have sc := sc_are_figures
  obtain ⟨t_FIGURES, c_FIGURES⟩ := T.c_FIGURES
  refine fn_okG (G := GG K) F sc fun cdv A outer s H E g hr tk po => ?_
  exact dss_one (ds_ret (de_and (de_chain op_leA ok_cmp op_leA ok_cmp (de_var 1) (de_callB call_len ok_len (by rfl) T.b_len (by decide +kernel) (da_cons (de_var 0) (da_nil))) (de_var 2)) (de_one (de_callB (cr_all rfl) ok_all (by rfl) T.b_all (by decide +kernel) (da_cons (de_lc [("sign", 3)] fin_list rfl sc.nd (di_seq rfl (de_var 0)) (blkOk_by (N := N_are_figures) (sc := defScope s_are_figures) (by decide +kernel)) (fun _ _ _ _ _ => dg_name (i := 3) sc.nd) (fun _ _ _ _ _ => dts_nil) (fun _ _ _ _ _ => de_cmp op_inA ok_in (de_var 3) (de_glob (v := V.str "0123456789") (by rfl) c_FIGURES (by exact ⟨_, rfl⟩) (fun _ => Rp.str _)))) (da_nil))))))
theorem sc_read_whole : FnScope N_read_whole ["text", "most"] (defScope s_read_whole) := ⟨rfl, rfl, rfl, by decide +kernel, rfl, by decide +kernel, by decide +kernel⟩
theorem ok_read_whole {f : Addr} {fd : FuncData} (F : Fun K "read_whole" "read_whole" s_read_whole f fd) (T : Tx K mg) (C_are_figures : Cal P w (GG K) mg base "are_figures" 1 ["text", "least", "most"] [] F_are_figures) : FnG P w K mg base 2 f fd ["text", "most"] (spD (GG K) 2 F_read_whole) := by
  have sc := sc_read_whole
  refine fn_okG (G := GG K) F sc fun cdv A outer s H E g hr tk po => ?_
  exact dss_cons (ds_set (i := 2) sc.nd (de_ifExp (dt_cmp op_inA ok_in (de_slice rfl (de_var 0) (do_none) (do_some (de_int))) (de_tup (da_cons (de_str) (da_cons (de_str) (da_nil))))) (de_slice rfl (de_var 0) (do_some (de_int)) (do_none)) (de_var 0))) (dss_cons (ds_if (dt_not (dt_val (de_calC rfl C_are_figures (by exact g) (by exact hr.mono (by decide)) tk (by rfl) (da_cons (de_var 2) (da_cons (de_int) (da_cons (de_var 1) (da_nil))))))) (dss_one (ds_ret (de_non))) (dss_nil)) (dss_one (ds_ret (de_ifExp (dt_cmp (op_eqA (by exact hr.units)) ok_eq (de_ix ix_seq ok_ix (de_var 0) (de_int)) (de_str)) (de_un un_neg ok_neg (de_callTy call_intA ok_int (by rfl) T.b_int (by decide +kernel) (da_cons (de_var 2) (da_nil)))) (de_callTy call_intA ok_int (by rfl) T.b_int (by decide +kernel) (da_cons (de_var 2) (da_nil)))))))
theorem sc_read_amount : FnScope N_read_amount ["text", "places"] (defScope s_read_amount) := ⟨rfl, rfl, rfl, by decide +kernel, rfl, by decide +kernel, by decide +kernel⟩
theorem ok_read_amount {f : Addr} {fd : FuncData} (F : Fun K "read_amount" "read_amount" s_read_amount f fd) (T : Tx K mg) (C_are_figures : Cal P w (GG K) mg base "are_figures" 1 ["text", "least", "most"] [] F_are_figures) (C_read_whole : Cal P w (GG K) mg base "read_whole" 2 ["text", "most"] [] F_read_whole) : FnG P w K mg base 3 f fd ["text", "places"] (spD (GG K) 2 F_read_amount) := by
  have sc := sc_read_amount
  obtain ⟨t_MOST_AMOUNT, c_MOST_AMOUNT⟩ := T.c_MOST_AMOUNT
  refine fn_okG (G := GG K) F sc fun cdv A outer s H E g hr tk po => ?_
  exact dss_cons (ds_asg (de_bm PySem.F.plainAttrs_str PySem.F.slot_str_partition PySem.F.type_str_partition mt_partition ok_partition ty_str rfl (de_var 0) (da_cons (de_str) (da_nil))) (dg_tup rfl rfl (dgs_cons (dg_name (i := 2) sc.nd) (dgs_cons (dg_name (i := 3) sc.nd) (dgs_cons (dg_name (i := 4) sc.nd) (dgs_nil)))))) (dss_cons (ds_if (dw_pt (dw_and (dt_cmp (op_neA (by exact hr.units)) ok_ne (de_var 3) (de_str)) (dw_and1 (dt_not (dt_val (de_calC rfl C_are_figures (by exact g) (by exact hr.mono (by decide)) tk (by rfl) (da_cons (de_var 4) (da_cons (de_int) (da_cons (de_var 1) (da_nil)))))))))) (dss_one (ds_ret (de_non))) (dss_nil)) (dss_cons (ds_if (dt_isN (de_calC rfl C_read_whole (by exact g) (by exact hr.mono (by decide)) tk (by rfl) (da_cons (de_var 2) (da_cons (de_glob (v := V.int 8) (by rfl) c_MOST_AMOUNT (by exact ⟨_, rfl⟩) (fun _ => Rp.int _)) (da_nil))))) (dss_one (ds_ret (de_non))) (dss_nil)) (dss_one (ds_ret (de_calC rfl C_read_whole (by exact g) (by exact hr.mono (by decide)) tk (by rfl) (da_cons (de_op op_addA ok_add (de_var 2) (de_bm PySem.F.plainAttrs_str PySem.F.slot_str_ljust PySem.F.type_str_ljust mt_ljustF ok_padF ty_str rfl (de_var 4) (da_cons (de_var 1) (da_cons (de_str) (da_nil))))) (da_cons (de_op op_addA ok_add (de_glob (v := V.int 8) (by rfl) c_MOST_AMOUNT (by exact ⟨_, rfl⟩) (fun _ => Rp.int _)) (de_var 1)) (da_nil))))))))
theorem sc_read_day : FnScope N_read_day ["text", "order"] (defScope s_read_day) := ⟨rfl, rfl, rfl, by decide +kernel, rfl, by decide +kernel, by decide +kernel⟩
theorem ok_read_day {f : Addr} {fd : FuncData} (F : Fun K "read_day" "read_day" s_read_day f fd) (T : Tx K mg) : FnG P w K mg base 1 f fd ["text", "order"] (spD (GG K) 2 F_read_day) := by
  have sc := sc_read_day
  refine fn_okG (G := GG K) F sc fun cdv A outer s H E g hr tk po => ?_
  exact dss_never
theorem sc_read_as : FnScope N_read_as ["form", "text"] (defScope s_read_as) := ⟨rfl, rfl, rfl, by decide +kernel, rfl, by decide +kernel, by decide +kernel⟩
theorem ok_read_as {f : Addr} {fd : FuncData} (F : Fun K "read_as" "read_as" s_read_as f fd) (T : Tx K mg) (C_read_whole : Cal P w (GG K) mg base "read_whole" 2 ["text", "most"] [] F_read_whole) (C_read_amount : Cal P w (GG K) mg base "read_amount" 3 ["text", "places"] [] F_read_amount) (C_read_day : Cal P w (GG K) mg base "read_day" 1 ["text", "order"] [] F_read_day) : FnG P w K mg base 4 f fd ["form", "text"] (spD (GG K) 2 F_read_as) := by
  have sc := sc_read_as
  obtain ⟨t_MOST_WHOLE, c_MOST_WHOLE⟩ := T.c_MOST_WHOLE
  refine fn_okG (G := GG K) F sc fun cdv A outer s H E g hr tk po => ?_
  exact dss_cons (ds_asg (de_var 0) (dg_star rfl rfl (dgs_cons (dg_name (i := 2) sc.nd) (dgs_star (dg_name (i := 3) sc.nd) (dgs_nil))))) (dss_cons (ds_if (dt_cmp (op_eqA (by exact hr.units)) ok_eq (de_var 2) (de_str)) (dss_one (ds_ret (de_calC rfl C_read_whole (by exact g) (by exact hr.mono (by decide)) tk (by rfl) (da_cons (de_var 1) (da_cons (de_glob (v := V.int 9) (by rfl) c_MOST_WHOLE (by exact ⟨_, rfl⟩) (fun _ => Rp.int _)) (da_nil)))))) (dss_nil)) (dss_one (ds_ret (de_ifExp (dt_cmp (op_eqA (by exact hr.units)) ok_eq (de_var 2) (de_str)) (de_calC rfl C_read_amount (by exact g) (by exact hr.mono (by decide)) tk (by rfl) (da_cons (de_var 1) (da_cons (de_ix ix_seq ok_ix (de_var 3) (de_int)) (da_nil)))) (de_calC rfl C_read_day (by exact g) (by exact hr.mono (by decide)) tk (by rfl) (da_cons (de_var 1) (da_cons (de_ix ix_seq ok_ix (de_var 3) (de_int)) (da_nil))))))))
theorem sc_l_shown : FnScope N_l_shown ["_law_found", "_law_many"] (defScope s_l_shown) := ⟨rfl, rfl, rfl, by decide +kernel, rfl, by decide +kernel, by decide +kernel⟩
theorem ok_l_shown {f : Addr} {fd : FuncData} (F : Fun K "_law_shown" "_law_shown" s_l_shown f fd) (T : Tx K mg) : FnG P w K mg base 1 f fd ["_law_found", "_law_many"] (spD (GG K) 2 F_l_shown) := by
  have sc := sc_l_shown
  refine fn_okG (G := GG K) F sc fun cdv A outer s H E g hr tk po => ?_
  exact dss_cons (ds_par (i := 2) (j := 3) rfl sc.nd (da_cons (de_callB call_abs ok_abs (by rfl) T.b_abs (by decide +kernel) (da_cons (de_var 0) (da_nil))) (da_cons (de_str) (da_nil)))) (dss_cons (ds_while 100 po (dw_pt (dw_or (dt_cmp op_gtA ok_cmp (de_var 2) (de_int)) (dw_or1 (dt_cmp op_ltA ok_cmp (de_callB call_len ok_len (by rfl) T.b_len (by decide +kernel) (da_cons (de_var 3) (da_nil))) (de_op op_addA ok_add (de_var 1) (de_int)))))) (dss_cons (ds_set (i := 3) sc.nd (de_op op_addA ok_add (de_ix ix_seq ok_ix (de_str) (de_op op_sub ok_sub (de_var 2) (de_op op_mulA ok_mulA (de_op op_fdivW ok_div (de_var 2) (de_int)) (de_int)))) (de_var 3))) (dss_one (ds_set (i := 2) sc.nd (de_op op_fdivW ok_div (de_var 2) (de_int)))))) (dss_cons (ds_set (i := 4) sc.nd (de_op op_addA ok_add (de_op op_mulA ok_mulA (de_str) (de_callTy call_intA ok_int (by rfl) T.b_int (by decide +kernel) (da_cons (de_cmp op_ltA ok_cmp (de_var 0) (de_int)) (da_nil)))) (de_slice rfl (de_var 3) (do_none) (do_some (de_op op_sub ok_sub (de_callB call_len ok_len (by rfl) T.b_len (by decide +kernel) (da_cons (de_var 3) (da_nil))) (de_var 1)))))) (dss_one (ds_ret (de_ifExp (dt_cmp op_gtA ok_cmp (de_var 1) (de_int)) (de_op op_addA ok_add (de_op op_addA ok_add (de_var 4) (de_str)) (de_slice rfl (de_var 3) (do_some (de_op op_sub ok_sub (de_callB call_len ok_len (by rfl) T.b_len (by decide +kernel) (da_cons (de_var 3) (da_nil))) (de_var 1))) (do_none))) (de_var 4))))))
theorem sc_written_amount : FnScope N_written_amount ["number", "places"] (defScope s_written_amount) := ⟨rfl, rfl, rfl, by decide +kernel, rfl, by decide +kernel, by decide +kernel⟩
theorem ok_written_amount {f : Addr} {fd : FuncData} (F : Fun K "written_amount" "written_amount" s_written_amount f fd) (T : Tx K mg) : FnG P w K mg base 1 f fd ["number", "places"] (spD (GG K) 2 F_written_amount) := by
  have sc := sc_written_amount
  refine fn_okG (G := GG K) F sc fun cdv A outer s H E g hr tk po => ?_
  exact dss_cons (ds_set (i := 2) sc.nd (de_bm PySem.F.plainAttrs_str PySem.F.slot_str_rjust PySem.F.type_str_rjust mt_rjustF ok_padF ty_str rfl (de_callTy call_strA ok_str (by rfl) T.b_str (by decide +kernel) (da_cons (de_callB call_abs ok_abs (by rfl) T.b_abs (by decide +kernel) (da_cons (de_var 0) (da_nil))) (da_nil))) (da_cons (de_op op_addA ok_add (de_var 1) (de_int)) (da_cons (de_str) (da_nil))))) (dss_cons (ds_set (i := 3) sc.nd (de_ifExp (dt_cmp op_ltA ok_cmp (de_var 0) (de_int)) (de_str) (de_str))) (dss_one (ds_ret (de_op op_addA ok_add (de_op op_addA ok_add (de_op op_addA ok_add (de_var 3) (de_slice rfl (de_var 2) (do_none) (do_some (de_un un_neg ok_neg (de_var 1))))) (de_str)) (de_slice rfl (de_var 2) (do_some (de_un un_neg ok_neg (de_var 1))) (do_none))))))
theorem sc_written_day : FnScope N_written_day ["number", "order"] (defScope s_written_day) := ⟨rfl, rfl, rfl, by decide +kernel, rfl, by decide +kernel, by decide +kernel⟩
theorem ok_written_day {f : Addr} {fd : FuncData} (F : Fun K "written_day" "written_day" s_written_day f fd) (T : Tx K mg) : FnG P w K mg base 1 f fd ["number", "order"] (spD (GG K) 2 F_written_day) := by
  have sc := sc_written_day
  refine fn_okG (G := GG K) F sc fun cdv A outer s H E g hr tk po => ?_
  exact dss_never
theorem sc_written : FnScope N_written ["form", "number"] (defScope s_written) := ⟨rfl, rfl, rfl, by decide +kernel, rfl, by decide +kernel, by decide +kernel⟩
theorem ok_written {f : Addr} {fd : FuncData} (F : Fun K "written" "written" s_written f fd) (T : Tx K mg) (C_written_amount : Cal P w (GG K) mg base "written_amount" 1 ["number", "places"] [] F_written_amount) (C_written_day : Cal P w (GG K) mg base "written_day" 1 ["number", "order"] [] F_written_day) : FnG P w K mg base 2 f fd ["form", "number"] (spD (GG K) 2 F_written) := by
  have sc := sc_written
  refine fn_okG (G := GG K) F sc fun cdv A outer s H E g hr tk po => ?_
  exact dss_cons (ds_asg (de_var 0) (dg_star rfl rfl (dgs_cons (dg_name (i := 2) sc.nd) (dgs_star (dg_name (i := 3) sc.nd) (dgs_nil))))) (dss_cons (ds_if (dt_cmp (op_eqA (by exact hr.units)) ok_eq (de_var 2) (de_str)) (dss_one (ds_ret (de_callTy call_strA ok_str (by rfl) T.b_str (by decide +kernel) (da_cons (de_var 1) (da_nil))))) (dss_nil)) (dss_one (ds_ret (de_ifExp (dt_cmp (op_eqA (by exact hr.units)) ok_eq (de_var 2) (de_str)) (de_calC rfl C_written_amount (by exact g) (by exact hr.mono (by decide)) tk (by rfl) (da_cons (de_var 1) (da_cons (de_ix ix_seq ok_ix (de_var 3) (de_int)) (da_nil)))) (de_calC rfl C_written_day (by exact g) (by exact hr.mono (by decide)) tk (by rfl) (da_cons (de_var 1) (da_cons (de_ix ix_seq ok_ix (de_var 3) (de_int)) (da_nil))))))))
theorem sc_law : FnScope N_law ["_law_script"] (defScope s_law) := ⟨rfl, rfl, rfl, by decide +kernel, rfl, by decide +kernel, by decide +kernel⟩
theorem ok_law {f : Addr} {fd : FuncData} (F : Fun K "law" "law" s_law f fd) (T : Tx K mg) (C_l_hand : Cal P w (GG K) mg base "_law_hand" 1 ["_law_script", "_law_k"] [] F_l_hand) (C_l_signs : Cal P w (GG K) mg base "_law_signs" 4 ["_law_hand_here"] [] F_l_signs) (C_l_due : Cal P w (GG K) mg base "_law_due" 2 ["_law_signs_here", "_law_many"] [] F_l_due) (C_read_as : Cal P w (GG K) mg base "read_as" 4 ["form", "text"] [(["text", "form"], [1, 0])] F_read_as) (C_l_shown : Cal P w (GG K) mg base "_law_shown" 1 ["_law_found", "_law_many"] [] F_l_shown) (C_written : Cal P w (GG K) mg base "written" 2 ["form", "number"] [(["number", "form"], [1, 0])] F_written) : FnG P w K mg base 5 f fd ["_law_script"] (spD (GG K) 1 F_law) := by
  have sc := sc_law
  refine fn_okG (G := GG K) F sc fun cdv A outer s H E g hr tk po => ?_
  exact dss_cons (ds_for po rfl (di_range1 (by rfl) T.b_range (da_cons (de_callB (call_max2 rfl) ok_max (by rfl) T.b_max (by decide +kernel) (da_cons (de_int) (da_cons (de_callB (call_min2 rfl) ok_min (by rfl) T.b_min (by decide +kernel) (da_cons (de_int) (da_cons (de_callB call_len ok_len (by rfl) T.b_len (by decide +kernel) (da_cons (de_var 0) (da_nil))) (da_nil)))) (da_nil)))) (da_nil))) (dg_name (i := 1) sc.nd) (dss_cons (ds_set (i := 2) sc.nd (de_calC rfl C_l_hand (by exact g) (by exact hr.mono (by decide)) tk (by rfl) (da_cons (de_var 0) (da_cons (de_var 1) (da_nil))))) (dss_one (ds_for po rfl (di_range1 (by rfl) T.b_range (da_cons (de_int) (da_nil))) (dg_name (i := 3) sc.nd) (dss_cons (ds_set (i := 4) sc.nd (de_calC rfl C_l_signs (by exact g) (by exact hr.mono (by decide)) tk (by rfl) (da_cons (de_var 2) (da_nil)))) (dss_one (ds_for po rfl (di_range1 (by rfl) T.b_range (da_cons (de_int) (da_nil))) (dg_name (i := 5) sc.nd) (dss_cons (ds_set (i := 6) sc.nd (de_ifExp (dt_cmp (op_eqA (by exact hr.units)) ok_eq (de_var 5) (de_int)) (de_tup (da_cons (de_str) (da_nil))) (de_tup (da_cons (de_str) (da_cons (de_var 5) (da_nil)))))) (dss_cons (ds_set (i := 7) sc.nd (de_calC rfl C_l_due (by exact g) (by exact hr.mono (by decide)) tk (by rfl) (da_cons (de_var 4) (da_cons (de_var 5) (da_nil))))) (dss_cons (ds_if (dt_cmp (op_neA (by exact hr.units)) ok_ne (de_callB (call_reprA (by exact g) (by exact hr.units)) ok_repr (by rfl) T.b_repr (by decide +kernel) (da_cons (de_lst (da_cons (de_calC rfl C_read_as (by exact g) (by exact hr.mono (by decide)) tk (by rfl) (da_cons (de_var 6) (da_cons (de_var 4) (da_nil)))) (da_cons (de_calK ["text", "form"] [1, 0] rfl C_read_as (by exact g) (by exact hr.mono (by decide)) tk (by rfl) (dk_cons (de_var 4) (dk_cons (de_var 6) (dk_nil))) (by simp)) (da_nil)))) (da_nil))) (de_callB (call_reprA (by exact g) (by exact hr.units)) ok_repr (by rfl) T.b_repr (by decide +kernel) (da_cons (de_lst (da_cons (de_var 7) (da_cons (de_var 7) (da_nil)))) (da_nil)))) (dss_one (ds_ret (de_bl))) (dss_nil)) (dss_one (ds_if (dt_notN (de_var 7)) (dss_cons (ds_set (i := 8) sc.nd (de_calC rfl C_l_shown (by exact g) (by exact hr.mono (by decide)) tk (by rfl) (da_cons (de_var 7) (da_cons (de_var 5) (da_nil))))) (dss_cons (ds_if (dt_cmp (op_neA (by exact hr.units)) ok_ne (de_lst (da_cons (de_calC rfl C_written (by exact g) (by exact hr.mono (by decide)) tk (by rfl) (da_cons (de_var 6) (da_cons (de_var 7) (da_nil)))) (da_cons (de_calK ["number", "form"] [1, 0] rfl C_written (by exact g) (by exact hr.mono (by decide)) tk (by rfl) (dk_cons (de_var 7) (dk_cons (de_var 6) (dk_nil))) (by simp)) (da_nil)))) (de_lst (da_cons (de_var 8) (da_cons (de_var 8) (da_nil))))) (dss_one (ds_ret (de_bl))) (dss_nil)) (dss_one (ds_if (dt_cmp (op_neA (by exact hr.units)) ok_ne (de_callB (call_reprA (by exact g) (by exact hr.units)) ok_repr (by rfl) T.b_repr (by decide +kernel) (da_cons (de_calC rfl C_read_as (by exact g) (by exact hr.mono (by decide)) tk (by rfl) (da_cons (de_var 6) (da_cons (de_var 8) (da_nil)))) (da_nil))) (de_callB (call_reprA (by exact g) (by exact hr.units)) ok_repr (by rfl) T.b_repr (by decide +kernel) (da_cons (de_var 7) (da_nil)))) (dss_one (ds_ret (de_bl))) (dss_nil))))) (dss_nil))))))))))))) (dss_one (ds_ret (de_bl)))
end
end LW

namespace LW
open PySem PySem.Spec PyProof.Rows L2 DL
theorem natAbs_ediv_le (a n : Int) (h0 : 0 ≤ a) (hn : 0 < n) : (a / n).natAbs ≤ a.natAbs := by
  have h1 : 0 ≤ a / n := Int.ediv_nonneg h0 (by omega)
  have h2 : a / n ≤ a := Int.ediv_le_self _ h0
  omega
theorem F_take {h m : Nat} {μ : Store} (H : Hnd h m μ) (hm : m ≤ 10 ^ 9) {n : Int} (h0 : 0 < n) (h1 : n < 2 ^ 60) : ∃ r μ', F_l_take [.c h, .d (.int n)] μ = .ok (.d (.int r)) μ' ∧ 0 ≤ r ∧ r < n ∧ Hnd h (m + 1) μ' ∧ Oth h μ μ' := by
  obtain ⟨a, b, c, e, a0, a1, b0, b1, c0, c1⟩ := H
  have hh := lt_of_get e
  have i0 : L2.atI [Dv.d (.int a), Dv.d (.int b), Dv.d (.int c)] 0 = some (.d (.int a)) := rfl
  have i2 : L2.atI [Dv.d (.int a), Dv.d (.int b), Dv.d (.int c)] 2 = some (.d (.int c)) := rfl
  have cm : ∀ x : Int, cMod x n = true := fun x => decide_eq_true h0
  have lm : ∀ x k : Int, 0 < k → cMod x k = true := fun x k hk => decide_eq_true hk
  unfold F_l_take B_l_take
  rw [runB_eq]
  by_cases ha : 0 < a
  · have cd : cDiv a n = true := by
      unfold cDiv
      rw [decide_eq_true h0, Bool.true_and]
      exact decide_eq_true (by have := log2_lt (i := n) (n := 60) (by omega) (by decide); omega)
    refine ⟨a % n, μ.set h (.lst [.d (.int (a / n)), .d (.int b), .d (.int c)]), ?_, Int.emod_nonneg _ (by omega), Int.emod_lt_of_pos _ h0, ⟨a / n, b, c, by rw [List.getElem?_set_self hh], Int.ediv_nonneg a0 (by omega), Nat.lt_of_le_of_lt (natAbs_ediv_le a n a0 h0) a1, b0, b1, c0, by omega⟩, Oth.set _ _ _⟩
    simp -implicitDefEqProofs (disch := first | assumption | rfl | exact cMod_of (by decide) | omega | (simp only [List.length_take, List.length_drop, List.length_append, List.length_cons, List.length_nil, List.length_map, List.length_range, List.length_replicate]; omega) | solve_by_elim) [r1_l_take, r2_l_take, r3_l_take, r4_l_take, r5_l_take, r6_l_take, r7_l_take, r8_l_take, r9_l_take, dIx_c e i0, ha, cm, cd, dSetIx_c e (show L2.ixN _ 0 = some 0 from rfl)]
  · have e' : (μ.set h (.lst [.d (.int a), .d (.int b), .d (.int (c + 1))]))[h]? = some (.lst [.d (.int a), .d (.int b), .d (.int (c + 1))]) := by rw [List.getElem?_set_self hh]
    have i1' : L2.atI [Dv.d (.int a), Dv.d (.int b), Dv.d (.int (c + 1))] 1 = some (.d (.int b)) := rfl
    have cT : c + 1 < 2 ^ 40 := by omega
    have m1 : cMul 104729 (c + 1) = true := cMul_ok (a := 20) (b := 41) (by decide) (by omega) (by decide) (by decide) (by decide)
    have m2 : cMul 15485863 (c + 1) = true := cMul_ok (a := 40) (b := 41) (by decide) (by omega) (by decide) (by decide) (by decide)
    have m4 : cMul 6700417 (c + 1) = true := cMul_ok (a := 40) (b := 41) (by decide) (by omega) (by decide) (by decide) (by decide)
    have b2 : 0 ≤ b % 7919 ∧ b % 7919 < 7919 := ⟨Int.emod_nonneg _ (by decide), Int.emod_lt_of_pos _ (by decide)⟩
    have m3 : cMul (b + 104729 * (c + 1)) (b % 7919 + 15485863 * (c + 1) + 17) = true := cMul_ok (a := 100) (b := 100) (by omega) (by omega) (by decide) (by decide) (by decide)
    generalize hx : (b + 104729 * (c + 1)) * (b % 7919 + 15485863 * (c + 1) + 17) % 2305843009213693951 = x
    have x0 : 0 ≤ x ∧ x < 2305843009213693951 := by rw [← hx]; exact ⟨Int.emod_nonneg _ (by decide), Int.emod_lt_of_pos _ (by decide)⟩
    have x1 : 0 ≤ x % 1000003 ∧ x % 1000003 < 1000003 := ⟨Int.emod_nonneg _ (by decide), Int.emod_lt_of_pos _ (by decide)⟩
    have m5 : cMul (x + 13) (x % 1000003 + 6700417 * (c + 1) + 5) = true := cMul_ok (a := 100) (b := 100) (by omega) (by omega) (by decide) (by decide) (by decide)
    have cd : ∀ y : Int, cDiv y 64 = true := fun y => by unfold cDiv; decide
    refine ⟨(x + 13) * (x % 1000003 + 6700417 * (c + 1) + 5) % 2305843009213693907 / 64 % n, μ.set h (.lst [.d (.int a), .d (.int b), .d (.int (c + 1))]), ?_, Int.emod_nonneg _ (by omega), Int.emod_lt_of_pos _ h0, ⟨a, b, c + 1, e', a0, a1, b0, b1, by omega, by omega⟩, Oth.set _ _ _⟩
    simp -implicitDefEqProofs (disch := first | assumption | rfl | exact cMod_of (by decide) | omega | (simp only [List.length_take, List.length_drop, List.length_append, List.length_cons, List.length_nil, List.length_map, List.length_range, List.length_replicate]; omega) | solve_by_elim) [r1_l_take, r2_l_take, r3_l_take, r4_l_take, r5_l_take, r6_l_take, r7_l_take, r8_l_take, r9_l_take, dIx_c e i0, dIx_c e i2, ha, cm, lm, dSetIx_c e (show L2.ixN _ 2 = some 2 from rfl), dIx_c e' i1', m1, m2, m3, hx, m4, m5, cd]

/-- an item picked -/
theorem F_pick_s {h m : Nat} {μ : Store} (H : Hnd h m μ) (hm : m ≤ 10 ^ 9) {l : List Nat} (h0 : 0 < l.length) (h1 : l.length < 10 ^ 6) : ∃ c μ', F_l_pick [.c h, .d (.str (T l))] μ = .ok (.d (.str (T [c]))) μ' ∧ c ∈ l ∧ Hnd h (m + 1) μ' ∧ Oth h μ μ' := by
  obtain ⟨r, μ', e, r0, r1, H', O⟩ := F_take H hm (n := (l.length : Int)) (by omega) (by omega)
  have hl : l.length ≤ 16000000 := by omega
  obtain ⟨i, rfl⟩ := Int.eq_ofNat_of_zero_le r0
  have hi : i < l.length := by omega
  refine ⟨l[i], μ', ?_, by simp, H', O⟩
  unfold F_l_pick B_l_pick
  rw [runB_eq]
  simp -implicitDefEqProofs (disch := first | assumption | rfl | exact cMod_of (by decide) | omega | (simp only [List.length_take, List.length_drop, List.length_append, List.length_cons, List.length_nil, List.length_map, List.length_range, List.length_replicate]; omega) | solve_by_elim) [e, dIx_s hl (atI_nn (show l[i]? = some l[i] by simp [hi]))]
theorem F_pick_l {h m : Nat} {μ : Store} (H : Hnd h m μ) (hm : m ≤ 10 ^ 9) {ds : List D} (h0 : 0 < ds.length) (h1 : ds.length < 10 ^ 6) : ∃ c μ', F_l_pick [.c h, .d (.list ds)] μ = .ok (.d c) μ' ∧ c ∈ ds ∧ Hnd h (m + 1) μ' ∧ Oth h μ μ' := by
  obtain ⟨r, μ', e, r0, r1, H', O⟩ := F_take H hm (n := (ds.length : Int)) (by omega) (by omega)
  obtain ⟨i, rfl⟩ := Int.eq_ofNat_of_zero_le r0
  have hi : i < ds.length := by omega
  refine ⟨ds[i], μ', ?_, by simp, H', O⟩
  unfold F_l_pick B_l_pick
  rw [runB_eq]
  simp -implicitDefEqProofs (disch := first | assumption | rfl | exact cMod_of (by decide) | omega | (simp only [List.length_take, List.length_drop, List.length_append, List.length_cons, List.length_nil, List.length_map, List.length_range, List.length_replicate]; omega) | solve_by_elim) [e, dIx_l (atI_nn (show ds[i]? = some ds[i] by simp [hi]))]
theorem lc_figures {h : Nat} {σ2 : Option Dv} {k : Dv} : ∀ (bs : List Dv) {m : Nat} {μ : Store}, Hnd h m μ → m + bs.length ≤ 1000000000 →
    ∃ (l : List Nat) (μ' : Store), lcM (gN 3) tYesM c1_l_figures [some (.c h), some k, σ2, none] bs μ = .ok (l.map fun c => .d (.str (T [c]))) μ' ∧ l.length = bs.length ∧ l.all isDig = true ∧ Hnd h (m + bs.length) μ' ∧ Oth h μ μ'
  | [], m, μ, H, _ => ⟨[], μ, rfl, rfl, rfl, H, Oth.refl _ _⟩
  | b :: bs, m, μ, H, hm => by
    rw [List.length_cons] at hm
    obtain ⟨c, μ1, e1, hc, H1, O1⟩ := F_pick_s H (by omega) (l := [48, 57, 48, 48, 49, 50, 51, 52, 53, 54, 55, 56, 57]) (by decide) (by decide)
    obtain ⟨l, μ2, e2, h1, h2, H2, O2⟩ := lc_figures (σ2 := σ2) (k := k) bs H1 (by omega)
    have e0 : c1_l_figures [some (.c h), some k, σ2, some b] μ = .ok (.d (.str (T [c]))) μ1 := by
      unfold c1_l_figures
      simp -implicitDefEqProofs (disch := first | assumption | rfl | exact cMod_of (by decide) | omega | (simp only [List.length_take, List.length_drop, List.length_append, List.length_cons, List.length_nil, List.length_map, List.length_range, List.length_replicate]; omega) | solve_by_elim) [e1]
    refine ⟨c :: l, μ2, ?_, by simp [h1], ?_, by rw [List.length_cons]; exact H2.mono (by omega), O1.trans O2⟩
    · unfold lcM
      simp -implicitDefEqProofs (disch := first | assumption | rfl | exact cMod_of (by decide) | omega | (simp only [List.length_take, List.length_drop, List.length_append, List.length_cons, List.length_nil, List.length_map, List.length_range, List.length_replicate]; omega) | solve_by_elim) [tYesM, e0, e2]
    · have : isDig c = true := by
        simp at hc
        unfold isDig
        simp
        omega
      simp [this]
      simpa using h2
end LW

namespace LW
open PySem PySem.Spec PyProof.Rows L2 DL
theorem F_figures {h m : Nat} {μ : Store} (H : Hnd h m μ) (hm : m ≤ 100000000) {k : Int} (h0 : 0 ≤ k) (h1 : k < 100) : ∃ (l : List Nat) (μ' : Store), F_l_figures [.c h, .d (.int k)] μ = .ok (.d (.str (T l))) μ' ∧ l.all isDig = true ∧ (l.length : Int) ≤ k ∧ Hnd h (m + 200) μ' ∧ Oth h μ μ' := by
  obtain ⟨r, μ1, e1, r0, r1, H1, O1⟩ := F_take H (by omega) (n := k + 1) (by omega) (by omega)
  obtain ⟨n, rfl⟩ := Int.eq_ofNat_of_zero_le r0
  obtain ⟨l, μ2, e2, g1, g2, H2, O2⟩ := lc_figures (h := h) (σ2 := some (.d (.int (n : Int)))) (k := .d (.int k)) ((List.range n).map fun (i : Nat) => Dv.d (.int i)) H1 (by rw [List.length_map, List.length_range]; omega)
  rw [List.length_map, List.length_range] at g1 H2
  have hl := line_big
  refine ⟨l, μ2, ?_, g2, by omega, H2.mono (by omega), O1.trans O2⟩
  have okr : okR (n : Int) = true := by unfold okR; simp; omega
  have e2' : lcM (gN 3) tYesM c1_l_figures (wipeD [some (Dv.c h), some (Dv.d (PyData.int k)), some (Dv.d (PyData.int (n : Int))), none] [3]) ((List.range n).map fun (i : Nat) => Dv.d (.int i)) μ1 = .ok ((l.map fun c => PyData.str (T [c])).map Dv.d) μ2 := by
    rw [List.map_map]
    exact e2
  have e3 := lcF_list (bs := (List.range n).map fun (i : Nat) => Dv.d (.int i)) e2' (by rw [List.length_map, List.length_range]; omega) (by rw [List.length_map]; omega)
  unfold F_l_figures B_l_figures
  rw [runB_eq]
  have hj := dJoin_one (l := l) (μ := μ2) (by omega)
  simp -implicitDefEqProofs (disch := first | assumption | rfl | exact cMod_of (by decide) | omega | (simp only [List.length_take, List.length_drop, List.length_append, List.length_cons, List.length_nil, List.length_map, List.length_range, List.length_replicate]; omega) | solve_by_elim) [r1_l_figures, e1, rng1, okr, e3, hj]

theorem F_pick_t {h m : Nat} {μ : Store} (H : Hnd h m μ) (hm : m ≤ 10 ^ 9) (ls : List (List Nat)) (h0 : 0 < ls.length) (h1 : ls.length < 10 ^ 6) : ∃ (l : List Nat) (μ' : Store), F_l_pick [.c h, .d (.list (ls.map fun l => .str (T l)))] μ = .ok (.d (.str (T l))) μ' ∧ l ∈ ls ∧ Hnd h (m + 1) μ' ∧ Oth h μ μ' := by
  obtain ⟨c, μ', e, hc, H', O⟩ := F_pick_l H hm (ds := ls.map fun l => .str (T l)) (by simpa using h0) (by simpa using h1)
  obtain ⟨l, hl, rfl⟩ := List.mem_map.mp hc
  exact ⟨l, μ', e, hl, H', O⟩
def ascii (l : List Nat) : Prop := ∀ c ∈ l, c < 128
theorem ascii.app {l m : List Nat} (h : ascii l) (k : ascii m) : ascii (l ++ m) := fun c hc => (List.mem_append.mp hc).elim (h c) (k c)
theorem ascii.take {l : List Nat} (h : ascii l) (n : Nat) : ascii (l.take n) := fun c hc => h c (List.mem_of_mem_take hc)
theorem ascii.drop {l : List Nat} (h : ascii l) (n : Nat) : ascii (l.drop n) := fun c hc => h c (List.mem_of_mem_drop hc)
theorem ascii_dig {l : List Nat} (h : l.all isDig = true) : ascii l := fun c hc => by
  have := List.all_eq_true.mp h c hc
  unfold isDig at this
  simp at this
  omega
theorem signs_tail {h m : Nat} {μ : Store} (H : Hnd h m μ) (hm : m ≤ 10000000) {f : List Nat} (h1 : f.length ≤ 30) (h2 : ascii f) (s1 s2 s3 : Option Dv) : ∃ (l : List Nat) (μ' : Store), r4_l_signs [some (.c h), s1, s2, s3, some (.d (.str (T f))), none, none, none] μ = .ok (.rt (.d (.str (T l)))) μ' ∧ l.length ≤ 40 ∧ ascii l ∧ Hnd h (m + 10) μ' ∧ Oth h μ μ' := by
  obtain ⟨w, μ1, e1, w0, w1, H1, O1⟩ := F_take H (by omega) (n := 7) (by decide) (by decide)
  obtain ⟨a, μ2, e2, a0, a1, H2, O2⟩ := F_take H1 (by omega) (n := (f.length : Int) + 1) (by omega) (by omega)
  obtain ⟨c, μ3, e3, hc, H3, O3⟩ := F_pick_s H2 (by omega) (l := [32, 46, 45, 43, 48, 120, 57, 126]) (by decide) (by decide)
  have hc : ascii [c] := fun x hx => by
    have : ∀ y ∈ [32, 46, 45, 43, 48, 120, 57, 126], y < 128 := by decide
    simp at hx
    subst hx
    exact this _ hc
  have H3 := H3.mono (n := m + 10) (by omega)
  have O := (O1.trans O2).trans O3
  by_cases w2 : w = 0
  · subst w2
    refine ⟨f.take a.toNat ++ [c] ++ f.drop a.toNat, μ3, ?_, by simp; omega, (((h2.take _).app hc).app (h2.drop _)), H3, O⟩
    unfold r4_l_signs r3_l_signs r2_l_signs
    simp -implicitDefEqProofs (disch := first | assumption | rfl | exact cMod_of (by decide) | omega | (simp only [List.length_take, List.length_drop, List.length_append, List.length_cons, List.length_nil, List.length_map, List.length_range, List.length_replicate]; omega) | solve_by_elim) [e1, e2, e3, cut_to f a0, cut_from f a0]
  · by_cases w3 : w = 1
    · subst w3
      refine ⟨f.take a.toNat ++ f.drop (a + 1).toNat, μ3, ?_, by simp; omega, (h2.take _).app (h2.drop _), H3, O⟩
      unfold r4_l_signs r3_l_signs r2_l_signs r1_l_signs
      simp -implicitDefEqProofs (disch := first | assumption | rfl | exact cMod_of (by decide) | omega | (simp only [List.length_take, List.length_drop, List.length_append, List.length_cons, List.length_nil, List.length_map, List.length_range, List.length_replicate]; omega) | solve_by_elim) [e1, e2, e3, cut_to f a0, cut_from f (show 0 ≤ a + 1 by omega)]
    · refine ⟨f, μ3, ?_, by omega, h2, H3, O⟩
      unfold r4_l_signs r3_l_signs r2_l_signs r1_l_signs
      simp -implicitDefEqProofs (disch := first | assumption | rfl | exact cMod_of (by decide) | omega | (simp only [List.length_take, List.length_drop, List.length_append, List.length_cons, List.length_nil, List.length_map, List.length_range, List.length_replicate]; omega) | solve_by_elim) [e1, e2, e3, w2, w3]
end LW

namespace LW
open PySem PySem.Spec PyProof.Rows L2 DL
theorem F_are_figures_eq {μ : Store} {l : List Nat} {a b : Int} (hl : l.length ≤ 1000) : F_are_figures [.d (.str (T l)), .d (.int a), .d (.int b)] μ = .ok (.d (.bool (decide (a ≤ l.length) && decide ((l.length : Int) ≤ b) && l.all isDig))) μ := by
  have e : lcF dList (gN 3) tYesM c1_are_figures [3] [some (.d (.str (T l))), some (.d (.int a)), some (.d (.int b)), none] (l.map fun c => .d (.str (T [c]))) μ = .ok (.d (.list (l.map fun c => .bool (isDig c)))) μ := by
    refine lcF_signs (by omega) fun c hc => ?_
    unfold c1_are_figures
    simp -implicitDefEqProofs (disch := first | assumption | rfl | exact cMod_of (by decide) | omega | (simp only [List.length_take, List.length_drop, List.length_append, List.length_cons, List.length_nil, List.length_map, List.length_range, List.length_replicate]; omega) | solve_by_elim) [wipeD, dig_mem, -List.mem_cons]
  have e2 : (l.map fun c => PyData.bool (isDig c)) = (l.map isDig).map PyData.bool := by rw [List.map_map]; rfl
  rw [e2] at e
  have e3 : (l.map isDig).all id = l.all isDig := by rw [List.all_map]; rfl
  unfold F_are_figures B_are_figures
  rw [runB_eq]
  by_cases h1 : a ≤ l.length
  · by_cases h2 : (l.length : Int) ≤ b
    · simp -implicitDefEqProofs (disch := first | assumption | rfl | exact cMod_of (by decide) | omega | (simp only [List.length_take, List.length_drop, List.length_append, List.length_cons, List.length_nil, List.length_map, List.length_range, List.length_replicate]; omega) | solve_by_elim) [h1, h2, e, e3, -List.map_map]
    · simp -implicitDefEqProofs (disch := first | assumption | rfl | exact cMod_of (by decide) | omega | (simp only [List.length_take, List.length_drop, List.length_append, List.length_cons, List.length_nil, List.length_map, List.length_range, List.length_replicate]; omega) | solve_by_elim) [h1, h2, e, e3, -List.map_map]
  · simp -implicitDefEqProofs (disch := first | assumption | rfl | exact cMod_of (by decide) | omega | (simp only [List.length_take, List.length_drop, List.length_append, List.length_cons, List.length_nil, List.length_map, List.length_range, List.length_replicate]; omega) | solve_by_elim) [h1, e, e3, -List.map_map]
def bod : List Nat → List Nat
  | [] => []
  | c :: r => if c = 43 ∨ c = 45 then r else c :: r
def ngv : List Nat → Bool
  | [] => false
  | c :: _ => decide (c = 45)
def sgn (k : Bool) (n : Nat) : Int := if k = true then -(n : Int) else n
def oI : Option Int → D
  | some i => .int i
  | none => .none
theorem oI_s (i : Int) : oI (some i) = .int i := rfl
theorem oI_n : oI none = .none := rfl
def okB (l : List Nat) (b : Nat) : Bool := decide (1 ≤ l.length) && decide (l.length ≤ b) && l.all isDig
def rw_ (l : List Nat) (b : Nat) : Option Int := if okB (bod l) b = true then some (sgn (ngv l) (dval (bod l))) else none
theorem F_read_whole_eq {μ : Store} {l : List Nat} {b : Nat} (hl : l.length ≤ 500) : F_read_whole [.d (.str (T l)), .d (.int b)] μ = .ok (.d (oI (rw_ l b))) μ := by
  unfold F_read_whole B_read_whole
  rw [runB_eq]
  have hb : (bod l).length ≤ 500 := by
    cases l with
    | nil => simp [bod]
    | cons c r =>
      rw [List.length_cons] at hl
      rw [bod]
      split
      · omega
      · rw [List.length_cons]; omega
  have z1 := F_are_figures_eq (μ := μ) (l := bod l) (a := 1) (b := b) (by omega)
  have z2 : (decide ((1 : Int) ≤ (bod l).length) && decide (((bod l).length : Int) ≤ b) && (bod l).all isDig) = okB (bod l) b := by
    unfold okB
    congr 2
    · rw [Bool.eq_iff_iff]; simp; omega
    · rw [Bool.eq_iff_iff]; simp
  rw [z2] at z1
  have e0 : (eIf (tV (e2 (dIn false) (eSl (eVar 0) (oNone) (oSome (eC (.d (.int 1))))) (eN dTup (aCons (eC (.d (.str "+"))) (aCons (eC (.d (.str "-"))) (aNil)))))) (eSl (eVar 0) (oSome (eC (.d (.int 1)))) (oNone)) (eVar 0)) [some (.d (.str (T l))), some (.d (.int b)), none] μ = .ok (.d (.str (T (bod l)))) μ := by
    have q1 := cut_to l (k := 1) (by decide)
    have q2 := cut_from l (k := 1) (by decide)
    cases l with
    | nil => simp -implicitDefEqProofs (disch := first | assumption | rfl | exact cMod_of (by decide) | omega | (simp only [List.length_take, List.length_drop, List.length_append, List.length_cons, List.length_nil, List.length_map, List.length_range, List.length_replicate]; omega) | solve_by_elim) [q1, q2, bod]
    | cons c r =>
      by_cases h1 : c = 43
      · subst h1; simp -implicitDefEqProofs (disch := first | assumption | rfl | exact cMod_of (by decide) | omega | (simp only [List.length_take, List.length_drop, List.length_append, List.length_cons, List.length_nil, List.length_map, List.length_range, List.length_replicate]; omega) | solve_by_elim) [q1, q2, bod]
      · by_cases h2 : c = 45
        · subst h2; simp -implicitDefEqProofs (disch := first | assumption | rfl | exact cMod_of (by decide) | omega | (simp only [List.length_take, List.length_drop, List.length_append, List.length_cons, List.length_nil, List.length_map, List.length_range, List.length_replicate]; omega) | solve_by_elim) [q1, q2, bod]
        · simp -implicitDefEqProofs (disch := first | assumption | rfl | exact cMod_of (by decide) | omega | (simp only [List.length_take, List.length_drop, List.length_append, List.length_cons, List.length_nil, List.length_map, List.length_range, List.length_replicate]; omega) | solve_by_elim) [q1, q2, bod, h1, h2, Ne.symm h1, Ne.symm h2]
  unfold rw_
  rw [sSeq_r, sSet_r]
  have e0' := e0
  simp only [List.map_cons, List.map_nil, List.length_cons, List.length_nil, List.replicate, List.cons_append, List.nil_append] at e0' ⊢
  rw [e0']
  cases hk : okB (bod l) b with
  | false =>
    rw [hk] at z1
    simp -implicitDefEqProofs (disch := first | assumption | rfl | exact cMod_of (by decide) | omega | (simp only [List.length_take, List.length_drop, List.length_append, List.length_cons, List.length_nil, List.length_map, List.length_range, List.length_replicate]; omega) | solve_by_elim) [r2_read_whole, r1_read_whole, z1, oI]
  | true =>
    rw [hk] at z1
    have hd : (bod l).all isDig = true := by unfold okB at hk; simp at hk ⊢; exact hk.2
    have hn : bod l ≠ [] := by
      intro h
      rw [h] at hk
      exact absurd hk (by unfold okB; simp)
    have e3 := dInt_s (μ := μ) hd hn (by omega)
    cases l with
    | nil => exact absurd rfl hn
    | cons c r =>
      have e4 := dIx_s (μ := μ) (l := c :: r) (k := 0) (c := c) (by omega) (atI_nn (k := 0) rfl)
      by_cases h2 : c = 45
      · subst h2
        simp -implicitDefEqProofs (disch := first | assumption | rfl | exact cMod_of (by decide) | omega | (simp only [List.length_take, List.length_drop, List.length_append, List.length_cons, List.length_nil, List.length_map, List.length_range, List.length_replicate]; omega) | solve_by_elim) [r2_read_whole, r1_read_whole, z1, e3, e4, oI, sgn, ngv]
      · simp -implicitDefEqProofs (disch := first | assumption | rfl | exact cMod_of (by decide) | omega | (simp only [List.length_take, List.length_drop, List.length_append, List.length_cons, List.length_nil, List.length_map, List.length_range, List.length_replicate]; omega) | solve_by_elim) [r2_read_whole, r1_read_whole, z1, e3, e4, oI, sgn, ngv, h2]

/-! ### amounts -/
theorem dig_app {l m : List Nat} : (l ++ m).all isDig = (l.all isDig && m.all isDig) := List.all_append
theorem dig_zs (n : Nat) : (zs n).all isDig = true := by
  rw [List.all_eq_true]
  intro c hc
  rw [(List.mem_replicate.mp hc).2]
  rfl
theorem bod_app {l m : List Nat} (h : bod l ≠ []) : bod (l ++ m) = bod l ++ m := by
  cases l with
  | nil => exact absurd rfl h
  | cons c r =>
    rw [List.cons_append, bod, bod]
    split <;> rfl
theorem ngv_app {l m : List Nat} (h : l ≠ []) : ngv (l ++ m) = ngv l := by
  cases l with
  | nil => exact absurd rfl h
  | cons c r => rfl
/-- what an amount reads as -/
def ra2 (a b : List Nat) (k : Nat) : Option Int := match rw_ a 8 with
  | none => none
  | some _ => rw_ (a ++ (b ++ zs (k - b.length))) (8 + k)
def ra (l : List Nat) (k : Nat) : Option Int := if 46 ∈ l ∧ okB ((l.dropWhile (· != 46)).drop 1) k = false then none else ra2 (l.takeWhile (· != 46)) ((l.dropWhile (· != 46)).drop 1) k
theorem takeWhile_len {l : List Nat} {p : Nat → Bool} : (l.takeWhile p).length + ((l.dropWhile p).drop 1).length ≤ l.length := by
  have : (l.takeWhile p ++ l.dropWhile p).length = l.length := by rw [List.takeWhile_append_dropWhile]
  rw [List.length_append] at this
  rw [List.length_drop]
  omega
theorem F_read_amount_eq {μ : Store} {l : List Nat} {k : Nat} (hl : l.length ≤ 100) (hk : k ≤ 100) : F_read_amount [.d (.str (T l)), .d (.int k)] μ = .ok (.d (oI (ra l k))) μ := by
  unfold F_read_amount B_read_amount ra
  rw [runB_eq]
  have hp := dPart_one (μ := μ) (l := l) (s := 46) (by omega)
  have hq := takeWhile_len (l := l) (p := (· != 46))
  generalize l.takeWhile (· != 46) = a at *
  generalize (l.dropWhile (· != 46)).drop 1 = b at *
  have z1 := F_are_figures_eq (μ := μ) (l := b) (a := 1) (b := k) (by omega)
  have z2 : (decide ((1 : Int) ≤ b.length) && decide ((b.length : Int) ≤ k) && b.all isDig) = okB b k := by
    unfold okB
    congr 2
    · rw [Bool.eq_iff_iff]; simp; omega
    · rw [Bool.eq_iff_iff]; simp
  rw [z2] at z1
  have z3 := F_read_whole_eq (μ := μ) (l := a) (b := 8) (by omega)
  have hz : (zs (k - b.length)).length ≤ 100 - b.length := by unfold zs; rw [List.length_replicate]; omega
  have z4 := F_read_whole_eq (μ := μ) (l := a ++ (b ++ zs (k - b.length))) (b := 8 + k) (by simp only [List.length_append]; omega)
  have z5 : dPadF Txt.ljustF (.d (.str (T b))) [.d (.int k), .d (.str (T [48]))] μ = .ok (.d (.str (T (b ++ zs (k - b.length))))) μ := dLjust (by omega)
  have z6 : ((8 + k : Nat) : Int) = 8 + (k : Int) := by omega
  rw [z6] at z4
  have z7 : l.length ≤ 16000000 := by omega
  have R : ∀ u, r2_read_amount [some (.d (.str (T l))), some (.d (.int k)), some (.d (.str (T a))), u, some (.d (.str (T b)))] μ = .ok (.rt (.d (oI (ra2 a b k)))) μ := fun u => by
    unfold r2_read_amount ra2
    cases h : rw_ a 8 with
    | none =>
      rw [h] at z3
      have z3 : F_read_whole [.d (.str (T a)), .d (.int 8)] μ = _ := z3
      simp -implicitDefEqProofs (disch := first | assumption | rfl | exact cMod_of (by decide) | omega | (simp only [List.length_take, List.length_drop, List.length_append, List.length_cons, List.length_nil, List.length_map, List.length_range, List.length_replicate]; omega) | solve_by_elim) [z3, oI, isNone]
    | some i =>
      rw [h] at z3
      have z3 : F_read_whole [.d (.str (T a)), .d (.int 8)] μ = _ := z3
      simp -implicitDefEqProofs (disch := first | assumption | rfl | exact cMod_of (by decide) | omega | (simp only [List.length_take, List.length_drop, List.length_append, List.length_cons, List.length_nil, List.length_map, List.length_range, List.length_replicate]; omega) | solve_by_elim) [r1_read_amount, z3, z4, z5, oI_s, isNone]
  by_cases h46 : 46 ∈ l
  · rw [if_pos h46] at hp
    cases ho : okB b k with
    | false =>
      rw [ho] at z1
      simp -implicitDefEqProofs (disch := first | assumption | rfl | exact cMod_of (by decide) | omega | (simp only [List.length_take, List.length_drop, List.length_append, List.length_cons, List.length_nil, List.length_map, List.length_range, List.length_replicate]; omega) | solve_by_elim) [r3_read_amount, hp, z1, h46, oI, ho]
    | true =>
      rw [ho] at z1
      simp -implicitDefEqProofs (disch := first | assumption | rfl | exact cMod_of (by decide) | omega | (simp only [List.length_take, List.length_drop, List.length_append, List.length_cons, List.length_nil, List.length_map, List.length_range, List.length_replicate]; omega) | solve_by_elim) [r3_read_amount, hp, z1, h46, R, ho]
  · rw [if_neg h46] at hp
    simp -implicitDefEqProofs (disch := first | assumption | rfl | exact cMod_of (by decide) | omega | (simp only [List.length_take, List.length_drop, List.length_append, List.length_cons, List.length_nil, List.length_map, List.length_range, List.length_replicate]; omega) | solve_by_elim) [r3_read_amount, hp, h46, R]
def fm (k : Nat) : List D := if k = 0 then [.str (T [119, 104, 111, 108, 101])] else [.str (T [97, 109, 111, 117, 110, 116]), .int k]
def rd (l : List Nat) (k : Nat) : Option Int := if k = 0 then rw_ l 9 else ra l k
theorem F_read_as_eq {μ : Store} {l : List Nat} {k : Nat} (hl : l.length ≤ 100) (hk : k ≤ 100) : F_read_as [.d (.tuple (fm k)), .d (.str (T l))] μ = .ok (.d (oI (rd l k))) μ := by
  unfold F_read_as B_read_as fm rd
  rw [runB_eq]
  by_cases h : k = 0
  · have z := F_read_whole_eq (μ := μ) (l := l) (b := 9) (by omega)
    have z : F_read_whole [.d (.str (T l)), .d (.int 9)] μ = _ := z
    rw [if_pos h, if_pos h]
    simp -implicitDefEqProofs (disch := first | assumption | rfl | exact cMod_of (by decide) | omega | (simp only [List.length_take, List.length_drop, List.length_append, List.length_cons, List.length_nil, List.length_map, List.length_range, List.length_replicate]; omega) | solve_by_elim) [r2_read_as, r1_read_as, z]
  · have z := F_read_amount_eq (μ := μ) (l := l) (k := k) hl hk
    have i0 : dIx (.d (.list [.int k])) (.d (.int 0)) μ = .ok (.d (.int k)) μ := dIx_l (atI_nn (k := 0) rfl)
    rw [if_neg h, if_neg h]
    simp -implicitDefEqProofs (disch := first | assumption | rfl | exact cMod_of (by decide) | omega | (simp only [List.length_take, List.length_drop, List.length_append, List.length_cons, List.length_nil, List.length_map, List.length_range, List.length_replicate]; omega) | solve_by_elim) [r2_read_as, r1_read_as, z, i0]
/-! ### the law's own reading -/
theorem ix_dig {μ : Store} {c : Nat} (h : isDig c = true) : dIndexS (.d (.str (T [48, 49, 50, 51, 52, 53, 54, 55, 56, 57]))) [.d (.str (T [c]))] μ = .ok (.d (.int ((c - 48 : Nat) : Int))) μ := by
  have h := isDig_iff.mp h
  have q : ∀ d < 10, Builtin.Str.occurrences (T [48, 49, 50, 51, 52, 53, 54, 55, 56, 57]) (T [48 + d]) 0 (T [48, 49, 50, 51, 52, 53, 54, 55, 56, 57]).length 1 = [d] := by decide +kernel
  have q := q (c - 48) (by omega)
  have e : 48 + (c - 48) = c := by omega
  rw [e] at q
  show (match Builtin.Str.occurrences (T [48, 49, 50, 51, 52, 53, 54, 55, 56, 57]) (T [c]) 0 (T [48, 49, 50, 51, 52, 53, 54, 55, 56, 57]).length 1 with | i :: _ => Out.ok (Dv.d (.int (i : Nat))) μ | [] => .bad) = _
  rw [q]
theorem cMul_10 {v : Nat} (h : v < 2 ^ 900) : cMul 10 (v : Int) = true := cMul_ok (a := 4) (b := 900) (by decide) (by simpa using h) (by decide) (by decide) (by decide)
def fstep (v : Nat) (c : Nat) : Nat := v * 10 + (c - 48)
theorem sum_loop {μ : Store} {z : Option Dv} : ∀ {l : List Nat} {v : Nat} {o : Option Dv}, (v + 1) * 10 ^ l.length ≤ 10 ^ 100 → l.all isDig = true →
    ∃ o', forL (gN 2) w1_l_sum (l.map fun c => .d (.str (T [c]))) [z, some (.d (.int v)), o] μ = .ok (.nx [z, some (.d (.int (l.foldl fstep v : Nat))), o']) μ
  | [], v, o, _, _ => ⟨o, rfl⟩
  | c :: l, v, o, hv, hd => by
    rw [List.all_cons, Bool.and_eq_true] at hd
    rw [List.length_cons, Nat.pow_succ] at hv
    have hc := isDig_iff.mp hd.1
    have hv2 : (fstep v c + 1) * 10 ^ l.length ≤ 10 ^ 100 := by
      refine Nat.le_trans ?_ hv
      rw [Nat.mul_comm (10 ^ l.length) 10, ← Nat.mul_assoc]
      exact Nat.mul_le_mul_right _ (by unfold fstep; omega)
    obtain ⟨o', e⟩ := sum_loop (μ := μ) (z := z) (l := l) (v := fstep v c) (o := some (.d (.str (T [c])))) hv2 hd.2
    have hp : 1 ≤ 10 ^ l.length := Nat.pow_pos (by decide)
    have hb : v < 10 ^ 100 := by
      have : v + 1 ≤ (v + 1) * (10 ^ l.length * 10) := Nat.le_mul_of_pos_right _ (by omega)
      omega
    have hm := cMul_10 (v := v) (Nat.lt_trans hb (by decide))
    have hx := ix_dig (μ := μ) hd.1
    refine ⟨o', ?_⟩
    rw [List.map_cons, List.foldl_cons, ← e]
    have e2 : (10 * (v : Int) + ((c - 48 : Nat) : Int)) = ((fstep v c : Nat) : Int) := by unfold fstep; omega
    refine forL_cons (ρ1 := [z, some (.d (.int v)), some (.d (.str (T [c])))]) (μ1 := μ) rfl ?_
    unfold w1_l_sum r1_l_sum
    simp -implicitDefEqProofs (disch := first | assumption | rfl | exact cMod_of (by decide) | omega | (simp only [List.length_take, List.length_drop, List.length_append, List.length_cons, List.length_nil, List.length_map, List.length_range, List.length_replicate]; omega) | solve_by_elim) [dig_mem, hd.1, hm, hx, e2, -List.mem_cons]
theorem sum_bad {μ : Store} {z : Option Dv} : ∀ {l : List Nat} {v : Nat} {o : Option Dv}, (v + 1) * 10 ^ l.length ≤ 10 ^ 100 → l.all isDig = false →
    forL (gN 2) w1_l_sum (l.map fun c => .d (.str (T [c]))) [z, some (.d (.int v)), o] μ = .ok (.rt (.d .none)) μ
  | [], v, o, _, h => by cases h
  | c :: l, v, o, hv, hd => by
    rw [List.map_cons]
    by_cases hc' : isDig c = true
    · have hc := isDig_iff.mp hc'
      rw [List.all_cons, hc', Bool.true_and] at hd
      rw [List.length_cons, Nat.pow_succ] at hv
      have hv2 : (fstep v c + 1) * 10 ^ l.length ≤ 10 ^ 100 := by
        refine Nat.le_trans ?_ hv
        rw [Nat.mul_comm (10 ^ l.length) 10, ← Nat.mul_assoc]
        exact Nat.mul_le_mul_right _ (by unfold fstep; omega)
      have e := sum_bad (μ := μ) (z := z) (l := l) (v := fstep v c) (o := some (.d (.str (T [c])))) hv2 hd
      have hp : 1 ≤ 10 ^ l.length := Nat.pow_pos (by decide)
      have hb : v < 10 ^ 100 := by
        have : v + 1 ≤ (v + 1) * (10 ^ l.length * 10) := Nat.le_mul_of_pos_right _ (by omega)
        omega
      have hm := cMul_10 (v := v) (Nat.lt_trans hb (by decide))
      have hx := ix_dig (μ := μ) hc'
      have e2 : (10 * (v : Int) + ((c - 48 : Nat) : Int)) = ((fstep v c : Nat) : Int) := by unfold fstep; omega
      rw [← e]
      refine forL_cons (ρ1 := [z, some (.d (.int v)), some (.d (.str (T [c])))]) (μ1 := μ) rfl ?_
      unfold w1_l_sum r1_l_sum
      simp -implicitDefEqProofs (disch := first | assumption | rfl | exact cMod_of (by decide) | omega | (simp only [List.length_take, List.length_drop, List.length_append, List.length_cons, List.length_nil, List.length_map, List.length_range, List.length_replicate]; omega) | solve_by_elim) [dig_mem, hc', hm, hx, e2, -List.mem_cons]
    · refine forL_ret (ρ1 := [z, some (.d (.int v)), some (.d (.str (T [c])))]) (μ1 := μ) rfl ?_
      unfold w1_l_sum
      simp -implicitDefEqProofs (disch := first | assumption | rfl | exact cMod_of (by decide) | omega | (simp only [List.length_take, List.length_drop, List.length_append, List.length_cons, List.length_nil, List.length_map, List.length_range, List.length_replicate]; omega) | solve_by_elim) [dig_mem, hc', -List.mem_cons]
def sm (l : List Nat) : Option Int := if l ≠ [] ∧ l.all isDig = true then some (dval l : Int) else none
theorem F_l_sum_eq {μ : Store} {l : List Nat} (hl : l.length ≤ 100) : F_l_sum [.d (.str (T l))] μ = .ok (.d (oI (sm l))) μ := by
  have hv : (0 + 1) * 10 ^ l.length ≤ 10 ^ 100 := by rw [Nat.zero_add, Nat.one_mul]; exact Nat.pow_le_pow_right (by decide) hl
  unfold F_l_sum B_l_sum sm
  rw [runB_eq]
  by_cases hd : l.all isDig = true
  · obtain ⟨o', e⟩ := sum_loop (μ := μ) (z := some (.d (.str (T l)))) (o := none) hv hd
    have e' : forL (gN 2) w1_l_sum (l.map fun c => .d (.str (T [c]))) [some (.d (.str (T l))), some (.d (.int 0)), none] μ = _ := e
    have ev : l.foldl fstep 0 = dval l := rfl
    rw [ev] at e'
    by_cases hn : l = []
    · subst hn
      rw [List.map_nil] at e'
      simp -implicitDefEqProofs (disch := first | assumption | rfl | exact cMod_of (by decide) | omega | (simp only [List.length_take, List.length_drop, List.length_append, List.length_cons, List.length_nil, List.length_map, List.length_range, List.length_replicate]; omega) | solve_by_elim) [r3_l_sum, r2_l_sum, e', oI_n]
    · rw [if_pos ⟨hn, hd⟩]
      simp -implicitDefEqProofs (disch := first | assumption | rfl | exact cMod_of (by decide) | omega | (simp only [List.length_take, List.length_drop, List.length_append, List.length_cons, List.length_nil, List.length_map, List.length_range, List.length_replicate]; omega) | solve_by_elim) [r3_l_sum, r2_l_sum, e', hn, oI_s]
  · have hd : l.all isDig = false := by simpa using hd
    have e := sum_bad (μ := μ) (z := some (.d (.str (T l)))) (o := none) hv hd
    have e' : forL (gN 2) w1_l_sum (l.map fun c => .d (.str (T [c]))) [some (.d (.str (T l))), some (.d (.int 0)), none] μ = _ := e
    rw [if_neg (by rw [hd]; simp)]
    simp -implicitDefEqProofs (disch := first | assumption | rfl | exact cMod_of (by decide) | omega | (simp only [List.length_take, List.length_drop, List.length_append, List.length_cons, List.length_nil, List.length_map, List.length_range, List.length_replicate]; omega) | solve_by_elim) [r3_l_sum, e', oI_n]
end LW

namespace LW
open PySem PySem.Spec PyProof.Rows L2 DL
def lim (k : Nat) : Nat := if k = 0 then 9 else 8
/-- what the law's own reading comes to -/
def du (l : List Nat) (k : Nat) : Option Int := match splitL 46 [] (bod l) with
  | [a] => if okB a (lim k) = true then some (sgn (ngv l) (dval (a ++ zs k))) else none
  | [a, r] => if k ≠ 0 ∧ okB a 8 = true ∧ okB r k = true then some (sgn (ngv l) (dval (a ++ (r ++ zs (k - r.length))))) else none
  | _ => none
theorem du_r1 {μ : Store} {l : List Nat} (hl : l.length ≤ 100) (hn : l ≠ []) {v : Nat} {s1 s2 s3 s4 : Option Dv} : r1_l_due [some (.d (.str (T l))), s1, s2, s3, s4, some (.d (.int v))] μ = .ok (.rt (.d (.int (sgn (ngv l) v)))) μ := by
  cases l with
  | nil => exact absurd rfl hn
  | cons c r =>
    have e4 := dIx_s (μ := μ) (l := c :: r) (k := 0) (c := c) (by omega) (atI_nn (k := 0) rfl)
    unfold r1_l_due
    by_cases h : c = 45
    · subst h
      simp -implicitDefEqProofs (disch := first | assumption | rfl | exact cMod_of (by decide) | omega | (simp only [List.length_take, List.length_drop, List.length_append, List.length_cons, List.length_nil, List.length_map, List.length_range, List.length_replicate]; omega) | solve_by_elim) [e4, sgn, ngv]
    · simp -implicitDefEqProofs (disch := first | assumption | rfl | exact cMod_of (by decide) | omega | (simp only [List.length_take, List.length_drop, List.length_append, List.length_cons, List.length_nil, List.length_map, List.length_range, List.length_replicate]; omega) | solve_by_elim) [e4, h, sgn, ngv]
theorem du_r2 {μ : Store} {l : List Nat} (hl : l.length ≤ 100) (hn : l ≠ []) {k : Nat} {a b : List Nat} (hk : k ≤ 10) (ha : a.length ≤ 50) (hb : b.length ≤ 20) (hd : a ++ (b ++ zs 4).take k ≠ []) (hd2 : (a ++ (b ++ zs 4).take k).all isDig = true) {ds : List D} {s2 s5 : Option Dv} :
    r2_l_due [some (.d (.str (T l))), some (.d (.int k)), s2, some (.d (.list (.str (T a) :: ds))), some (.d (.str (T b))), s5] μ = .ok (.rt (.d (.int (sgn (ngv l) (dval (a ++ (b ++ zs 4).take k)))))) μ := by
  have i0 : dIx (.d (.list (.str (T a) :: ds))) (.d (.int 0)) μ = .ok (.d (.str (T a))) μ := dIx_l (atI_nn (k := 0) rfl)
  have hz : zs 4 = [48, 48, 48, 48] := rfl
  have hlen : (a ++ (b ++ zs 4).take k).length ≤ 100 := by
    rw [List.length_append, List.length_take]; omega
  have z1 := F_l_sum_eq (μ := μ) hlen
  have q : sm (a ++ (b ++ zs 4).take k) = some (dval (a ++ (b ++ zs 4).take k) : Int) := by
    unfold sm
    rw [if_pos ⟨hd, hd2⟩]
  rw [q, oI_s, hz] at z1
  have z3 := cut_to (b ++ [48, 48, 48, 48]) (k := (k : Int)) (by omega)
  rw [Int.toNat_natCast] at z3
  have z4 := du_r1 (μ := μ) hl hn (v := dval (a ++ (b ++ zs 4).take k)) (s1 := some (.d (.int k))) (s2 := s2) (s3 := some (.d (.list (.str (T a) :: ds)))) (s4 := some (.d (.str (T b))))
  rw [hz] at z4 ⊢
  have l1 : b.length + 4 ≤ 16000000 := by omega
  have l2 : a.length + ((b ++ [48, 48, 48, 48]).take k).length ≤ 16000000 := by rw [List.length_take]; omega
  have l3 : (b ++ [48, 48, 48, 48]).length ≤ 16000000 := by rw [List.length_append]; exact l1
  have l4 := dAdd_ss (μ := μ) (l := b) (m := [48, 48, 48, 48]) l1
  have l5 := dSl_s (μ := μ) (l := b ++ [48, 48, 48, 48]) (i := none) (j := some (k : Int)) l3
  rw [z3] at l5
  have l6 := dAdd_ss (μ := μ) l2
  unfold r2_l_due
  simp -implicitDefEqProofs (disch := first | assumption | rfl | exact cMod_of (by decide) | omega | (simp only [List.length_take, List.length_drop, List.length_append, List.length_cons, List.length_nil, List.length_map, List.length_range, List.length_replicate]; omega) | solve_by_elim) [i0, l4, z3, l6, z1, z4]
theorem sm_none {l : List Nat} (h : l.all isDig = false) : sm l = none := by
  unfold sm
  rw [if_neg (by rw [h]; simp)]
theorem sm_some {l : List Nat} (h0 : 0 < l.length) (h : l.all isDig = true) : sm l = some (dval l : Int) := by
  unfold sm
  rw [if_pos ⟨by intro e; rw [e] at h0; simp at h0, h⟩]
/-- the part behind the length tests: a ahead, b behind -/
theorem du_r3 {μ : Store} {l : List Nat} (hl : l.length ≤ 100) (hn : l ≠ []) {k : Nat} {a b : List Nat} (hk : k ≤ 4) (ha0 : 0 < a.length) (ha : a.length ≤ 50) (hb0 : 0 < b.length) (hbk : k = 0 → b.length ≤ 1) (hb : b.length ≤ 100) {ds : List D} {s2 s5 : Option Dv} :
    r3_l_due [some (.d (.str (T l))), some (.d (.int k)), s2, some (.d (.list (.str (T a) :: ds))), some (.d (.str (T b))), s5] μ = .ok (.rt (.d (oI (if (k = 0 ∨ b.length ≤ k) ∧ a.all isDig = true ∧ b.all isDig = true then some (sgn (ngv l) (dval (a ++ (b ++ zs 4).take k))) else none)))) μ := by
  have i0 : dIx (.d (.list (.str (T a) :: ds))) (.d (.int 0)) μ = .ok (.d (.str (T a))) μ := dIx_l (atI_nn (k := 0) rfl)
  have za := F_l_sum_eq (μ := μ) (l := a) (by omega)
  have zb := F_l_sum_eq (μ := μ) (l := b) (by omega)
  by_cases hk1 : k = 0 ∨ b.length ≤ k
  · have hk2 : (if (k : Int) = 0 then (2 : Int) else k + 1) > b.length := by split <;> omega
    cases ha1 : a.all isDig with
    | false =>
      rw [sm_none ha1, oI_n] at za
      by_cases hk0 : k = 0
      · subst hk0
        have := hbk rfl
        unfold r3_l_due
        simp -implicitDefEqProofs (disch := first | assumption | rfl | exact cMod_of (by decide) | omega | (simp only [List.length_take, List.length_drop, List.length_append, List.length_cons, List.length_nil, List.length_map, List.length_range, List.length_replicate]; omega) | solve_by_elim) [i0, za, hb0, show (b.length : Int) < 2 by omega, isNone, oI_n]
      · have := Or.resolve_left hk1 hk0
        unfold r3_l_due
        simp -implicitDefEqProofs (disch := first | assumption | rfl | exact cMod_of (by decide) | omega | (simp only [List.length_take, List.length_drop, List.length_append, List.length_cons, List.length_nil, List.length_map, List.length_range, List.length_replicate]; omega) | solve_by_elim) [i0, za, hb0, hk0, show (b.length : Int) < k + 1 by omega, isNone, oI_n]
    | true =>
      rw [sm_some ha0 ha1, oI_s] at za
      cases hb1 : b.all isDig with
      | false =>
        rw [sm_none hb1, oI_n] at zb
        by_cases hk0 : k = 0
        · subst hk0
          have := hbk rfl
          unfold r3_l_due
          simp -implicitDefEqProofs (disch := first | assumption | rfl | exact cMod_of (by decide) | omega | (simp only [List.length_take, List.length_drop, List.length_append, List.length_cons, List.length_nil, List.length_map, List.length_range, List.length_replicate]; omega) | solve_by_elim) [i0, za, zb, hb0, show (b.length : Int) < 2 by omega, isNone, oI_n]
        · have := Or.resolve_left hk1 hk0
          unfold r3_l_due
          simp -implicitDefEqProofs (disch := first | assumption | rfl | exact cMod_of (by decide) | omega | (simp only [List.length_take, List.length_drop, List.length_append, List.length_cons, List.length_nil, List.length_map, List.length_range, List.length_replicate]; omega) | solve_by_elim) [i0, za, zb, hb0, hk0, show (b.length : Int) < k + 1 by omega, isNone, oI_n]
      | true =>
        rw [sm_some hb0 hb1, oI_s] at zb
        have hd : (a ++ (b ++ zs 4).take k).all isDig = true := by
          rw [dig_app, ha1, Bool.true_and]
          rw [List.all_eq_true]
          intro c hc
          have hc := List.mem_of_mem_take hc
          rcases List.mem_append.mp hc with hc | hc
          · exact List.all_eq_true.mp hb1 c hc
          · exact List.all_eq_true.mp (dig_zs 4) c hc
        have z := fun (h : b.length ≤ 20) (s5 : Option Dv) => du_r2 (μ := μ) hl hn (k := k) (a := a) (b := b) (by omega) ha h (by intro e; rw [List.append_eq_nil_iff] at e; rw [e.1] at ha0; simp at ha0) hd (ds := ds) (s2 := s2) (s5 := s5)
        by_cases hk0 : k = 0
        · subst hk0
          have := hbk rfl
          have z := z (by omega)
          rw [List.take_zero, List.append_nil] at z
          have z : ∀ s5, r2_l_due [some (.d (.str (T l))), some (.d (.int 0)), s2, some (.d (.list (.str (T a) :: ds))), some (.d (.str (T b))), s5] μ = _ := z
          unfold r3_l_due
          simp -implicitDefEqProofs (disch := first | assumption | rfl | exact cMod_of (by decide) | omega | (simp only [List.length_take, List.length_drop, List.length_append, List.length_cons, List.length_nil, List.length_map, List.length_range, List.length_replicate]; omega) | solve_by_elim) [i0, za, zb, hb0, show (b.length : Int) < 2 by omega, isNone, oI_s, z]
        · have := Or.resolve_left hk1 hk0
          have z := z (by omega)
          unfold r3_l_due
          simp -implicitDefEqProofs (disch := first | assumption | rfl | exact cMod_of (by decide) | omega | (simp only [List.length_take, List.length_drop, List.length_append, List.length_cons, List.length_nil, List.length_map, List.length_range, List.length_replicate]; omega) | solve_by_elim) [i0, za, zb, hb0, hk0, show (b.length : Int) < k + 1 by omega, isNone, oI_s, z, this]
  · have hk0 : ¬ k = 0 := fun h => hk1 (.inl h)
    have hk3 : ¬ b.length ≤ k := fun h => hk1 (.inr h)
    rw [if_neg (fun h => hk1 h.1)]
    unfold r3_l_due
    simp -implicitDefEqProofs (disch := first | assumption | rfl | exact cMod_of (by decide) | omega | (simp only [List.length_take, List.length_drop, List.length_append, List.length_cons, List.length_nil, List.length_map, List.length_range, List.length_replicate]; omega) | solve_by_elim) [hb0, hk0, show ¬ (b.length : Int) < k + 1 by omega, oI_n]
end LW

namespace LW
open PySem PySem.Spec PyProof.Rows L2 DL
theorem bod_ne {l : List Nat} (h : 0 < (bod l).length) : l ≠ [] := by
  intro e
  rw [e] at h
  exact absurd h (by simp [bod])
theorem bod_len (l : List Nat) : (bod l).length ≤ l.length := by
  cases l with
  | nil => simp [bod]
  | cons c r => rw [bod]; split <;> simp
theorem okB_iff {l : List Nat} {b : Nat} : okB l b = true ↔ 0 < l.length ∧ l.length ≤ b ∧ l.all isDig = true := by
  unfold okB
  simp only [Bool.and_eq_true, decide_eq_true_eq]
  constructor
  · rintro ⟨⟨h1, h2⟩, h3⟩; exact ⟨by omega, h2, h3⟩
  · rintro ⟨h1, h2, h3⟩; exact ⟨⟨by omega, h2⟩, h3⟩
theorem du_r4 {μ : Store} {l : List Nat} (hl : l.length ≤ 60) {k : Nat} (hk : k ≤ 4) {a : List Nat} {r : Option (List Nat)} (ha0 : 0 < a.length) (ha : a.length ≤ 50) (hr : ∀ b, r = some b → b.length ≤ 60 ∧ k ≠ 0) (hn : l ≠ []) {s2 s4 s5 : Option Dv} :
    r4_l_due [some (.d (.str (T l))), some (.d (.int k)), s2, some (.d (.list (.str (T a) :: (match r with | some b => [.str (T b)] | none => [])))), s4, s5] μ = .ok (.rt (.d (oI (match r with
      | none => if a.all isDig = true then some (sgn (ngv l) (dval (a ++ zs k))) else none
      | some b => if a.all isDig = true ∧ okB b k = true then some (sgn (ngv l) (dval (a ++ (b ++ zs (k - b.length))))) else none)))) μ := by
  cases r with
  | none =>
    have z := du_r3 (μ := μ) (l := l) (by omega) hn (k := k) (a := a) (b := [48]) (by omega) ha0 ha (by decide) (by intro _; decide) (by decide) (ds := []) (s2 := s2) (s5 := s5)
    have i1 : dIx (.d (.list [.str (T a), .str (T [48])])) (.d (.int 1)) μ = .ok (.d (.str (T [48]))) μ := dIx_l (atI_nn (k := 1) rfl)
    have i2 := dAdd_ll (μ := μ) (xs := [PyData.str (T a)]) (ys := [PyData.str (T [48])]) (by simp)
    rw [List.cons_append, List.nil_append] at i2
    have e1 : ((k = 0 ∨ [48].length ≤ k) ∧ a.all isDig = true ∧ [48].all isDig = true) = (a.all isDig = true) := by
      rw [eq_iff_iff]
      constructor
      · exact fun h => h.2.1
      · intro h; refine ⟨?_, h, rfl⟩; simp; omega
    have e2 : ([48] ++ zs 4).take k = zs k := by
      have : ([48] ++ zs 4) = zs 5 := rfl
      rw [this]
      unfold zs
      rw [List.take_replicate, Nat.min_eq_left (by omega)]
    rw [e2] at z
    simp only [e1] at z
    unfold r4_l_due
    simp -implicitDefEqProofs (disch := first | assumption | rfl | exact cMod_of (by decide) | omega | (simp only [List.length_take, List.length_drop, List.length_append, List.length_cons, List.length_nil, List.length_map, List.length_range, List.length_replicate]; omega) | solve_by_elim) [i2, i1, z]
  | some b =>
    obtain ⟨hb, hk0⟩ := hr b rfl
    have hb' : (b.length : Int) ≤ 60 := by omega
    have i1 : dIx (.d (.list [.str (T a), .str (T b), .str (T [48])])) (.d (.int 1)) μ = .ok (.d (.str (T b))) μ := dIx_l (atI_nn (k := 1) rfl)
    have i2 := dAdd_ll (μ := μ) (xs := [PyData.str (T a), PyData.str (T b)]) (ys := [PyData.str (T [48])]) (by simp)
    rw [List.cons_append, List.cons_append, List.nil_append] at i2
    by_cases hb0 : 0 < b.length
    · have z := du_r3 (μ := μ) (l := l) (by omega) hn (k := k) (a := a) (b := b) (by omega) ha0 ha hb0 (by intro h; exact absurd h hk0) (by omega) (ds := [.str (T b)]) (s2 := s2) (s5 := s5)
      have e1 : ((k = 0 ∨ b.length ≤ k) ∧ a.all isDig = true ∧ b.all isDig = true) = (a.all isDig = true ∧ okB b k = true) := by
        rw [eq_iff_iff, okB_iff]
        constructor
        · exact fun h => ⟨h.2.1, hb0, Or.resolve_left h.1 hk0, h.2.2⟩
        · exact fun h => ⟨.inr h.2.2.1, h.1, h.2.2.2⟩
      have e2 : okB b k = true → (b ++ zs 4).take k = b ++ zs (k - b.length) := by
        intro h
        have h := (okB_iff.mp h).2.1
        rw [List.take_append, List.take_of_length_le h]
        unfold zs
        rw [List.take_replicate, Nat.min_eq_left (by omega)]
      simp only [e1] at z
      have e3 : (if a.all isDig = true ∧ okB b k = true then some (sgn (ngv l) (dval (a ++ (b ++ zs 4).take k))) else none) = (if a.all isDig = true ∧ okB b k = true then some (sgn (ngv l) (dval (a ++ (b ++ zs (k - b.length))))) else none) := by
        split
        · rename_i h; rw [e2 h.2]
        · rfl
      rw [e3] at z
      unfold r4_l_due
      simp -implicitDefEqProofs (disch := first | assumption | rfl | exact cMod_of (by decide) | omega | (simp only [List.length_take, List.length_drop, List.length_append, List.length_cons, List.length_nil, List.length_map, List.length_range, List.length_replicate]; omega) | solve_by_elim) [i2, i1, z]
    · have hbn : b = [] := List.length_eq_zero_iff.mp (by omega)
      subst hbn
      have e9 : okB [] k = false := rfl
      unfold r4_l_due r3_l_due
      simp -implicitDefEqProofs (disch := first | assumption | rfl | exact cMod_of (by decide) | omega | (simp only [List.length_take, List.length_drop, List.length_append, List.length_cons, List.length_nil, List.length_map, List.length_range, List.length_replicate]; omega) | solve_by_elim) [i2, i1, oI_n, e9]
theorem F_l_due_eq {μ : Store} {l : List Nat} {k : Nat} (hl : l.length ≤ 50) (hk : k ≤ 4) : F_l_due [.d (.str (T l)), .d (.int k)] μ = .ok (.d (oI (du l k))) μ := by
  have hb := bod_len l
  have z0 : (sSet 2 (eIf (tV (e2 (dIn false) (eSl (eVar 0) (oNone) (oSome (eC (.d (.int 1))))) (eN dTup (aCons (eC (.d (.str "-"))) (aCons (eC (.d (.str "+"))) (aNil)))))) (eSl (eVar 0) (oSome (eC (.d (.int 1)))) (oNone)) (eVar 0))) [some (.d (.str (T l))), some (.d (.int k)), none, none, none, none] μ = .ok (.nx [some (.d (.str (T l))), some (.d (.int k)), some (.d (.str (T (bod l)))), none, none, none]) μ := by
    have q1 := cut_to l (k := 1) (by decide)
    have q2 := cut_from l (k := 1) (by decide)
    cases l with
    | nil => simp -implicitDefEqProofs (disch := first | assumption | rfl | exact cMod_of (by decide) | omega | (simp only [List.length_take, List.length_drop, List.length_append, List.length_cons, List.length_nil, List.length_map, List.length_range, List.length_replicate]; omega) | solve_by_elim) [q1, q2, bod]
    | cons c r =>
      by_cases h1 : c = 43
      · subst h1; simp -implicitDefEqProofs (disch := first | assumption | rfl | exact cMod_of (by decide) | omega | (simp only [List.length_take, List.length_drop, List.length_append, List.length_cons, List.length_nil, List.length_map, List.length_range, List.length_replicate]; omega) | solve_by_elim) [q1, q2, bod]
      · by_cases h2 : c = 45
        · subst h2; simp -implicitDefEqProofs (disch := first | assumption | rfl | exact cMod_of (by decide) | omega | (simp only [List.length_take, List.length_drop, List.length_append, List.length_cons, List.length_nil, List.length_map, List.length_range, List.length_replicate]; omega) | solve_by_elim) [q1, q2, bod]
        · simp -implicitDefEqProofs (disch := first | assumption | rfl | exact cMod_of (by decide) | omega | (simp only [List.length_take, List.length_drop, List.length_append, List.length_cons, List.length_nil, List.length_map, List.length_range, List.length_replicate]; omega) | solve_by_elim) [q1, q2, bod, h1, h2, Ne.symm h1, Ne.symm h2]
  have zs1 := dSplit_one (μ := μ) (l := bod l) (s := 46) (by decide) (by omega)
  have main : r6_l_due [some (.d (.str (T l))), some (.d (.int k)), some (.d (.str (T (bod l)))), none, none, none] μ = .ok (.rt (.d (oI (du l k)))) μ := by
    unfold r6_l_due du
    have hlim : (if (k : Int) = 0 then (10 : Int) else 9) = (lim k : Int) + 1 := by unfold lim; split <;> split <;> omega
    by_cases h1 : 46 ∈ bod l
    · obtain ⟨a, r, e, na⟩ := cut_at h1
      rw [e, splitL_app na, List.nil_append] at zs1
      rw [e, splitL_app na, List.nil_append]
      have hlen : a.length + r.length + 1 ≤ 50 := by
        have := congrArg List.length e
        rw [List.length_append, List.length_cons] at this
        omega
      by_cases h2 : 46 ∈ r
      · obtain ⟨b, t, e', nb⟩ := cut_at h2
        rw [e', splitL_app nb, List.nil_append] at zs1
        rw [e', splitL_app nb, List.nil_append]
        cases hs : splitL 46 [] t with
        | nil => exact absurd hs splitL_ne
        | cons x xs =>
          rw [hs] at zs1
          rw [e'] at e
          rw [List.map_cons, List.map_cons, List.map_cons] at zs1
          simp -implicitDefEqProofs (disch := first | assumption | rfl | exact cMod_of (by decide) | omega | (simp only [List.length_take, List.length_drop, List.length_append, List.length_cons, List.length_nil, List.length_map, List.length_range, List.length_replicate]; omega) | solve_by_elim) [zs1, r5_l_due, oI_n, show (2 : Int) < xs.length + 1 + 1 + 1 by omega]
      · rw [splitL_no h2, List.nil_append] at zs1
        rw [splitL_no h2, List.nil_append]
        rw [List.map_cons, List.map_cons, List.map_nil] at zs1
        by_cases hk0 : k = 0
        · subst hk0
          simp -implicitDefEqProofs (disch := first | assumption | rfl | exact cMod_of (by decide) | omega | (simp only [List.length_take, List.length_drop, List.length_append, List.length_cons, List.length_nil, List.length_map, List.length_range, List.length_replicate]; omega) | solve_by_elim) [zs1, r5_l_due, oI_n]
        · by_cases ha0 : 0 < a.length
          · have i0 : dIx (.d (.list [.str (T a), .str (T r)])) (.d (.int 0)) μ = .ok (.d (.str (T a))) μ := dIx_l (atI_nn (k := 0) rfl)
            have hn : l ≠ [] := bod_ne (by rw [e, List.length_append]; omega)
            by_cases ha : a.length ≤ 8
            · have z := du_r4 (μ := μ) (l := l) (by omega) hk (a := a) (r := some r) ha0 (by omega) (fun b hb => by cases hb; exact ⟨by omega, hk0⟩) hn (s2 := some (.d (.str (T (bod l))))) (s4 := none) (s5 := none)
              have e1 : (k ≠ 0 ∧ okB a 8 = true ∧ okB r k = true) = (a.all isDig = true ∧ okB r k = true) := by
                rw [eq_iff_iff, okB_iff (b := 8)]
                exact ⟨fun h => ⟨h.2.1.2.2, h.2.2⟩, fun h => ⟨hk0, ⟨ha0, ha, h.1⟩, h.2⟩⟩
              simp only [e1]
              rw [e] at z
              simp -implicitDefEqProofs (disch := first | assumption | rfl | exact cMod_of (by decide) | omega | (simp only [List.length_take, List.length_drop, List.length_append, List.length_cons, List.length_nil, List.length_map, List.length_range, List.length_replicate]; omega) | solve_by_elim) [zs1, r5_l_due, hk0, i0, ha0, show (a.length : Int) < 9 by omega, z]
            · have e1 : okB a 8 = false := by rw [Bool.eq_false_iff, ne_eq, okB_iff]; omega
              simp -implicitDefEqProofs (disch := first | assumption | rfl | exact cMod_of (by decide) | omega | (simp only [List.length_take, List.length_drop, List.length_append, List.length_cons, List.length_nil, List.length_map, List.length_range, List.length_replicate]; omega) | solve_by_elim) [zs1, r5_l_due, hk0, i0, ha0, show ¬ (a.length : Int) < 9 by omega, oI_n, e1]
          · have hn : a = [] := List.length_eq_zero_iff.mp (by omega)
            subst hn
            have i0 : dIx (.d (.list [.str (T []), .str (T r)])) (.d (.int 0)) μ = .ok (.d (.str (T []))) μ := dIx_l (atI_nn (k := 0) rfl)
            have e1 : okB [] 8 = false := rfl
            rw [List.nil_append] at zs1
            simp -implicitDefEqProofs (disch := first | assumption | rfl | exact cMod_of (by decide) | omega | (simp only [List.length_take, List.length_drop, List.length_append, List.length_cons, List.length_nil, List.length_map, List.length_range, List.length_replicate]; omega) | solve_by_elim) [zs1, r5_l_due, hk0, i0, oI_n, e1]
    · rw [splitL_no h1, List.nil_append] at zs1
      rw [splitL_no h1, List.nil_append]
      rw [List.map_cons, List.map_nil] at zs1
      generalize hB : bod l = a at *
      have i0 : dIx (.d (.list [.str (T a)])) (.d (.int 0)) μ = .ok (.d (.str (T a))) μ := dIx_l (atI_nn (k := 0) rfl)
      by_cases ha0 : 0 < a.length
      · have hn : l ≠ [] := bod_ne (by rw [hB]; omega)
        by_cases ha : a.length ≤ lim k
        · have z := du_r4 (μ := μ) (l := l) (by omega) hk (a := a) (r := none) ha0 (by omega) (fun b hb => by cases hb) hn (s2 := some (.d (.str (T a)))) (s4 := none) (s5 := none)
          have e1 : (okB a (lim k) = true) = (a.all isDig = true) := by
            rw [eq_iff_iff, okB_iff]
            exact ⟨fun h => h.2.2, fun h => ⟨ha0, ha, h⟩⟩
          simp only [e1]
          by_cases hk0 : k = 0
          · subst hk0
            have ha : a.length ≤ 9 := ha
            have z : r4_l_due [some (.d (.str (T l))), some (.d (.int 0)), some (.d (.str (T a))), some (.d (.list [.str (T a)])), none, none] μ = _ := z
            simp -implicitDefEqProofs (disch := first | assumption | rfl | exact cMod_of (by decide) | omega | (simp only [List.length_take, List.length_drop, List.length_append, List.length_cons, List.length_nil, List.length_map, List.length_range, List.length_replicate]; omega) | solve_by_elim) [zs1, r5_l_due, i0, ha0, show (a.length : Int) < 10 by omega, z]
          · have ha : a.length ≤ 8 := by unfold lim at ha; rw [if_neg hk0] at ha; exact ha
            simp -implicitDefEqProofs (disch := first | assumption | rfl | exact cMod_of (by decide) | omega | (simp only [List.length_take, List.length_drop, List.length_append, List.length_cons, List.length_nil, List.length_map, List.length_range, List.length_replicate]; omega) | solve_by_elim) [zs1, r5_l_due, hk0, i0, ha0, show (a.length : Int) < 9 by omega, z]
        · have e1 : okB a (lim k) = false := by rw [Bool.eq_false_iff, ne_eq, okB_iff]; omega
          by_cases hk0 : k = 0
          · subst hk0
            have ha : ¬ a.length ≤ 9 := ha
            simp -implicitDefEqProofs (disch := first | assumption | rfl | exact cMod_of (by decide) | omega | (simp only [List.length_take, List.length_drop, List.length_append, List.length_cons, List.length_nil, List.length_map, List.length_range, List.length_replicate]; omega) | solve_by_elim) [zs1, r5_l_due, i0, ha0, show ¬ (a.length : Int) < 10 by omega, oI_n, e1]
          · have ha : ¬ a.length ≤ 8 := by unfold lim at ha; rw [if_neg hk0] at ha; exact ha
            simp -implicitDefEqProofs (disch := first | assumption | rfl | exact cMod_of (by decide) | omega | (simp only [List.length_take, List.length_drop, List.length_append, List.length_cons, List.length_nil, List.length_map, List.length_range, List.length_replicate]; omega) | solve_by_elim) [zs1, r5_l_due, hk0, i0, ha0, show ¬ (a.length : Int) < 9 by omega, oI_n, e1]
      · have hn : a = [] := List.length_eq_zero_iff.mp (by omega)
        subst hn
        have e1 : okB [] (lim k) = false := rfl
        by_cases hk0 : k = 0
        · subst hk0
          simp -implicitDefEqProofs (disch := first | assumption | rfl | exact cMod_of (by decide) | omega | (simp only [List.length_take, List.length_drop, List.length_append, List.length_cons, List.length_nil, List.length_map, List.length_range, List.length_replicate]; omega) | solve_by_elim) [zs1, r5_l_due, i0, oI_n, e1]
        · simp -implicitDefEqProofs (disch := first | assumption | rfl | exact cMod_of (by decide) | omega | (simp only [List.length_take, List.length_drop, List.length_append, List.length_cons, List.length_nil, List.length_map, List.length_range, List.length_replicate]; omega) | solve_by_elim) [zs1, r5_l_due, hk0, i0, oI_n, e1]
  unfold F_l_due B_l_due
  rw [runB_eq]
  simp only [List.map_cons, List.map_nil, List.length_cons, List.length_nil, List.replicate, List.cons_append, List.nil_append]
  rw [sSeq_r]
  have z0' := z0
  show finB (((sSet 2 _) _ μ).bind _) = _
  rw [z0']
  simp -implicitDefEqProofs (disch := first | assumption | rfl | exact cMod_of (by decide) | omega | (simp only [List.length_take, List.length_drop, List.length_append, List.length_cons, List.length_nil, List.length_map, List.length_range, List.length_replicate]; omega) | solve_by_elim) [main]
end LW

namespace LW
open PySem PySem.Spec PyProof.Rows L2 DL
theorem bod_pre {l a t : List Nat} (h : bod l = a ++ t) : ∃ p, l = p ++ (a ++ t) ∧ 46 ∉ p ∧ ∀ m, (a = [] → m = []) → bod (p ++ (a ++ m)) = a ++ m ∧ ngv (p ++ (a ++ m)) = ngv l := by
  cases l with
  | nil =>
    have h : [] = a ++ t := h
    have h := List.append_eq_nil_iff.mp h.symm
    refine ⟨[], by rw [h.1, h.2]; rfl, by simp, fun m hm => ?_⟩
    rw [h.1, hm h.1]
    exact ⟨rfl, rfl⟩
  | cons c r =>
    by_cases hc : c = 43 ∨ c = 45
    · rw [bod, if_pos hc] at h
      refine ⟨[c], by rw [h]; rfl, by simp; omega, fun m _ => ⟨?_, rfl⟩⟩
      show bod (c :: (a ++ m)) = _
      rw [bod, if_pos hc]
    · rw [bod, if_neg hc] at h
      refine ⟨[], by rw [h]; rfl, by simp, fun m hm => ?_⟩
      rw [List.nil_append]
      cases a with
      | nil =>
        rw [hm rfl]
        refine ⟨rfl, ?_⟩
        show false = decide (c = 45)
        symm
        exact decide_eq_false (fun q => hc (.inr q))
      | cons x xs =>
        rw [List.cons_append] at h
        injection h with h1 h2
        subst h1
        refine ⟨?_, rfl⟩
        show bod (c :: (xs ++ m)) = _
        rw [bod, if_neg hc]
        rfl
theorem okB_no {l : List Nat} {b : Nat} (h : 46 ∈ l) : okB l b = false := by
  rw [Bool.eq_false_iff, ne_eq, okB_iff]
  intro q
  have := List.all_eq_true.mp q.2.2 46 h
  exact absurd this (by decide)
theorem rw_of {l : List Nat} {b : Nat} {a : List Nat} {n : Bool} (h : bod l = a) (h2 : ngv l = n) : rw_ l b = if okB a b = true then some (sgn n (dval a)) else none := by
  unfold rw_
  rw [h, h2]
/-- an amount ahead and behind -/
theorem ra2_of {p a r : List Nat} {k : Nat} {n : Bool} (hk : r.length ≤ k) (hd : r.all isDig = true) (h : ∀ m, (a = [] → m = []) → bod (p ++ (a ++ m)) = a ++ m ∧ ngv (p ++ (a ++ m)) = n) : ra2 (p ++ a) r k = if okB a 8 = true then some (sgn n (dval (a ++ (r ++ zs (k - r.length))))) else none := by
  have h0 := h [] (fun _ => rfl)
  rw [List.append_nil] at h0
  unfold ra2
  rw [rw_of h0.1 h0.2]
  by_cases q : okB a 8 = true
  · rw [if_pos q, if_pos q]
    have hq := okB_iff.mp q
    have h1 := h (r ++ zs (k - r.length)) (fun e => by rw [e] at hq; simp at hq)
    show rw_ (p ++ a ++ (r ++ zs (k - r.length))) (8 + k) = _
    rw [List.append_assoc, rw_of h1.1 h1.2]
    refine if_pos (okB_iff.mpr ⟨?_, ?_, ?_⟩)
    · rw [List.length_append]; omega
    · rw [List.length_append, List.length_append]
      unfold zs
      rw [List.length_replicate]
      omega
    · rw [dig_app, dig_app, dig_zs, hq.2.2, hd]
      rfl
  · rw [if_neg q, if_neg q]
theorem du_rd {l : List Nat} {k : Nat} : du l k = rd l k := by
  unfold du rd
  by_cases h1 : 46 ∈ bod l
  · obtain ⟨a, r, e, na⟩ := cut_at h1
    rw [e, splitL_app na, List.nil_append]
    have hS : (match a :: splitL 46 [] r with
      | [a] => if okB a (lim k) = true then some (sgn (ngv l) (dval (a ++ zs k))) else none
      | [a, r] => if k ≠ 0 ∧ okB a 8 = true ∧ okB r k = true then some (sgn (ngv l) (dval (a ++ (r ++ zs (k - r.length))))) else none
      | _ => none) = if 46 ∈ r then none else if k ≠ 0 ∧ okB a 8 = true ∧ okB r k = true then some (sgn (ngv l) (dval (a ++ (r ++ zs (k - r.length))))) else none := by
      by_cases h2 : 46 ∈ r
      · obtain ⟨b, t, e', nb⟩ := cut_at h2
        rw [if_pos h2, e', splitL_app nb, List.nil_append]
        cases hs : splitL 46 [] t with
        | nil => exact absurd hs splitL_ne
        | cons x xs => rfl
      · rw [if_neg h2, splitL_no h2, List.nil_append]
    refine Eq.trans hS ?_
    by_cases hk : k = 0
    · subst hk
      rw [if_pos rfl]
      unfold rw_
      rw [okB_no h1]
      simp
    · rw [if_neg hk]
      obtain ⟨p, el, np, hp⟩ := bod_pre e
      have hl : l = (p ++ a) ++ 46 :: r := by rw [List.append_assoc]; exact el
      have hn : 46 ∉ p ++ a := by
        intro q
        rcases List.mem_append.mp q with q | q
        · exact np q
        · exact na q
      have hin : 46 ∈ l := by rw [hl]; simp
      unfold ra
      have hng : ∀ m, (a = [] → m = []) → bod (p ++ (a ++ m)) = a ++ m ∧ ngv (p ++ (a ++ m)) = ngv l := hp
      generalize ngv l = n at *
      rw [show (l.dropWhile (· != 46)).drop 1 = r by rw [hl]; exact dw_app hn, show l.takeWhile (· != 46) = p ++ a by rw [hl]; exact tw_app hn]
      by_cases hr : okB r k = true
      · have hr' := okB_iff.mp hr
        have h2 : 46 ∉ r := fun q => by rw [okB_no q] at hr; cases hr
        have z := ra2_of hr'.2.1 hr'.2.2 hng
        cases ho : okB a 8 with
        | true => rw [ho] at z; simp [h2, hr, hk, z]
        | false => rw [ho] at z; simp [h2, hr, hk, z]
      · have hr : okB r k = false := by simpa using hr
        simp [hr, hin]
  · rw [splitL_no h1, List.nil_append]
    show (if okB (bod l) (lim k) = true then some (sgn (ngv l) (dval (bod l ++ zs k))) else none) = _
    by_cases hk : k = 0
    · subst hk
      rw [if_pos rfl]
      unfold rw_ lim
      rw [if_pos rfl]
      show (if okB (bod l) 9 = true then some (sgn (ngv l) (dval (bod l ++ []))) else none) = _
      rw [List.append_nil]
    · rw [if_neg hk]
      obtain ⟨p, el, np, hp⟩ := bod_pre (l := l) (a := bod l) (t := []) (List.append_nil _).symm
      rw [List.append_nil] at el
      have hn : 46 ∉ l := by
        rw [el]
        intro q
        rcases List.mem_append.mp q with q | q
        · exact np q
        · exact h1 q
      unfold ra
      rw [tw_self hn, dw_nil hn, if_neg (fun (q : 46 ∈ l ∧ okB (List.drop 1 []) k = false) => hn q.1)]
      have z := ra2_of (p := p) (a := bod l) (r := []) (k := k) (n := ngv l) (by simp) rfl hp
      rw [← el] at z
      show _ = ra2 l [] k
      rw [z]
      unfold lim
      rw [if_neg hk]
      rfl
end LW

namespace LW
open PySem PySem.Spec PyProof.Rows L2 DL
/-- figures of m, at least c -/
def Y (m c : Nat) : List Nat := if m = 0 then zs c else zs (c - (TL.numL m).length) ++ TL.numL m
theorem zs_succ (n : Nat) : zs (n + 1) = zs n ++ [48] := by
  unfold zs
  rw [List.replicate_succ']
theorem Y_step {m c : Nat} (h : 0 < m ∨ 0 < c) : Y m c = Y (m / 10) (c - 1) ++ [48 + m % 10] := by
  unfold Y
  by_cases h0 : m = 0
  · subst h0
    obtain ⟨d, rfl⟩ : ∃ d, c = d + 1 := ⟨c - 1, by omega⟩
    rw [if_pos rfl, if_pos (by decide), zs_succ]
    rfl
  · rw [if_neg h0]
    by_cases h1 : m < 10
    · have e1 : m / 10 = 0 := by omega
      have e2 : m % 10 = m := by omega
      rw [e1, e2, if_pos rfl, TL.numL_lt h1]
      rfl
    · rw [if_neg (by omega), TL.numL_step (by omega : 10 ≤ m), List.length_append, ← List.append_assoc]
      congr 2
      congr 1
      rw [List.length_cons, List.length_nil]
      omega
theorem Y_zero (c : Nat) : Y 0 (c + 1) = zs (c + 1 - (TL.numL 0).length) ++ TL.numL 0 := by
  rw [TL.numL_lt (by decide)]
  show zs (c + 1) = zs c ++ [48]
  exact zs_succ c
def fig (m k : Nat) : List Nat := zs (k + 1 - (TL.numL m).length) ++ TL.numL m
theorem Y_fig (m k : Nat) : Y m (k + 1) = fig m k := by
  by_cases h : m = 0
  · subst h; exact Y_zero k
  · unfold Y fig
    rw [if_neg h]
theorem shown_loop {μ : Store} {s0 : Option Dv} {k : Nat} : ∀ {fuel m : Nat} {f : List Nat} {s4 : Option Dv}, (m = 0 ∨ (TL.numL m).length < fuel) → k + 1 - f.length < fuel → f.length + fuel ≤ 1000 → m < 10 ^ 40 →
    ∃ s4', whileL u1_l_shown w1_l_shown fuel [s0, some (.d (.int k)), some (.d (.int m)), some (.d (.str (T f))), s4] μ = .ok (.nx [s0, some (.d (.int k)), some (.d (.int 0)), some (.d (.str (T (Y m (k + 1 - f.length) ++ f)))), s4']) μ
  | 0, m, f, s4, _, h, _, _ => by omega
  | n + 1, m, f, s4, h1, h2, h3, h4 => by
    have hl : f.length ≤ 16000000 := by omega
    by_cases hgo : 0 < m ∨ 0 < k + 1 - f.length
    · have hnl : 0 < (TL.numL m).length := List.length_pos_iff.mpr (TL.numL_ne m)
      have hd1 : m / 10 = 0 ∨ (TL.numL (m / 10)).length < n := by
        by_cases q : m < 10
        · exact .inl (by omega)
        · right
          rcases h1 with h1 | h1
          · omega
          · rw [TL.numL_step (by omega : 10 ≤ m), List.length_append, List.length_cons, List.length_nil] at h1
            omega
      have hdiv : m / 10 < 10 ^ 40 := Nat.lt_of_le_of_lt (Nat.div_le_self _ _) h4
      obtain ⟨s4', e⟩ := shown_loop (μ := μ) (s0 := s0) (k := k) (fuel := n) (m := m / 10) (f := (48 + m % 10) :: f) (s4 := s4) hd1 (by rw [List.length_cons]; omega) (by rw [List.length_cons]; omega) hdiv
      refine ⟨s4', ?_⟩
      rw [Y_step hgo, List.append_assoc]
      rw [List.length_cons] at e
      have e9 : k + 1 - (f.length + 1) = k + 1 - f.length - 1 := by omega
      rw [e9] at e
      show _ = Out.ok (Fl.nx [s0, _, _, some (.d (.str (T (Y (m / 10) (k + 1 - f.length - 1) ++ ((48 + m % 10) :: f))))), s4']) μ
      rw [← e]
      have cd : cDiv (m : Int) 10 = true := by unfold cDiv; decide
      have cm : cMul ((m : Int) / 10) 10 = true := cMul_ok (a := 200) (b := 4) (by
        have : ((m : Int) / 10).natAbs = m / 10 := by omega
        rw [this]
        exact Nat.lt_trans hdiv (by decide)) (by decide) (by decide) (by decide) (by decide)
      have ei : (m : Int) - (m : Int) / 10 * 10 = (m : Int) % 10 := by omega
      have hx : dIx (.d (.str (T [48, 49, 50, 51, 52, 53, 54, 55, 56, 57]))) (.d (.int ((m : Int) % 10))) μ = .ok (.d (.str (T [48 + m % 10]))) μ := by
        have q : (m : Int) % 10 = ((m % 10 : Nat) : Int) := by omega
        rw [q]
        refine dIx_s (by decide) (atI_nn ?_)
        have : ∀ d < 10, ([48, 49, 50, 51, 52, 53, 54, 55, 56, 57] : List Nat)[d]? = some (48 + d) := by decide
        exact this _ (Nat.mod_lt _ (by decide))
      have hv : (m : Int) / 10 = ((m / 10 : Nat) : Int) := by omega
      have ha := dAdd_ss (μ := μ) (l := [48 + m % 10]) (m := f) (by rw [List.length_cons, List.length_nil]; omega)
      rw [List.cons_append, List.nil_append] at ha
      refine whileL_go (μ1 := μ) ?_ ?_
      · unfold u1_l_shown
        by_cases hm : 0 < m
        · simp -implicitDefEqProofs (disch := first | assumption | rfl | exact cMod_of (by decide) | omega | (simp only [List.length_take, List.length_drop, List.length_append, List.length_cons, List.length_nil, List.length_map, List.length_range, List.length_replicate]; omega) | solve_by_elim) [show ¬ m = 0 by omega]
        · simp -implicitDefEqProofs (disch := first | assumption | rfl | exact cMod_of (by decide) | omega | (simp only [List.length_take, List.length_drop, List.length_append, List.length_cons, List.length_nil, List.length_map, List.length_range, List.length_replicate]; omega) | solve_by_elim) [show m = 0 by omega, show (f.length : Int) < k + 1 by omega]
      · unfold w1_l_shown r1_l_shown
        rw [← hv]
        simp -implicitDefEqProofs (disch := first | assumption | rfl | exact cMod_of (by decide) | omega | (simp only [List.length_take, List.length_drop, List.length_append, List.length_cons, List.length_nil, List.length_map, List.length_range, List.length_replicate]; omega) | solve_by_elim) [cd, cm, ei, hx, ha]
    · have hm : m = 0 := by omega
      subst hm
      refine ⟨s4, ?_⟩
      have e9 : k + 1 - f.length = 0 := by omega
      rw [e9]
      show _ = Out.ok (Fl.nx [s0, _, _, some (.d (.str (T f))), s4]) μ
      refine whileL_end ?_
      unfold u1_l_shown
      simp -implicitDefEqProofs (disch := first | assumption | rfl | exact cMod_of (by decide) | omega | (simp only [List.length_take, List.length_drop, List.length_append, List.length_cons, List.length_nil, List.length_map, List.length_range, List.length_replicate]; omega) | solve_by_elim) [show ¬ (f.length : Int) < k + 1 by omega]
def sh (n : Int) (k : Nat) : List Nat := (if n < 0 then [45] else []) ++ (fig n.natAbs k).take ((fig n.natAbs k).length - k) ++ (if k = 0 then [] else 46 :: (fig n.natAbs k).drop ((fig n.natAbs k).length - k))
theorem fig_len (m k : Nat) : k + 1 ≤ (fig m k).length := by
  unfold fig zs
  rw [List.length_append, List.length_replicate]
  omega
theorem fig_len2 {m k : Nat} (hk : k ≤ 10) (hm : m < 10 ^ 40) : (fig m k).length ≤ 60 := by
  have := TL.numL_len (n := m) (k := 40) (by decide) hm
  unfold fig zs
  rw [List.length_append, List.length_replicate]
  omega
theorem F_l_shown_eq {μ : Store} {n : Int} {k : Nat} (hn : n.natAbs < 10 ^ 40) (hk : k ≤ 10) : F_l_shown [.d (.int n), .d (.int k)] μ = .ok (.d (.str (T (sh n k)))) μ := by
  have hlen := TL.numL_len (n := n.natAbs) (k := 40) (by decide) hn
  obtain ⟨s4', e⟩ := shown_loop (μ := μ) (s0 := some (.d (.int n))) (k := k) (fuel := 100) (m := n.natAbs) (f := []) (s4 := none) (.inr (by omega)) (by simp; omega) (by decide) hn
  rw [List.length_nil, Nat.sub_zero, Y_fig, List.append_nil] at e
  have hl := fig_len n.natAbs k
  have hl2 := fig_len2 (m := n.natAbs) hk hn
  have hl3 : (fig n.natAbs k).length ≤ 16000000 := by omega
  have ab : (if n < 0 then -n else n) = (n.natAbs : Int) := by split <;> omega
  have c1 := cut_to (fig n.natAbs k) (k := ((fig n.natAbs k).length : Int) - k) (by omega)
  have c2 := cut_from (fig n.natAbs k) (k := ((fig n.natAbs k).length : Int) - k) (by omega)
  rw [show (((fig n.natAbs k).length : Int) - k).toNat = (fig n.natAbs k).length - k by omega] at c1 c2
  have lt1 : ((fig n.natAbs k).take ((fig n.natAbs k).length - k)).length ≤ 60 := by rw [List.length_take]; omega
  have lt2 : ((fig n.natAbs k).drop ((fig n.natAbs k).length - k)).length ≤ 60 := by rw [List.length_drop]; omega
  unfold F_l_shown B_l_shown r4_l_shown r3_l_shown r2_l_shown sh
  rw [runB_eq]
  generalize fig n.natAbs k = F at *
  generalize hA : F.take (F.length - k) = A at *
  generalize hR : F.drop (F.length - k) = R at *
  have p0 := dMulA_s0 (μ := μ) (z := [45])
  have p1 := dMulA_s1 (μ := μ) (z := [45]) (by decide)
  have a0 := dAdd_ss (μ := μ) (l := []) (m := A) (by rw [List.length_nil]; omega)
  have a1 := dAdd_ss (μ := μ) (l := [45]) (m := A) (by rw [List.length_cons, List.length_nil]; omega)
  have b0 := dAdd_ss (μ := μ) (l := A) (m := [46]) (by rw [List.length_cons, List.length_nil]; omega)
  have b1 := dAdd_ss (μ := μ) (l := 45 :: A) (m := [46]) (by rw [List.length_cons, List.length_cons, List.length_nil]; omega)
  have d0 := dAdd_ss (μ := μ) (l := A ++ [46]) (m := R) (by rw [List.length_append, List.length_cons, List.length_nil]; omega)
  have d1 := dAdd_ss (μ := μ) (l := 45 :: (A ++ [46])) (m := R) (by rw [List.length_cons, List.length_append, List.length_cons, List.length_nil]; omega)
  rw [List.nil_append] at a0
  rw [List.cons_append, List.nil_append] at a1
  rw [List.cons_append] at b1
  have ez : ((0 : Nat) : Int) = 0 := rfl
  by_cases hn0 : n < 0
  · have en : (n.natAbs : Int) = -n := by omega
    rw [en] at e
    by_cases hk0 : k = 0
    · subst hk0
      rw [ez] at e
      rw [ez, Int.sub_zero] at c1
      simp -implicitDefEqProofs (disch := first | assumption | rfl | exact cMod_of (by decide) | omega | (simp only [List.length_take, List.length_drop, List.length_append, List.length_cons, List.length_nil, List.length_map, List.length_range, List.length_replicate]; omega) | solve_by_elim) [e, hn0, p1, c1, a1]
    · simp -implicitDefEqProofs (disch := first | assumption | rfl | exact cMod_of (by decide) | omega | (simp only [List.length_take, List.length_drop, List.length_append, List.length_cons, List.length_nil, List.length_map, List.length_range, List.length_replicate]; omega) | solve_by_elim) [e, hn0, p1, c1, c2, a1, b1, d1, hk0, show (0 : Int) < k by omega, Nat.pos_of_ne_zero hk0]
  · have en : (n.natAbs : Int) = n := by omega
    rw [en] at e
    by_cases hk0 : k = 0
    · subst hk0
      rw [ez] at e
      rw [ez, Int.sub_zero] at c1
      simp -implicitDefEqProofs (disch := first | assumption | rfl | exact cMod_of (by decide) | omega | (simp only [List.length_take, List.length_drop, List.length_append, List.length_cons, List.length_nil, List.length_map, List.length_range, List.length_replicate]; omega) | solve_by_elim) [e, hn0, p0, c1, a0]
    · simp -implicitDefEqProofs (disch := first | assumption | rfl | exact cMod_of (by decide) | omega | (simp only [List.length_take, List.length_drop, List.length_append, List.length_cons, List.length_nil, List.length_map, List.length_range, List.length_replicate]; omega) | solve_by_elim) [e, hn0, p0, c1, c2, a0, b0, d0, hk0, show (0 : Int) < k by omega, Nat.pos_of_ne_zero hk0]
theorem fig_0 (m : Nat) : fig m 0 = TL.numL m := by
  unfold fig
  have : 0 < (TL.numL m).length := List.length_pos_iff.mpr (TL.numL_ne m)
  rw [show 0 + 1 - (TL.numL m).length = 0 by omega]
  rfl
theorem sh_0 (n : Int) : sh n 0 = (if n < 0 then [45] else []) ++ TL.numL n.natAbs := by
  unfold sh
  rw [fig_0, Nat.sub_zero, List.take_length, if_pos rfl, List.append_nil]
theorem F_written_amount_eq {μ : Store} {n : Int} {k : Nat} (hn : n.natAbs < 10 ^ 40) (hk0 : 0 < k) (hk : k ≤ 10) : F_written_amount [.d (.int n), .d (.int k)] μ = .ok (.d (.str (T (sh n k)))) μ := by
  have hlog : n.natAbs.log2 < 1920 := by
    have h2 : n.natAbs < 2 ^ 200 := Nat.lt_trans hn (by decide)
    have := log2_lt (i := n) (n := 200) h2 (by decide)
    omega
  have hl := fig_len n.natAbs k
  have hl2 := fig_len2 (m := n.natAbs) hk hn
  have hl3 : (fig n.natAbs k).length ≤ 16000000 := by omega
  have ab : (if n < 0 then -n else n) = (n.natAbs : Int) := by split <;> omega
  have zst := dStr_n (μ := μ) hlog
  have zpad : dPadF Txt.rjustF (.d (.str (T (TL.numL n.natAbs)))) [.d (.int ((k : Int) + 1)), .d (.str (T [48]))] μ = .ok (.d (.str (T (fig n.natAbs k)))) μ := dRjust (k := k + 1) (by omega)
  have c1 := cut_toN (fig n.natAbs k) (k := -(k : Int)) (by omega)
  have c2 := cut_fromN (fig n.natAbs k) (k := -(k : Int)) (by omega)
  rw [show (-(-(k : Int))).toNat = k by omega] at c1 c2
  have lt1 : ((fig n.natAbs k).take ((fig n.natAbs k).length - k)).length ≤ 60 := by rw [List.length_take]; omega
  have lt2 : ((fig n.natAbs k).drop ((fig n.natAbs k).length - k)).length ≤ 60 := by rw [List.length_drop]; omega
  unfold F_written_amount B_written_amount r2_written_amount r1_written_amount sh
  rw [runB_eq, if_neg (show ¬ k = 0 by omega)]
  generalize fig n.natAbs k = F at *
  generalize hA : F.take (F.length - k) = A at *
  generalize hR : F.drop (F.length - k) = R at *
  have a0 := dAdd_ss (μ := μ) (l := []) (m := A) (by rw [List.length_nil]; omega)
  have a1 := dAdd_ss (μ := μ) (l := [45]) (m := A) (by rw [List.length_cons, List.length_nil]; omega)
  have b0 := dAdd_ss (μ := μ) (l := A) (m := [46]) (by rw [List.length_cons, List.length_nil]; omega)
  have b1 := dAdd_ss (μ := μ) (l := 45 :: A) (m := [46]) (by rw [List.length_cons, List.length_cons, List.length_nil]; omega)
  have d0 := dAdd_ss (μ := μ) (l := A ++ [46]) (m := R) (by rw [List.length_append, List.length_cons, List.length_nil]; omega)
  have d1 := dAdd_ss (μ := μ) (l := 45 :: (A ++ [46])) (m := R) (by rw [List.length_cons, List.length_append, List.length_cons, List.length_nil]; omega)
  rw [List.nil_append] at a0
  rw [List.cons_append, List.nil_append] at a1
  rw [List.cons_append] at b1
  by_cases hn0 : n < 0
  · have en : (n.natAbs : Int) = -n := by omega
    rw [en] at zst
    simp -implicitDefEqProofs (disch := first | assumption | rfl | exact cMod_of (by decide) | omega | (simp only [List.length_take, List.length_drop, List.length_append, List.length_cons, List.length_nil, List.length_map, List.length_range, List.length_replicate]; omega) | solve_by_elim) [zst, zpad, hn0, c1, c2, a1, b1, d1]
  · have en : (n.natAbs : Int) = n := by omega
    rw [en] at zst
    simp -implicitDefEqProofs (disch := first | assumption | rfl | exact cMod_of (by decide) | omega | (simp only [List.length_take, List.length_drop, List.length_append, List.length_cons, List.length_nil, List.length_map, List.length_range, List.length_replicate]; omega) | solve_by_elim) [zst, zpad, hn0, c1, c2, a0, b0, d0]
theorem F_written_eq {μ : Store} {n : Int} {k : Nat} (hn : n.natAbs < 10 ^ 40) (hk : k ≤ 10) : F_written [.d (.tuple (fm k)), .d (.int n)] μ = .ok (.d (.str (T (sh n k)))) μ := by
  have hlog : n.natAbs.log2 < 1920 := by
    have h2 : n.natAbs < 2 ^ 200 := Nat.lt_trans hn (by decide)
    have := log2_lt (i := n) (n := 200) h2 (by decide)
    omega
  unfold F_written B_written fm
  rw [runB_eq]
  by_cases h : k = 0
  · subst h
    rw [if_pos rfl, sh_0]
    have z : dStr [.d (.int n)] μ = .ok (.d (.str (T ((if n < 0 then [45] else []) ++ TL.numL n.natAbs)))) μ := by
      by_cases hn0 : n < 0
      · rw [if_pos hn0]
        have z := dStr_m (μ := μ) (n := n.natAbs) (by omega) hlog
        rw [show -(n.natAbs : Int) = n by omega] at z
        exact z
      · rw [if_neg hn0]
        have z := dStr_n (μ := μ) hlog
        rw [show (n.natAbs : Int) = n by omega] at z
        exact z
    simp -implicitDefEqProofs (disch := first | assumption | rfl | exact cMod_of (by decide) | omega | (simp only [List.length_take, List.length_drop, List.length_append, List.length_cons, List.length_nil, List.length_map, List.length_range, List.length_replicate]; omega) | solve_by_elim) [r2_written, r1_written, z]
  · have z := F_written_amount_eq (μ := μ) hn (Nat.pos_of_ne_zero h) hk
    have i0 : dIx (.d (.list [.int k])) (.d (.int 0)) μ = .ok (.d (.int k)) μ := dIx_l (atI_nn (k := 0) rfl)
    rw [if_neg h]
    simp -implicitDefEqProofs (disch := first | assumption | rfl | exact cMod_of (by decide) | omega | (simp only [List.length_take, List.length_drop, List.length_append, List.length_cons, List.length_nil, List.length_map, List.length_range, List.length_replicate]; omega) | solve_by_elim) [r2_written, r1_written, z, i0]
/-! ### what is shown reads back -/
theorem numL_dig (m : Nat) : (TL.numL m).all isDig = true := by
  rw [List.all_eq_true]
  intro c hc
  exact isDig_iff.mpr (TL.numL_digits m c hc)
theorem fig_dig (m k : Nat) : (fig m k).all isDig = true := by
  unfold fig
  rw [dig_app, dig_zs, numL_dig]
  rfl
theorem fold_zs (n : Nat) : (zs n).foldl (fun acc c => acc * 10 + (c - 48)) 0 = 0 := by
  induction n with
  | zero => rfl
  | succ n ih =>
    rw [zs_succ, List.foldl_append, ih]
    rfl
theorem fig_val (m k : Nat) : dval (fig m k) = m := by
  unfold fig dval NumText.digitsVal
  rw [List.foldl_append, fold_zs]
  exact TL.numL_val m
theorem bod_sgn {n : Int} {a : List Nat} {t : List Nat} (ha : a ≠ []) (hd : a.all isDig = true) : bod ((if n < 0 then [45] else []) ++ (a ++ t)) = a ++ t ∧ ngv ((if n < 0 then [45] else []) ++ (a ++ t)) = decide (n < 0) := by
  by_cases hn : n < 0
  · rw [if_pos hn, decide_eq_true hn]
    exact ⟨rfl, rfl⟩
  · rw [if_neg hn, List.nil_append, decide_eq_false hn]
    cases a with
    | nil => exact absurd rfl ha
    | cons c r =>
      rw [List.all_cons, Bool.and_eq_true] at hd
      have hc := isDig_iff.mp hd.1
      constructor
      · show bod (c :: (r ++ t)) = _
        rw [bod, if_neg (by omega)]
        rfl
      · show decide (c = 45) = false
        exact decide_eq_false (by omega)
theorem sgn_abs (n : Int) : sgn (decide (n < 0)) n.natAbs = n := by
  unfold sgn
  by_cases hn : n < 0
  · rw [decide_eq_true hn, if_pos rfl]; omega
  · rw [decide_eq_false hn, if_neg (by simp)]; omega
theorem no46 {l : List Nat} (h : l.all isDig = true) : 46 ∉ l := fun q => absurd (List.all_eq_true.mp h 46 q) (by decide)
theorem rd_sh {n : Int} {k : Nat} (hn : n.natAbs < 10 ^ (lim k + k)) : rd (sh n k) k = some n := by
  rw [← du_rd]
  have hb : (TL.numL n.natAbs).length ≤ lim k + k := TL.numL_len (by unfold lim; split <;> omega) hn
  have hl := fig_len n.natAbs k
  have hd := fig_dig n.natAbs k
  have hv := fig_val n.natAbs k
  have hl2 : (fig n.natAbs k).length ≤ lim k + k := by
    unfold fig zs
    rw [List.length_append, List.length_replicate]
    have h8 : 8 ≤ lim k := by unfold lim; split <;> omega
    omega
  unfold sh
  generalize fig n.natAbs k = F at *
  by_cases hk : k = 0
  · subst hk
    rw [Nat.sub_zero, List.take_length, if_pos rfl, List.append_nil]
    obtain ⟨z1, z2⟩ := bod_sgn (n := n) (a := F) (t := []) (by intro e; rw [e] at hl; simp at hl) hd
    rw [List.append_nil] at z1 z2
    unfold du
    rw [z1, z2, splitL_no (no46 hd)]
    show (if okB ([] ++ F) (lim 0) = true then some (sgn (decide (n < 0)) (dval ([] ++ F ++ zs 0))) else none) = _
    have hok : okB F (lim 0) = true := okB_iff.mpr ⟨by omega, hl2, hd⟩
    rw [List.nil_append, if_pos hok]
    show some (sgn _ (dval (F ++ []))) = _
    rw [List.append_nil, hv, sgn_abs]
  · rw [if_neg hk, List.append_assoc]
    have hdA : (F.take (F.length - k)).all isDig = true := by
      rw [List.all_eq_true] at hd ⊢
      exact fun c hc => hd c (List.mem_of_mem_take hc)
    have hdR : (F.drop (F.length - k)).all isDig = true := by
      rw [List.all_eq_true] at hd ⊢
      exact fun c hc => hd c (List.mem_of_mem_drop hc)
    have hlA : (F.take (F.length - k)).length = F.length - k := by rw [List.length_take]; omega
    have hlR : (F.drop (F.length - k)).length = k := by rw [List.length_drop]; omega
    have hAR : F.take (F.length - k) ++ F.drop (F.length - k) = F := List.take_append_drop _ _
    have h8 : lim k = 8 := if_neg hk
    rw [h8] at hl2
    generalize F.take (F.length - k) = A at *
    generalize F.drop (F.length - k) = R at *
    obtain ⟨z1, z2⟩ := bod_sgn (n := n) (a := A) (t := 46 :: R) (by intro e; rw [e] at hlA; simp at hlA; omega) hdA
    unfold du
    rw [z1, z2, splitL_app (no46 hdA), splitL_no (no46 hdR)]
    show (if k ≠ 0 ∧ okB ([] ++ A) 8 = true ∧ okB ([] ++ R) k = true then some (sgn (decide (n < 0)) (dval ([] ++ A ++ ([] ++ R ++ zs (k - ([] ++ R).length))))) else none) = _
    rw [List.nil_append, List.nil_append, if_pos ⟨hk, okB_iff.mpr ⟨by omega, by omega, hdA⟩, okB_iff.mpr ⟨by omega, by omega, hdR⟩⟩, hlR, Nat.sub_self]
    show some (sgn _ (dval (A ++ (R ++ [])))) = _
    rw [List.append_nil, hAR, hv, sgn_abs]
/-- what was read is small -/
theorem foldl_lt : ∀ (l : List Nat) (v : Nat), l.all isDig = true → l.foldl (fun acc c => acc * 10 + (c - 48)) v < (v + 1) * 10 ^ l.length
  | [], v, _ => by rw [List.foldl_nil, List.length_nil]; omega
  | c :: l, v, h => by
    rw [List.all_cons, Bool.and_eq_true] at h
    have hc := isDig_iff.mp h.1
    have := foldl_lt l (v * 10 + (c - 48)) h.2
    rw [List.foldl_cons, List.length_cons, Nat.pow_succ, Nat.mul_comm (10 ^ l.length) 10, ← Nat.mul_assoc]
    exact Nat.lt_of_lt_of_le this (Nat.mul_le_mul_right _ (by omega))
theorem dval_lt {l : List Nat} (h : l.all isDig = true) : dval l < 10 ^ l.length := by
  have := foldl_lt l 0 h
  rw [Nat.zero_add, Nat.one_mul] at this
  exact this
theorem sgn_small {k : Bool} {n b : Nat} (h : n < b) : (sgn k n).natAbs < b := by
  unfold sgn
  split <;> omega
theorem du_small {l : List Nat} {k : Nat} {n : Int} (h : du l k = some n) : n.natAbs < 10 ^ (lim k + k) := by
  unfold du at h
  split at h
  · rename_i a _
    split at h
    · rename_i q
      injection h with h
      subst h
      have q := okB_iff.mp q
      refine sgn_small (Nat.lt_of_lt_of_le (dval_lt ?_) (Nat.pow_le_pow_right (by decide) ?_))
      · rw [dig_app, q.2.2, dig_zs]; rfl
      · rw [List.length_append]; unfold zs; rw [List.length_replicate]; omega
    · cases h
  · rename_i a r _
    split at h
    · rename_i q
      injection h with h
      subst h
      have q1 := okB_iff.mp q.2.1
      have q2 := okB_iff.mp q.2.2
      have h8 : lim k = 8 := if_neg q.1
      refine sgn_small (Nat.lt_of_lt_of_le (dval_lt ?_) (Nat.pow_le_pow_right (by decide) ?_))
      · rw [dig_app, dig_app, q1.2.2, q2.2.2, dig_zs]; rfl
      · rw [List.length_append, List.length_append]; unfold zs; rw [List.length_replicate]; omega
    · cases h
  · cases h
end LW

namespace LW
open PySem PySem.Spec PyProof.Rows L2 DL
theorem oI_small {o : Option Int} {b : Nat} (h : ∀ n, o = some n → n.natAbs < 10 ^ b) (hb : b ≤ 40) : smallD (oI o) = true := by
  cases o with
  | none => rfl
  | some n => exact decide_eq_true (Nat.lt_of_lt_of_le (h n rfl) (Nat.pow_le_pow_right (by decide) hb))
theorem eq_ss_no {n : Bool} {x : Str} {μ : Store} : dEq true (.d (.str x)) (.d (.str x)) μ = .ok (.d (.bool false)) μ := by
  rw [dEq_dd rfl]
  have : PyData.eqv (.str x) (.str x) = true := by show (x == x) = true; exact beq_self_eq_true x
  rw [this]
  rfl
theorem strOk_T {x : List Nat} (ha : ascii x) : PyData.strOk (T x) = true := by
  unfold PyData.strOk
  simp [tl_T, T]
  intro c hc
  have := ha c hc
  omega
theorem eq_ll_no {x : List Nat} {μ : Store} (ha : ascii x) : dEq true (.d (.list [.str (T x), .str (T x)])) (.d (.list [.str (T x), .str (T x)])) μ = .ok (.d (.bool false)) μ := by
  rw [dEq_dd (by simp [scalD, SeqAt.shaped, PyData.canLay0, PyData.canLayAll0, PyData.depth, PyData.depthAll, strOk_T ha])]
  have : PyData.eqv (.list [.str (T x), .str (T x)]) (.list [.str (T x), .str (T x)]) = true := by
    simp [PyData.eqv, PyData.eqvAll]
  rw [this]
  rfl
theorem sh_len {n : Int} {k : Nat} (hn : n.natAbs < 10 ^ 40) (hk : k ≤ 10) : (sh n k).length ≤ 100 := by
  have h := fig_len2 (m := n.natAbs) hk hn
  have h2 : ∀ c : List Nat, c.length ≤ 1 → ((c ++ (fig n.natAbs k).take ((fig n.natAbs k).length - k)).length ≤ 61) := fun c hc => by
    rw [List.length_append, List.length_take]; omega
  unfold sh
  rw [List.length_append]
  have h3 := h2 (if n < 0 then [45] else []) (by split <;> simp)
  have h4 : (if k = 0 then [] else 46 :: (fig n.natAbs k).drop ((fig n.natAbs k).length - k)).length ≤ 20 := by
    split
    · simp
    · rw [List.length_cons, List.length_drop]; omega
  omega
theorem sh_ascii (n : Int) (k : Nat) : ascii (sh n k) := by
  have h := ascii_dig (fig_dig n.natAbs k)
  unfold sh
  refine (ascii.app ?_ (h.take _)).app ?_
  · split
    · intro c hc; simp at hc; omega
    · intro c hc; simp at hc
  · split
    · intro c hc; simp at hc
    · intro c hc
      rcases List.mem_cons.mp hc with hc | hc
      · omega
      · exact h.drop _ c hc
/-- one kind of reading -/
theorem turn1 {μ : Store} {l : List Nat} (hl : l.length ≤ 50) {k : Nat} (hk : k ≤ 4) {s0 s1 s2 s3 s6 s7 s8 : Option Dv} : ∃ s6' s7' s8', w1_law [s0, s1, s2, s3, some (.d (.str (T l))), some (.d (.int k)), s6, s7, s8] μ = .ok (.nx [s0, s1, s2, s3, some (.d (.str (T l))), some (.d (.int k)), s6', s7', s8']) μ := by
  have z1 := F_l_due_eq (μ := μ) hl hk
  have z2 := F_read_as_eq (μ := μ) (l := l) (k := k) (by omega) (by omega)
  rw [du_rd] at z1
  have hsm : ∀ n, rd l k = some n → n.natAbs < 10 ^ (lim k + k) := fun n h => du_small (by rw [du_rd]; exact h)
  have hl13 : lim k + k ≤ 13 := by unfold lim; split <;> omega
  have hs : smallD (oI (rd l k)) = true := oI_small hsm (by omega)
  have r2 := dRepr_2 (μ := μ) hs
  have q2 := eq_ss_no (n := true) (x := (PyData.list [oI (rd l k), oI (rd l k)]).shown) (μ := μ)
  have e6 : (sSet 6 (eIf (tV (e2 (dEq false) (eVar 5) (eC (.d (.int 0))))) (eN dTup (aCons (eC (.d (.str "whole"))) (aNil))) (eN dTup (aCons (eC (.d (.str "amount"))) (aCons (eVar 5) (aNil)))))) [s0, s1, s2, s3, some (.d (.str (T l))), some (.d (.int k)), s6, s7, s8] μ = .ok (.nx [s0, s1, s2, s3, some (.d (.str (T l))), some (.d (.int k)), some (.d (.tuple (fm k))), s7, s8]) μ := by
    unfold fm
    by_cases hk0 : k = 0
    · subst hk0; simp -implicitDefEqProofs (disch := first | assumption | rfl | exact cMod_of (by decide) | omega | (simp only [List.length_take, List.length_drop, List.length_append, List.length_cons, List.length_nil, List.length_map, List.length_range, List.length_replicate]; omega) | solve_by_elim) []
    · simp -implicitDefEqProofs (disch := first | assumption | rfl | exact cMod_of (by decide) | omega | (simp only [List.length_take, List.length_drop, List.length_append, List.length_cons, List.length_nil, List.length_map, List.length_range, List.length_replicate]; omega) | solve_by_elim) [hk0]
  have main : ∃ s8', r5_law [s0, s1, s2, s3, some (.d (.str (T l))), some (.d (.int k)), some (.d (.tuple (fm k))), s7, s8] μ = .ok (.nx [s0, s1, s2, s3, some (.d (.str (T l))), some (.d (.int k)), some (.d (.tuple (fm k))), some (.d (oI (rd l k))), s8']) μ := by
    cases h : rd l k with
    | none =>
      rw [h] at z1 z2 r2 q2
      rw [oI_n] at z1 z2 r2 q2
      refine ⟨s8, ?_⟩
      unfold r5_law r4_law r3_law
      simp -implicitDefEqProofs (disch := first | assumption | rfl | exact cMod_of (by decide) | omega | (simp only [List.length_take, List.length_drop, List.length_append, List.length_cons, List.length_nil, List.length_map, List.length_range, List.length_replicate]; omega) | solve_by_elim) [z1, z2, r2, q2, oI_n, pickL, isNone]
    | some n =>
      have hn : n.natAbs < 10 ^ 40 := Nat.lt_of_lt_of_le (hsm n h) (Nat.pow_le_pow_right (by decide) (by omega))
      have z3 := F_l_shown_eq (μ := μ) (k := k) hn (by omega)
      have z5 := F_read_as_eq (μ := μ) (l := sh n k) (k := k) (sh_len hn (by omega)) (by omega)
      rw [rd_sh (hsm n h), oI_s] at z5
      rw [h] at z1 z2 r2 q2 hs
      rw [oI_s] at z1 z2 r2 q2 hs
      have r1 := dRepr_1 (μ := μ) hs
      have q1 := eq_ss_no (n := true) (x := (PyData.int n).shown) (μ := μ)
      have q3 := eq_ll_no (x := sh n k) (μ := μ) (sh_ascii n k)
      have z4 := F_written_eq (μ := μ) (k := k) hn (by omega)
      refine ⟨some (.d (.str (T (sh n k)))), ?_⟩
      unfold r5_law r4_law r3_law r2_law r1_law
      simp -implicitDefEqProofs (disch := first | assumption | rfl | exact cMod_of (by decide) | omega | (simp only [List.length_take, List.length_drop, List.length_append, List.length_cons, List.length_nil, List.length_map, List.length_range, List.length_replicate]; omega) | solve_by_elim) [z1, z2, z3, z4, z5, r1, r2, q1, q2, q3, oI_s, pickL, isNone]
  obtain ⟨s8', main⟩ := main
  refine ⟨some (.d (.tuple (fm k))), some (.d (oI (rd l k))), s8', ?_⟩
  unfold w1_law
  rw [sSeq_r, e6, bind_ok, seqF_nx]
  exact main
theorem rng_at {n k : Nat} {b : Dv} (h : ((List.range n).map fun (i : Nat) => Dv.d (.int i))[k]? = some b) : b = .d (.int k) ∧ k < n := by
  rw [List.getElem?_map] at h
  cases q : (List.range n)[k]? with
  | none => rw [q] at h; cases h
  | some j =>
    rw [q] at h
    have hk := (List.getElem?_eq_some_iff.mp q)
    obtain ⟨hk, e⟩ := hk
    rw [List.getElem_range] at e
    rw [List.length_range] at hk
    subst e
    cases h
    exact ⟨rfl, hk⟩
theorem turns5 {μ : Store} {l : List Nat} (hl : l.length ≤ 50) {s0 s1 s2 s3 s5 s6 s7 s8 : Option Dv} : ∃ s5' s6' s7' s8', r6_law [s0, s1, s2, s3, some (.d (.str (T l))), s5, s6, s7, s8] μ = .ok (.nx [s0, s1, s2, s3, some (.d (.str (T l))), s5', s6', s7', s8']) μ := by
  obtain ⟨ρ', μ', e, hμ, s5', s6', s7', s8', hρ⟩ := forL_inv (g := gN 5) (mb := w1_law) (fun _ ρ μ' => μ' = μ ∧ ∃ s5 s6 s7 s8, ρ = [s0, s1, s2, s3, some (.d (.str (T l))), s5, s6, s7, s8]) (bs := (List.range 5).map fun (i : Nat) => Dv.d (.int i)) (i := 0) (ρ := [s0, s1, s2, s3, some (.d (.str (T l))), s5, s6, s7, s8]) (μ := μ) ⟨rfl, s5, s6, s7, s8, rfl⟩ (by
    rintro k b ρ μ1 _ hb ⟨rfl, s5, s6, s7, s8, rfl⟩
    rw [Nat.sub_zero] at hb
    obtain ⟨rfl, hk⟩ := rng_at hb
    obtain ⟨s6', s7', s8', e⟩ := turn1 (μ := μ1) hl (k := k) (by omega) (s0 := s0) (s1 := s1) (s2 := s2) (s3 := s3) (s6 := s6) (s7 := s7) (s8 := s8)
    exact ⟨_, _, _, _, rfl, e, rfl, some (.d (.int k)), s6', s7', s8', rfl⟩)
  refine ⟨s5', s6', s7', s8', ?_⟩
  subst hμ hρ
  have hr := rng1_r (μ := μ') (j := 5) rfl
  unfold r6_law
  simp -implicitDefEqProofs (disch := first | assumption | rfl | exact cMod_of (by decide) | omega | (simp only [List.length_take, List.length_drop, List.length_append, List.length_cons, List.length_nil, List.length_map, List.length_range, List.length_replicate]; omega) | solve_by_elim) [hr]
  exact e
end LW

namespace LW
open PySem PySem.Spec PyProof.Rows L2 DL
def L7 : List (List Nat) := [[], [], [45], [43], [45], [43, 45], [45, 45]]
def M7 : List (List Nat) := [[48], [49], [57, 57, 57, 57, 57, 57, 57, 57], [57, 57, 57, 57, 57, 57, 57, 57, 57], [48, 48, 48, 48, 48, 48, 48, 48], [49, 48, 48, 48, 48, 48, 48, 48, 48], [49, 48, 48, 48, 48, 48, 48, 48, 48, 48]]
theorem L7_ok : ∀ l ∈ L7, l.length ≤ 2 ∧ ascii l := by unfold ascii; decide
theorem M7_ok : ∀ l ∈ M7, l.length ≤ 10 ∧ ascii l := by unfold ascii; decide
theorem big_7 (ds : List D) (h : ds.length ≤ 1000) : ds.length ≤ sizeLine := Nat.le_trans (Nat.le_trans h (by decide)) line_big
theorem signs_mid {h m : Nat} {μ : Store} (H : Hnd h m μ) (hm : m ≤ 1000000) {p f : List Nat} (hp : p.length ≤ 2) (hp2 : ascii p) (hf : f.length ≤ 10) (hf2 : ascii f) (s3 s4 s5 s6 s7 : Option Dv) (h5 : s5 = none) (h6 : s6 = none) (h7 : s7 = none) : ∃ (l : List Nat) (μ' : Store), r8_l_signs [some (.c h), some (.d (.str (T p))), some (.d (.str (T f))), s3, s4, s5, s6, s7] μ = .ok (.rt (.d (.str (T l)))) μ' ∧ l.length ≤ 40 ∧ Hnd h (m + 500) μ' ∧ Oth h μ μ' := by
  subst h5 h6 h7
  obtain ⟨w, μ1, z1, w0, w1, H1, O1⟩ := F_take H (by omega) (n := 5) (by decide) (by decide)
  have ap := dAdd_ss (μ := μ1) (l := p) (m := f) (by omega)
  by_cases hw3 : w < 3
  · obtain ⟨g, μ2, z2, g1, g2, H2, O2⟩ := F_figures H1 (by omega) (k := 5) (by decide) (by decide)
    have lg : g.length ≤ 5 := by omega
    have ag := ascii_dig g1
    have b1 := dAdd_ss (μ := μ1) (l := p ++ f) (m := [46]) (by rw [List.length_append, List.length_cons, List.length_nil]; omega)
    have b2 := dAdd_ss (μ := μ2) (l := p ++ (f ++ [46])) (m := g) (by rw [List.length_append, List.length_append, List.length_cons, List.length_nil]; omega)
    rw [List.append_assoc] at b1
    have a46 : ascii [46] := by unfold ascii; decide
    obtain ⟨l, μ3, z3, l1, l2, H3, O3⟩ := signs_tail H2 (by omega) (f := p ++ (f ++ [46]) ++ g) (by simp only [List.length_append, List.length_cons, List.length_nil]; omega) ((hp2.app (hf2.app a46)).app ag) (some (.d (.str (T p)))) (some (.d (.str (T f)))) (some (.d (.int w)))
    refine ⟨l, μ3, ?_, l1, H3.mono (by omega), (O1.trans O2).trans O3⟩
    unfold r8_l_signs r7_l_signs r6_l_signs r5_l_signs
    rw [List.append_assoc, List.append_assoc] at b2 z3
    simp -implicitDefEqProofs (disch := first | assumption | rfl | exact cMod_of (by decide) | omega | (simp only [List.length_take, List.length_drop, List.length_append, List.length_cons, List.length_nil, List.length_map, List.length_range, List.length_replicate]; omega) | solve_by_elim) [z1, z2, ap, b1, b2, hw3, show ¬ w = 4 by omega]
    exact z3
  · by_cases hw4 : w = 4
    · subst hw4
      obtain ⟨g, μ2, z2, hg, H2, O2⟩ := F_pick_t H1 (by omega) M7 (by decide) (by decide)
      obtain ⟨lg, ag⟩ := M7_ok g hg
      have zl : dList [.d (.str (T [48])), .d (.str (T [49])), .d (.str (T [57, 57, 57, 57, 57, 57, 57, 57])), .d (.str (T [57, 57, 57, 57, 57, 57, 57, 57, 57])), .d (.str (T [48, 48, 48, 48, 48, 48, 48, 48])), .d (.str (T [49, 48, 48, 48, 48, 48, 48, 48, 48])), .d (.str (T [49, 48, 48, 48, 48, 48, 48, 48, 48, 48]))] μ1 = .ok (.d (.list (M7.map fun l => .str (T l)))) μ1 := dList_d (ds := M7.map fun l => PyData.str (T l)) (big_7 _ (by decide))
      have b1 := dAdd_ss (μ := μ2) (l := p) (m := g) (by omega)
      obtain ⟨l, μ3, z3, l1, l2, H3, O3⟩ := signs_tail H2 (by omega) (f := p ++ g) (by rw [List.length_append]; omega) (hp2.app ag) (some (.d (.str (T p)))) (some (.d (.str (T f)))) (some (.d (.int 4)))
      refine ⟨l, μ3, ?_, l1, H3.mono (by omega), (O1.trans O2).trans O3⟩
      unfold r8_l_signs r7_l_signs r6_l_signs r5_l_signs
      simp -implicitDefEqProofs (disch := first | assumption | rfl | exact cMod_of (by decide) | omega | (simp only [List.length_take, List.length_drop, List.length_append, List.length_cons, List.length_nil, List.length_map, List.length_range, List.length_replicate]; omega) | solve_by_elim) [z1, z2, ap, zl, b1]
      exact z3
    · obtain ⟨l, μ3, z3, l1, l2, H3, O3⟩ := signs_tail H1 (by omega) (f := p ++ f) (by rw [List.length_append]; omega) (hp2.app hf2) (some (.d (.str (T p)))) (some (.d (.str (T f)))) (some (.d (.int w)))
      refine ⟨l, μ3, ?_, l1, H3.mono (by omega), O1.trans O3⟩
      unfold r8_l_signs r7_l_signs r6_l_signs r5_l_signs
      simp -implicitDefEqProofs (disch := first | assumption | rfl | exact cMod_of (by decide) | omega | (simp only [List.length_take, List.length_drop, List.length_append, List.length_cons, List.length_nil, List.length_map, List.length_range, List.length_replicate]; omega) | solve_by_elim) [z1, ap, hw3, hw4]
      exact z3
theorem F_signs {h m : Nat} {μ : Store} (H : Hnd h m μ) (hm : m ≤ 900000) : ∃ (l : List Nat) (μ' : Store), F_l_signs [.c h] μ = .ok (.d (.str (T l))) μ' ∧ l.length ≤ 40 ∧ Hnd h (m + 1000) μ' ∧ Oth h μ μ' := by
  obtain ⟨p, μ1, z1, hp, H1, O1⟩ := F_pick_t H (by omega) L7 (by decide) (by decide)
  obtain ⟨lp, ap⟩ := L7_ok p hp
  obtain ⟨f, μ2, z2, f1, f2, H2, O2⟩ := F_figures H1 (by omega) (k := 10) (by decide) (by decide)
  obtain ⟨l, μ3, z3, l1, H3, O3⟩ := signs_mid H2 (by omega) lp ap (f := f) (by omega) (ascii_dig f1) none none none none none rfl rfl rfl
  refine ⟨l, μ3, ?_, l1, H3.mono (by omega), (O1.trans O2).trans O3⟩
  have zl : dList [.d (.str (T [])), .d (.str (T [])), .d (.str (T [45])), .d (.str (T [43])), .d (.str (T [45])), .d (.str (T [43, 45])), .d (.str (T [45, 45]))] μ = .ok (.d (.list (L7.map fun l => .str (T l)))) μ := dList_d (ds := L7.map fun l => PyData.str (T l)) (big_7 _ (by decide))
  unfold F_l_signs B_l_signs
  rw [runB_eq]
  simp -implicitDefEqProofs (disch := first | assumption | rfl | exact cMod_of (by decide) | omega | (simp only [List.length_take, List.length_drop, List.length_append, List.length_cons, List.length_nil, List.length_map, List.length_range, List.length_replicate]; omega) | solve_by_elim) [z1, z2, zl, z3]
/-! ### a new hand -/
theorem cPow_10 (j : Int) (h : (decide (0 ≤ j) && decide (j ≤ 1000000)) = true) : cPow 10 j = true := by
  unfold cPow
  rw [h]
  decide
theorem F_hand {ns : List Int} {k : Nat} {μ : Store} (hn : ns.length ≤ 1000) (hk : k ≤ 100) : ∃ a b : Int, F_l_hand [.d (.list (ns.map PyData.int)), .d (.int k)] μ = .ok (.c μ.length) (μ ++ [.lst [.d (.int a), .d (.int b), .d (.int 0)]]) ∧ Hnd μ.length 0 (μ ++ [.lst [.d (.int a), .d (.int b), .d (.int 0)]]) := by
  have main : ∀ cell : Int, ∃ a b : Int, r2_l_hand [some (.d (.list (ns.map PyData.int))), some (.d (.int k)), some (.d (.int cell)), none] μ = .ok (.rt (.c μ.length)) (μ ++ [.lst [.d (.int a), .d (.int b), .d (.int 0)]]) ∧ Hnd μ.length 0 (μ ++ [.lst [.d (.int a), .d (.int b), .d (.int 0)]]) := fun cell => by
    have p18 : dPow (.d (.int 10)) (.d (.int 18)) μ = .ok (.d (.int (10 ^ 18))) μ := dNum_ii (cPow_10 18 rfl)
    have p60 : dPow (.d (.int 10)) (.d (.int 60)) μ = .ok (.d (.int (10 ^ 60))) μ := dNum_ii (cPow_10 60 rfl)
    have m1 : dMulA (.d (.int (10 ^ 60))) (.d (.int (10 ^ 60))) μ = .ok (.d (.int (10 ^ 120))) μ := dMulA_ii (by decide)
    have m2 : dMulA (.d (.int (10 ^ 120))) (.d (.int (10 ^ 60))) μ = .ok (.d (.int (10 ^ 180))) μ := dMulA_ii (by decide)
    have ab : dAbs [.d (.int cell)] μ = .ok (.d (.int cell.natAbs)) μ := by
      rw [dAbs_i]
      have : (if cell < 0 then -cell else cell) = (cell.natAbs : Int) := by split <;> omega
      rw [this]
    have md : dMod (.d (.int cell.natAbs)) (.d (.int (10 ^ 180))) μ = .ok (.d (.int (cell.natAbs % 10 ^ 180))) μ := dNum_ii (cMod_of (by decide))
    have q1 : (cell % 2305843009213693951).natAbs < 2 ^ 62 := by omega
    have c1 : cMul (cell % 2305843009213693951) 1000003 = true := cMul_ok (a := 62) (b := 30) q1 (by decide) (by decide) (by decide) (by decide)
    have c2 : cMul 7919 (k : Int) = true := cMul_ok (a := 20) (b := 20) (by decide) (by omega) (by decide) (by decide) (by decide)
    have cl : ∀ b : Int, ∀ a : Int, cList [.d (.int a), .d (.int b), .d (.int 0)] μ = .ok (.c μ.length) (μ ++ [.lst [.d (.int a), .d (.int b), .d (.int 0)]]) := fun b a => by
      unfold cList
      exact if_pos (Nat.le_trans (by show 3 ≤ 16000000; decide) line_big)
    have hb : ∀ x : Int, 0 ≤ x % 2305843009213693921 ∧ x % 2305843009213693921 < 2 ^ 62 := fun x => by omega
    have fin : ∀ a x : Int, 0 ≤ a → a.natAbs < 2 ^ 700 → Hnd μ.length 0 (μ ++ [.lst [.d (.int a), .d (.int (x % 2305843009213693921)), .d (.int 0)]]) := fun a x h1 h2 => ⟨a, _, 0, by simp, h1, h2, (hb x).1, (hb x).2, by decide, by decide⟩
    by_cases hc : (10 : Int) ^ 18 ≤ cell.natAbs
    · have dec : dGe (.d (.int cell.natAbs)) (.d (.int (10 ^ 18))) μ = .ok (.d (.bool true)) μ := by
        show Out.ok (Dv.d (PyData.bool (decide ((cell.natAbs : Int) ≥ 10 ^ 18)))) μ = _
        rw [decide_eq_true hc]
      refine ⟨cell.natAbs % 10 ^ 180, (cell % 2305843009213693951 * 1000003 + 7919 * k + 29) % 2305843009213693921, ?_, fin _ _ (Int.emod_nonneg _ (by decide)) ?_⟩
      · generalize hA : (cell.natAbs : Int) % 10 ^ 180 = A at *
        generalize hB : (cell % 2305843009213693951 * 1000003 + 7919 * (k : Int) + 29) % 2305843009213693921 = B at *
        generalize (cell.natAbs : Int) = NA at *
        generalize (10 : Int) ^ 18 = p at *
        generalize (10 : Int) ^ 60 = p at *
        generalize (10 : Int) ^ 120 = p at *
        generalize (10 : Int) ^ 180 = p at *
        unfold r2_l_hand r1_l_hand
        simp -implicitDefEqProofs (disch := first | assumption | rfl | exact cMod_of (by decide) | omega | (simp only [List.length_take, List.length_drop, List.length_append, List.length_cons, List.length_nil, List.length_map, List.length_range, List.length_replicate]; omega) | solve_by_elim) [-dAbs_i, p18, p60, m1, m2, ab, dec, md, c1, c2, hB, cl]
      · have h0 : 0 ≤ (cell.natAbs : Int) % 10 ^ 180 := Int.emod_nonneg _ (by decide)
        have h1 : (cell.natAbs : Int) % 10 ^ 180 < 10 ^ 180 := Int.emod_lt_of_pos _ (by decide)
        have h2 : (10 : Int) ^ 180 < 2 ^ 700 := by decide
        omega
    · have dec : dGe (.d (.int cell.natAbs)) (.d (.int (10 ^ 18))) μ = .ok (.d (.bool false)) μ := by
        show Out.ok (Dv.d (PyData.bool (decide ((cell.natAbs : Int) ≥ 10 ^ 18)))) μ = _
        rw [decide_eq_false hc]
      refine ⟨0, (cell % 2305843009213693951 * 1000003 + 7919 * k + 29) % 2305843009213693921, ?_, fin _ _ (by decide) (by decide)⟩
      generalize hB : (cell % 2305843009213693951 * 1000003 + 7919 * (k : Int) + 29) % 2305843009213693921 = B at *
      generalize (cell.natAbs : Int) = NA at *
      generalize (10 : Int) ^ 18 = p at *
      unfold r2_l_hand r1_l_hand
      simp -implicitDefEqProofs (disch := first | assumption | rfl | exact cMod_of (by decide) | omega | (simp only [List.length_take, List.length_drop, List.length_append, List.length_cons, List.length_nil, List.length_map, List.length_range, List.length_replicate]; omega) | solve_by_elim) [-dAbs_i, p18, ab, dec, c1, c2, hB, cl]
  unfold F_l_hand B_l_hand
  rw [runB_eq]
  by_cases hlt : k < ns.length
  · obtain ⟨a, b, z, hh⟩ := main ns[k]
    refine ⟨a, b, ?_, hh⟩
    have i0 : dIx (.d (.list (ns.map PyData.int))) (.d (.int k)) μ = .ok (.d (.int ns[k])) μ := dIx_l (atI_nn (by simp [hlt]))
    simp -implicitDefEqProofs (disch := first | assumption | rfl | exact cMod_of (by decide) | omega | (simp only [List.length_take, List.length_drop, List.length_append, List.length_cons, List.length_nil, List.length_map, List.length_range, List.length_replicate]; omega) | solve_by_elim) [hlt, i0, z, show (k : Int) < ns.length by omega]
  · obtain ⟨a, b, z, hh⟩ := main 0
    refine ⟨a, b, ?_, hh⟩
    simp -implicitDefEqProofs (disch := first | assumption | rfl | exact cMod_of (by decide) | omega | (simp only [List.length_take, List.length_drop, List.length_append, List.length_cons, List.length_nil, List.length_map, List.length_range, List.length_replicate]; omega) | solve_by_elim) [hlt, z, show ¬ (k : Int) < ns.length by omega]
end LW

namespace LW
open PySem PySem.Spec PyProof.Rows L2 DL
/-- thirty texts, each read five ways -/
theorem turns30 {h : Nat} {μ : Store} (H : Hnd h 0 μ) {s0 s1 s3 s4 s5 s6 s7 s8 : Option Dv} : ∃ (s3' s4' s5' s6' s7' s8' : Option Dv) (μ' : Store), r7_law [s0, s1, some (.c h), s3, s4, s5, s6, s7, s8] μ = .ok (.nx [s0, s1, some (.c h), s3', s4', s5', s6', s7', s8']) μ' ∧ Oth h μ μ' := by
  obtain ⟨ρ', μ', e, ⟨hH, hO⟩, s3', s4', s5', s6', s7', s8', hρ⟩ := forL_inv (g := gN 3) (mb := w2_law) (fun i ρ μ' => (Hnd h (1000 * i) μ' ∧ Oth h μ μ') ∧ ∃ s3 s4 s5 s6 s7 s8, ρ = [s0, s1, some (.c h), s3, s4, s5, s6, s7, s8]) (bs := (List.range 30).map fun (i : Nat) => Dv.d (.int i)) (i := 0) (ρ := [s0, s1, some (.c h), s3, s4, s5, s6, s7, s8]) (μ := μ) ⟨⟨H, Oth.refl _ _⟩, s3, s4, s5, s6, s7, s8, rfl⟩ (by
    rintro k b ρ μ1 _ hb ⟨⟨H1, O1⟩, s3, s4, s5, s6, s7, s8, rfl⟩
    rw [Nat.sub_zero] at hb
    obtain ⟨rfl, hk⟩ := rng_at hb
    obtain ⟨l, μ2, z2, l2, H2, O2⟩ := F_signs H1 (by omega)
    obtain ⟨s5', s6', s7', s8', z3⟩ := turns5 (μ := μ2) (l := l) (by omega) (s0 := s0) (s1 := s1) (s2 := some (.c h)) (s3 := some (.d (.int k))) (s5 := s5) (s6 := s6) (s7 := s7) (s8 := s8)
    refine ⟨[s0, s1, some (.c h), some (.d (.int k)), s4, s5, s6, s7, s8], μ1, _, μ2, rfl, ?_, ⟨?_, O1.trans O2⟩, some (.d (.int k)), some (.d (.str (T l))), s5', s6', s7', s8', rfl⟩
    · unfold w2_law
      simp -implicitDefEqProofs (disch := first | assumption | rfl | exact cMod_of (by decide) | omega | (simp only [List.length_take, List.length_drop, List.length_append, List.length_cons, List.length_nil, List.length_map, List.length_range, List.length_replicate]; omega) | solve_by_elim) [z2]
      exact z3
    · rw [Nat.mul_add]; exact H2)
  refine ⟨s3', s4', s5', s6', s7', s8', μ', ?_, hO⟩
  subst hρ
  have hr := rng1_r (μ := μ) (j := 30) rfl
  unfold r7_law
  simp -implicitDefEqProofs (disch := first | assumption | rfl | exact cMod_of (by decide) | omega | (simp only [List.length_take, List.length_drop, List.length_append, List.length_cons, List.length_nil, List.length_map, List.length_range, List.length_replicate]; omega) | solve_by_elim) [hr]
  exact e
theorem law_right : ∀ ns : List Int, ns.length ≤ 63 → (∀ i ∈ ns, Builtin.Int.intBits i ≤ 1048576) → ∃ μ', F_law [.d (.list (ns.map PyData.int))] [] = .ok (.d (.bool true)) μ' := by
  intro ns hn hi
  have step : ∀ (s1 s2 s3 s4 s5 s6 s7 s8 : Option Dv) (k : Nat) (μ : Store), k ≤ 100 → ∃ (s2' s3' s4' s5' s6' s7' s8' : Option Dv) (μ' : Store), w3_law [some (.d (.list (ns.map PyData.int))), some (.d (.int k)), s2, s3, s4, s5, s6, s7, s8] μ = .ok (.nx [some (.d (.list (ns.map PyData.int))), some (.d (.int k)), s2', s3', s4', s5', s6', s7', s8']) μ' := by
    intro s1 s2 s3 s4 s5 s6 s7 s8 k μ hk
    obtain ⟨a, b, z1, H⟩ := F_hand (ns := ns) (k := k) (μ := μ) (by omega) hk
    obtain ⟨s3', s4', s5', s6', s7', s8', μ', z2, _⟩ := turns30 H (s0 := some (.d (.list (ns.map PyData.int)))) (s1 := some (.d (.int k))) (s3 := s3) (s4 := s4) (s5 := s5) (s6 := s6) (s7 := s7) (s8 := s8)
    refine ⟨some (.c μ.length), s3', s4', s5', s6', s7', s8', μ', ?_⟩
    unfold w3_law
    simp -implicitDefEqProofs (disch := first | assumption | rfl | exact cMod_of (by decide) | omega | (simp only [List.length_take, List.length_drop, List.length_append, List.length_cons, List.length_nil, List.length_map, List.length_range, List.length_replicate]; omega) | solve_by_elim) [z1]
    exact z2
  have main : ∀ j : Nat, j ≤ 100 → ∃ (ρ' : DEnv) (μ' : Store), forL (gN 1) w3_law ((List.range j).map fun (i : Nat) => Dv.d (.int i)) [some (.d (.list (ns.map PyData.int))), none, none, none, none, none, none, none, none] [] = .ok (.nx ρ') μ' := by
    intro j hj
    obtain ⟨ρ', μ', e, _⟩ := forL_inv (g := gN 1) (mb := w3_law) (fun i ρ _ => ∃ s1 s2 s3 s4 s5 s6 s7 s8, ρ = [some (.d (.list (ns.map PyData.int))), s1, s2, s3, s4, s5, s6, s7, s8]) (bs := (List.range j).map fun (i : Nat) => Dv.d (.int i)) (i := 0) (ρ := [some (.d (.list (ns.map PyData.int))), none, none, none, none, none, none, none, none]) (μ := []) ⟨none, none, none, none, none, none, none, none, rfl⟩ (by
      rintro k b ρ μ1 _ hb ⟨s1, s2, s3, s4, s5, s6, s7, s8, rfl⟩
      rw [Nat.sub_zero] at hb
      obtain ⟨rfl, hk⟩ := rng_at hb
      obtain ⟨s2', s3', s4', s5', s6', s7', s8', μ', e⟩ := step s1 s2 s3 s4 s5 s6 s7 s8 k μ1 (by omega)
      exact ⟨_, _, _, _, rfl, e, _, _, _, _, _, _, _, _, rfl⟩)
    exact ⟨ρ', μ', e⟩
  have hj : ∃ j : Nat, (if (if (ns.length : Int) < 4 then (ns.length : Int) else 4) > 1 then (if (ns.length : Int) < 4 then (ns.length : Int) else 4) else 1) = (j : Int) ∧ j ≤ 4 := ⟨_, (Int.toNat_of_nonneg (by split <;> split <;> omega)).symm, by split <;> split <;> omega⟩
  obtain ⟨j, ej, hj⟩ := hj
  obtain ⟨ρ', μ', e⟩ := main j (by omega)
  refine ⟨μ', ?_⟩
  have hok : okR (j : Int) = true := by unfold okR; simp; omega
  have hr := rng1_r (μ := []) hok
  rw [Int.toNat_natCast] at hr
  unfold F_law B_law r8_law
  rw [runB_eq]
  have hmin : dMin [.d (.int 4), .d (.int ns.length)] [] = .ok (.d (.int (if (ns.length : Int) < 4 then (ns.length : Int) else 4))) [] := rfl
  have hmax : dMax [.d (.int 1), .d (.int (if (ns.length : Int) < 4 then (ns.length : Int) else 4))] [] = .ok (.d (.int j)) [] := by rw [dMax_i, ej]
  generalize (if (ns.length : Int) < 4 then (ns.length : Int) else 4) = q at *
  simp -implicitDefEqProofs (disch := first | assumption | rfl | exact cMod_of (by decide) | omega | (simp only [List.length_take, List.length_drop, List.length_append, List.length_cons, List.length_nil, List.length_map, List.length_range, List.length_replicate]; omega) | solve_by_elim) [-dMin_i, -dMax_i, hmin, hmax, hr, e]
end LW

namespace LW
open PySem PySem.Spec PyProof.Rows L2 DL
/-! ### 4. What the top has written, the head -/
theorem all_mk {l : PySem.W.OpenLaw} {w : World} {K : PySem.W.Frag} {h : Heap} {mg : Str → Option Value} {fa : Addr} (X : K.In h) (G : h.Ns mainGlobals mg) (hfa : mg "law" = some (.ref fa))
    {f_l_hand : Addr} {oc_l_hand kV_l_hand dc_l_hand pm_l_hand cd_l_hand ct_l_hand : Value} {od_l_hand an_l_hand : Option Addr} {sl_l_hand : Array (Option Value)}
    {f_l_take : Addr} {oc_l_take kV_l_take dc_l_take pm_l_take cd_l_take ct_l_take : Value} {od_l_take an_l_take : Option Addr} {sl_l_take : Array (Option Value)}
    {f_l_pick : Addr} {oc_l_pick kV_l_pick dc_l_pick pm_l_pick cd_l_pick ct_l_pick : Value} {od_l_pick an_l_pick : Option Addr} {sl_l_pick : Array (Option Value)}
    {f_l_figures : Addr} {oc_l_figures kV_l_figures dc_l_figures pm_l_figures cd_l_figures ct_l_figures : Value} {od_l_figures an_l_figures : Option Addr} {sl_l_figures : Array (Option Value)}
    {f_l_signs : Addr} {oc_l_signs kV_l_signs dc_l_signs pm_l_signs cd_l_signs ct_l_signs : Value} {od_l_signs an_l_signs : Option Addr} {sl_l_signs : Array (Option Value)}
    {f_l_sum : Addr} {oc_l_sum kV_l_sum dc_l_sum pm_l_sum cd_l_sum ct_l_sum : Value} {od_l_sum an_l_sum : Option Addr} {sl_l_sum : Array (Option Value)}
    {f_l_due : Addr} {oc_l_due kV_l_due dc_l_due pm_l_due cd_l_due ct_l_due : Value} {od_l_due an_l_due : Option Addr} {sl_l_due : Array (Option Value)}
    {f_are_figures : Addr} {oc_are_figures kV_are_figures dc_are_figures pm_are_figures cd_are_figures ct_are_figures : Value} {od_are_figures an_are_figures : Option Addr} {sl_are_figures : Array (Option Value)}
    {f_read_whole : Addr} {oc_read_whole kV_read_whole dc_read_whole pm_read_whole cd_read_whole ct_read_whole : Value} {od_read_whole an_read_whole : Option Addr} {sl_read_whole : Array (Option Value)}
    {f_read_amount : Addr} {oc_read_amount kV_read_amount dc_read_amount pm_read_amount cd_read_amount ct_read_amount : Value} {od_read_amount an_read_amount : Option Addr} {sl_read_amount : Array (Option Value)}
    {f_read_day : Addr} {oc_read_day kV_read_day dc_read_day pm_read_day cd_read_day ct_read_day : Value} {od_read_day an_read_day : Option Addr} {sl_read_day : Array (Option Value)}
    {f_read_as : Addr} {oc_read_as kV_read_as dc_read_as pm_read_as cd_read_as ct_read_as : Value} {od_read_as an_read_as : Option Addr} {sl_read_as : Array (Option Value)}
    {f_l_shown : Addr} {oc_l_shown kV_l_shown dc_l_shown pm_l_shown cd_l_shown ct_l_shown : Value} {od_l_shown an_l_shown : Option Addr} {sl_l_shown : Array (Option Value)}
    {f_written_amount : Addr} {oc_written_amount kV_written_amount dc_written_amount pm_written_amount cd_written_amount ct_written_amount : Value} {od_written_amount an_written_amount : Option Addr} {sl_written_amount : Array (Option Value)}
    {f_written_day : Addr} {oc_written_day kV_written_day dc_written_day pm_written_day cd_written_day ct_written_day : Value} {od_written_day an_written_day : Option Addr} {sl_written_day : Array (Option Value)}
    {f_written : Addr} {oc_written kV_written dc_written pm_written cd_written ct_written : Value} {od_written an_written : Option Addr} {sl_written : Array (Option Value)}
    {f_law : Addr} {oc_law kV_law dc_law pm_law cd_law ct_law : Value} {od_law an_law : Option Addr} {sl_law : Array (Option Value)}
    {tk_FIGURES : Tok}
    {tk_MOST_AMOUNT : Tok}
    {tk_MOST_WHOLE : Tok}
    (a_l_hand : PySem.W.nsIn K mainGlobals "_law_hand" = some (some (.ref f_l_hand)))
    (l_l_hand : K.lookup f_l_hand = some ⟨oc_l_hand, od_l_hand, .func (PySem.W.fnOf "_law_hand" "_law_hand" (defArgs s_l_hand) (defBody s_l_hand) (defScope s_l_hand) .none kV_l_hand dc_l_hand pm_l_hand an_l_hand cd_l_hand ct_l_hand), sl_l_hand⟩)
    (c_l_hand : PySem.W.codeIn K cd_l_hand "_law_hand" = true)
    (k_l_hand : PySem.W.keepIn K (.ref f_l_hand) = true)
    (a_l_take : PySem.W.nsIn K mainGlobals "_law_take" = some (some (.ref f_l_take)))
    (l_l_take : K.lookup f_l_take = some ⟨oc_l_take, od_l_take, .func (PySem.W.fnOf "_law_take" "_law_take" (defArgs s_l_take) (defBody s_l_take) (defScope s_l_take) .none kV_l_take dc_l_take pm_l_take an_l_take cd_l_take ct_l_take), sl_l_take⟩)
    (c_l_take : PySem.W.codeIn K cd_l_take "_law_take" = true)
    (k_l_take : PySem.W.keepIn K (.ref f_l_take) = true)
    (a_l_pick : PySem.W.nsIn K mainGlobals "_law_pick" = some (some (.ref f_l_pick)))
    (l_l_pick : K.lookup f_l_pick = some ⟨oc_l_pick, od_l_pick, .func (PySem.W.fnOf "_law_pick" "_law_pick" (defArgs s_l_pick) (defBody s_l_pick) (defScope s_l_pick) .none kV_l_pick dc_l_pick pm_l_pick an_l_pick cd_l_pick ct_l_pick), sl_l_pick⟩)
    (c_l_pick : PySem.W.codeIn K cd_l_pick "_law_pick" = true)
    (k_l_pick : PySem.W.keepIn K (.ref f_l_pick) = true)
    (a_l_figures : PySem.W.nsIn K mainGlobals "_law_figures" = some (some (.ref f_l_figures)))
    (l_l_figures : K.lookup f_l_figures = some ⟨oc_l_figures, od_l_figures, .func (PySem.W.fnOf "_law_figures" "_law_figures" (defArgs s_l_figures) (defBody s_l_figures) (defScope s_l_figures) .none kV_l_figures dc_l_figures pm_l_figures an_l_figures cd_l_figures ct_l_figures), sl_l_figures⟩)
    (c_l_figures : PySem.W.codeIn K cd_l_figures "_law_figures" = true)
    (k_l_figures : PySem.W.keepIn K (.ref f_l_figures) = true)
    (a_l_signs : PySem.W.nsIn K mainGlobals "_law_signs" = some (some (.ref f_l_signs)))
    (l_l_signs : K.lookup f_l_signs = some ⟨oc_l_signs, od_l_signs, .func (PySem.W.fnOf "_law_signs" "_law_signs" (defArgs s_l_signs) (defBody s_l_signs) (defScope s_l_signs) .none kV_l_signs dc_l_signs pm_l_signs an_l_signs cd_l_signs ct_l_signs), sl_l_signs⟩)
    (c_l_signs : PySem.W.codeIn K cd_l_signs "_law_signs" = true)
    (k_l_signs : PySem.W.keepIn K (.ref f_l_signs) = true)
    (a_l_sum : PySem.W.nsIn K mainGlobals "_law_sum" = some (some (.ref f_l_sum)))
    (l_l_sum : K.lookup f_l_sum = some ⟨oc_l_sum, od_l_sum, .func (PySem.W.fnOf "_law_sum" "_law_sum" (defArgs s_l_sum) (defBody s_l_sum) (defScope s_l_sum) .none kV_l_sum dc_l_sum pm_l_sum an_l_sum cd_l_sum ct_l_sum), sl_l_sum⟩)
    (c_l_sum : PySem.W.codeIn K cd_l_sum "_law_sum" = true)
    (k_l_sum : PySem.W.keepIn K (.ref f_l_sum) = true)
    (a_l_due : PySem.W.nsIn K mainGlobals "_law_due" = some (some (.ref f_l_due)))
    (l_l_due : K.lookup f_l_due = some ⟨oc_l_due, od_l_due, .func (PySem.W.fnOf "_law_due" "_law_due" (defArgs s_l_due) (defBody s_l_due) (defScope s_l_due) .none kV_l_due dc_l_due pm_l_due an_l_due cd_l_due ct_l_due), sl_l_due⟩)
    (c_l_due : PySem.W.codeIn K cd_l_due "_law_due" = true)
    (k_l_due : PySem.W.keepIn K (.ref f_l_due) = true)
    (a_are_figures : PySem.W.nsIn K mainGlobals "are_figures" = some (some (.ref f_are_figures)))
    (l_are_figures : K.lookup f_are_figures = some ⟨oc_are_figures, od_are_figures, .func (PySem.W.fnOf "are_figures" "are_figures" (defArgs s_are_figures) (defBody s_are_figures) (defScope s_are_figures) .none kV_are_figures dc_are_figures pm_are_figures an_are_figures cd_are_figures ct_are_figures), sl_are_figures⟩)
    (c_are_figures : PySem.W.codeIn K cd_are_figures "are_figures" = true)
    (k_are_figures : PySem.W.keepIn K (.ref f_are_figures) = true)
    (a_read_whole : PySem.W.nsIn K mainGlobals "read_whole" = some (some (.ref f_read_whole)))
    (l_read_whole : K.lookup f_read_whole = some ⟨oc_read_whole, od_read_whole, .func (PySem.W.fnOf "read_whole" "read_whole" (defArgs s_read_whole) (defBody s_read_whole) (defScope s_read_whole) .none kV_read_whole dc_read_whole pm_read_whole an_read_whole cd_read_whole ct_read_whole), sl_read_whole⟩)
    (c_read_whole : PySem.W.codeIn K cd_read_whole "read_whole" = true)
    (k_read_whole : PySem.W.keepIn K (.ref f_read_whole) = true)
    (a_read_amount : PySem.W.nsIn K mainGlobals "read_amount" = some (some (.ref f_read_amount)))
    (l_read_amount : K.lookup f_read_amount = some ⟨oc_read_amount, od_read_amount, .func (PySem.W.fnOf "read_amount" "read_amount" (defArgs s_read_amount) (defBody s_read_amount) (defScope s_read_amount) .none kV_read_amount dc_read_amount pm_read_amount an_read_amount cd_read_amount ct_read_amount), sl_read_amount⟩)
    (c_read_amount : PySem.W.codeIn K cd_read_amount "read_amount" = true)
    (k_read_amount : PySem.W.keepIn K (.ref f_read_amount) = true)
    (a_read_day : PySem.W.nsIn K mainGlobals "read_day" = some (some (.ref f_read_day)))
    (l_read_day : K.lookup f_read_day = some ⟨oc_read_day, od_read_day, .func (PySem.W.fnOf "read_day" "read_day" (defArgs s_read_day) (defBody s_read_day) (defScope s_read_day) .none kV_read_day dc_read_day pm_read_day an_read_day cd_read_day ct_read_day), sl_read_day⟩)
    (c_read_day : PySem.W.codeIn K cd_read_day "read_day" = true)
    (k_read_day : PySem.W.keepIn K (.ref f_read_day) = true)
    (a_read_as : PySem.W.nsIn K mainGlobals "read_as" = some (some (.ref f_read_as)))
    (l_read_as : K.lookup f_read_as = some ⟨oc_read_as, od_read_as, .func (PySem.W.fnOf "read_as" "read_as" (defArgs s_read_as) (defBody s_read_as) (defScope s_read_as) .none kV_read_as dc_read_as pm_read_as an_read_as cd_read_as ct_read_as), sl_read_as⟩)
    (c_read_as : PySem.W.codeIn K cd_read_as "read_as" = true)
    (k_read_as : PySem.W.keepIn K (.ref f_read_as) = true)
    (a_l_shown : PySem.W.nsIn K mainGlobals "_law_shown" = some (some (.ref f_l_shown)))
    (l_l_shown : K.lookup f_l_shown = some ⟨oc_l_shown, od_l_shown, .func (PySem.W.fnOf "_law_shown" "_law_shown" (defArgs s_l_shown) (defBody s_l_shown) (defScope s_l_shown) .none kV_l_shown dc_l_shown pm_l_shown an_l_shown cd_l_shown ct_l_shown), sl_l_shown⟩)
    (c_l_shown : PySem.W.codeIn K cd_l_shown "_law_shown" = true)
    (k_l_shown : PySem.W.keepIn K (.ref f_l_shown) = true)
    (a_written_amount : PySem.W.nsIn K mainGlobals "written_amount" = some (some (.ref f_written_amount)))
    (l_written_amount : K.lookup f_written_amount = some ⟨oc_written_amount, od_written_amount, .func (PySem.W.fnOf "written_amount" "written_amount" (defArgs s_written_amount) (defBody s_written_amount) (defScope s_written_amount) .none kV_written_amount dc_written_amount pm_written_amount an_written_amount cd_written_amount ct_written_amount), sl_written_amount⟩)
    (c_written_amount : PySem.W.codeIn K cd_written_amount "written_amount" = true)
    (k_written_amount : PySem.W.keepIn K (.ref f_written_amount) = true)
    (a_written_day : PySem.W.nsIn K mainGlobals "written_day" = some (some (.ref f_written_day)))
    (l_written_day : K.lookup f_written_day = some ⟨oc_written_day, od_written_day, .func (PySem.W.fnOf "written_day" "written_day" (defArgs s_written_day) (defBody s_written_day) (defScope s_written_day) .none kV_written_day dc_written_day pm_written_day an_written_day cd_written_day ct_written_day), sl_written_day⟩)
    (c_written_day : PySem.W.codeIn K cd_written_day "written_day" = true)
    (k_written_day : PySem.W.keepIn K (.ref f_written_day) = true)
    (a_written : PySem.W.nsIn K mainGlobals "written" = some (some (.ref f_written)))
    (l_written : K.lookup f_written = some ⟨oc_written, od_written, .func (PySem.W.fnOf "written" "written" (defArgs s_written) (defBody s_written) (defScope s_written) .none kV_written dc_written pm_written an_written cd_written ct_written), sl_written⟩)
    (c_written : PySem.W.codeIn K cd_written "written" = true)
    (k_written : PySem.W.keepIn K (.ref f_written) = true)
    (a_law : PySem.W.nsIn K mainGlobals "law" = some (some (.ref f_law)))
    (l_law : K.lookup f_law = some ⟨oc_law, od_law, .func (PySem.W.fnOf "law" "law" (defArgs s_law) (defBody s_law) (defScope s_law) .none kV_law dc_law pm_law an_law cd_law ct_law), sl_law⟩)
    (c_law : PySem.W.codeIn K cd_law "law" = true)
    (k_law : PySem.W.keepIn K (.ref f_law) = true)
    (zb_abs : PySem.W.nsIn K mainGlobals "abs" = some none)
    (zb_all : PySem.W.nsIn K mainGlobals "all" = some none)
    (zb_int : PySem.W.nsIn K mainGlobals "int" = some none)
    (zb_len : PySem.W.nsIn K mainGlobals "len" = some none)
    (zb_max : PySem.W.nsIn K mainGlobals "max" = some none)
    (zb_min : PySem.W.nsIn K mainGlobals "min" = some none)
    (zb_range : PySem.W.nsIn K mainGlobals "range" = some none)
    (zb_repr : PySem.W.nsIn K mainGlobals "repr" = some none)
    (zb_str : PySem.W.nsIn K mainGlobals "str" = some none)
    (zc_FIGURES : PySem.W.nsIn K mainGlobals "FIGURES" = some (some (.str "0123456789" tk_FIGURES)))
    (zc_MOST_AMOUNT : PySem.W.nsIn K mainGlobals "MOST_AMOUNT" = some (some (.int 8 tk_MOST_AMOUNT)))
    (zc_MOST_WHOLE : PySem.W.nsIn K mainGlobals "MOST_WHOLE" = some (some (.int 9 tk_MOST_WHOLE)))
    (law_right : ∀ ns : List Int, ns.length ≤ 63 → (∀ i ∈ ns, Builtin.Int.intBits i ≤ 1048576) → ∃ μ', F_law [.d (.list (ns.map PyData.int))] [] = .ok (.d (.bool true)) μ') :
    ∃ (fd : FuncData) (G : GT) (F : OpN), G.K = K ∧ (∀ (s : Shared) (u : Value), BindsTo s fd ⟨[u], []⟩ [("_law_script", u)]) ∧ (∀ base : Heap, K.In base → base.Ns mainGlobals mg → FnG l.prog w K mg base 5 fa fd ["_law_script"] (spD G 1 F)) ∧
      ∀ ns : List Int, ns.length ≤ 63 → (∀ i ∈ ns, Builtin.Int.intBits i ≤ 1048576) → ∃ μ', F [.d (.list (ns.map PyData.int))] [] = .ok (.d (.bool true)) μ' := by
  have e := hfa.symm.trans (PySem.W.mg_of X G a_law)
  cases e
  have T : Tx K mg := ⟨PySem.W.mg_none_of X G zb_abs, PySem.W.mg_none_of X G zb_all, PySem.W.mg_none_of X G zb_int, PySem.W.mg_none_of X G zb_len, PySem.W.mg_none_of X G zb_max, PySem.W.mg_none_of X G zb_min, PySem.W.mg_none_of X G zb_range, PySem.W.mg_none_of X G zb_repr, PySem.W.mg_none_of X G zb_str, ⟨_, PySem.W.mg_of X G zc_FIGURES⟩, ⟨_, PySem.W.mg_of X G zc_MOST_AMOUNT⟩, ⟨_, PySem.W.mg_of X G zc_MOST_WHOLE⟩⟩
  have F_l_hand := fun_mk (st := s_l_hand) l_l_hand c_l_hand k_l_hand
  have F_l_take := fun_mk (st := s_l_take) l_l_take c_l_take k_l_take
  have F_l_pick := fun_mk (st := s_l_pick) l_l_pick c_l_pick k_l_pick
  have F_l_figures := fun_mk (st := s_l_figures) l_l_figures c_l_figures k_l_figures
  have F_l_signs := fun_mk (st := s_l_signs) l_l_signs c_l_signs k_l_signs
  have F_l_sum := fun_mk (st := s_l_sum) l_l_sum c_l_sum k_l_sum
  have F_l_due := fun_mk (st := s_l_due) l_l_due c_l_due k_l_due
  have F_are_figures := fun_mk (st := s_are_figures) l_are_figures c_are_figures k_are_figures
  have F_read_whole := fun_mk (st := s_read_whole) l_read_whole c_read_whole k_read_whole
  have F_read_amount := fun_mk (st := s_read_amount) l_read_amount c_read_amount k_read_amount
  have F_read_day := fun_mk (st := s_read_day) l_read_day c_read_day k_read_day
  have F_read_as := fun_mk (st := s_read_as) l_read_as c_read_as k_read_as
  have F_l_shown := fun_mk (st := s_l_shown) l_l_shown c_l_shown k_l_shown
  have F_written_amount := fun_mk (st := s_written_amount) l_written_amount c_written_amount k_written_amount
  have F_written_day := fun_mk (st := s_written_day) l_written_day c_written_day k_written_day
  have F_written := fun_mk (st := s_written) l_written c_written k_written
  have F_law := fun_mk (st := s_law) l_law c_law k_law
  refine ⟨PySem.W.fnOf "law" "law" (defArgs s_law) (defBody s_law) (defScope s_law) .none kV_law dc_law pm_law an_law cd_law ct_law, GG K, LW.F_law, rfl, fun s v => .of_eq rfl, fun base _ _ => ?_, law_right⟩
  have C_l_hand : Cal l.prog w (GG K) mg base "_law_hand" 1 ["_law_script", "_law_k"] [] LW.F_l_hand := ⟨f_l_hand, _, ok_l_hand F_l_hand T, PySem.W.mg_of X G a_l_hand, k_l_hand, F_l_hand.binds (ps := ["_law_script", "_law_k"]) fun _ _ _ _ _ _ us hl => match us, hl with | [_, _], _ => rfl, fun q hq => by cases hq⟩
  have C_l_take : Cal l.prog w (GG K) mg base "_law_take" 1 ["_law_hand_here", "_law_many"] [] LW.F_l_take := ⟨f_l_take, _, ok_l_take F_l_take T, PySem.W.mg_of X G a_l_take, k_l_take, F_l_take.binds (ps := ["_law_hand_here", "_law_many"]) fun _ _ _ _ _ _ us hl => match us, hl with | [_, _], _ => rfl, fun q hq => by cases hq⟩
  have C_l_pick : Cal l.prog w (GG K) mg base "_law_pick" 2 ["_law_hand_here", "_law_some"] [] LW.F_l_pick := ⟨f_l_pick, _, ok_l_pick F_l_pick T C_l_take, PySem.W.mg_of X G a_l_pick, k_l_pick, F_l_pick.binds (ps := ["_law_hand_here", "_law_some"]) fun _ _ _ _ _ _ us hl => match us, hl with | [_, _], _ => rfl, fun q hq => by cases hq⟩
  have C_l_figures : Cal l.prog w (GG K) mg base "_law_figures" 3 ["_law_hand_here", "_law_most"] [] LW.F_l_figures := ⟨f_l_figures, _, ok_l_figures F_l_figures T C_l_take C_l_pick, PySem.W.mg_of X G a_l_figures, k_l_figures, F_l_figures.binds (ps := ["_law_hand_here", "_law_most"]) fun _ _ _ _ _ _ us hl => match us, hl with | [_, _], _ => rfl, fun q hq => by cases hq⟩
  have C_l_signs : Cal l.prog w (GG K) mg base "_law_signs" 4 ["_law_hand_here"] [] LW.F_l_signs := ⟨f_l_signs, _, ok_l_signs F_l_signs T C_l_pick C_l_figures C_l_take, PySem.W.mg_of X G a_l_signs, k_l_signs, F_l_signs.binds (ps := ["_law_hand_here"]) fun _ _ _ _ _ _ us hl => match us, hl with | [_], _ => rfl, fun q hq => by cases hq⟩
  have C_l_sum : Cal l.prog w (GG K) mg base "_law_sum" 1 ["_law_signs_here"] [] LW.F_l_sum := ⟨f_l_sum, _, ok_l_sum F_l_sum T, PySem.W.mg_of X G a_l_sum, k_l_sum, F_l_sum.binds (ps := ["_law_signs_here"]) fun _ _ _ _ _ _ us hl => match us, hl with | [_], _ => rfl, fun q hq => by cases hq⟩
  have C_l_due : Cal l.prog w (GG K) mg base "_law_due" 2 ["_law_signs_here", "_law_many"] [] LW.F_l_due := ⟨f_l_due, _, ok_l_due F_l_due T C_l_sum, PySem.W.mg_of X G a_l_due, k_l_due, F_l_due.binds (ps := ["_law_signs_here", "_law_many"]) fun _ _ _ _ _ _ us hl => match us, hl with | [_, _], _ => rfl, fun q hq => by cases hq⟩
  have C_are_figures : Cal l.prog w (GG K) mg base "are_figures" 1 ["text", "least", "most"] [] LW.F_are_figures := ⟨f_are_figures, _, ok_are_figures F_are_figures T, PySem.W.mg_of X G a_are_figures, k_are_figures, F_are_figures.binds (ps := ["text", "least", "most"]) fun _ _ _ _ _ _ us hl => match us, hl with | [_, _, _], _ => rfl, fun q hq => by cases hq⟩
  have C_read_whole : Cal l.prog w (GG K) mg base "read_whole" 2 ["text", "most"] [] LW.F_read_whole := ⟨f_read_whole, _, ok_read_whole F_read_whole T C_are_figures, PySem.W.mg_of X G a_read_whole, k_read_whole, F_read_whole.binds (ps := ["text", "most"]) fun _ _ _ _ _ _ us hl => match us, hl with | [_, _], _ => rfl, fun q hq => by cases hq⟩
  have C_read_amount : Cal l.prog w (GG K) mg base "read_amount" 3 ["text", "places"] [] LW.F_read_amount := ⟨f_read_amount, _, ok_read_amount F_read_amount T C_are_figures C_read_whole, PySem.W.mg_of X G a_read_amount, k_read_amount, F_read_amount.binds (ps := ["text", "places"]) fun _ _ _ _ _ _ us hl => match us, hl with | [_, _], _ => rfl, fun q hq => by cases hq⟩
  have C_read_day : Cal l.prog w (GG K) mg base "read_day" 1 ["text", "order"] [] LW.F_read_day := ⟨f_read_day, _, ok_read_day F_read_day T, PySem.W.mg_of X G a_read_day, k_read_day, F_read_day.binds (ps := ["text", "order"]) fun _ _ _ _ _ _ us hl => match us, hl with | [_, _], _ => rfl, fun q hq => by cases hq⟩
  have C_read_as : Cal l.prog w (GG K) mg base "read_as" 4 ["form", "text"] [(["text", "form"], [1, 0])] LW.F_read_as := ⟨f_read_as, _, ok_read_as F_read_as T C_read_whole C_read_amount C_read_day, PySem.W.mg_of X G a_read_as, k_read_as, F_read_as.binds (ps := ["form", "text"]) fun _ _ _ _ _ _ us hl => match us, hl with | [_, _], _ => rfl, fun q hq => by
      simp only [List.mem_cons, List.not_mem_nil, or_false] at hq
      rcases hq with rfl
      · intro s ws hl
        match ws, hl with
        | [_, _], _ => exact .of_eq rfl
⟩
  have C_l_shown : Cal l.prog w (GG K) mg base "_law_shown" 1 ["_law_found", "_law_many"] [] LW.F_l_shown := ⟨f_l_shown, _, ok_l_shown F_l_shown T, PySem.W.mg_of X G a_l_shown, k_l_shown, F_l_shown.binds (ps := ["_law_found", "_law_many"]) fun _ _ _ _ _ _ us hl => match us, hl with | [_, _], _ => rfl, fun q hq => by cases hq⟩
  have C_written_amount : Cal l.prog w (GG K) mg base "written_amount" 1 ["number", "places"] [] LW.F_written_amount := ⟨f_written_amount, _, ok_written_amount F_written_amount T, PySem.W.mg_of X G a_written_amount, k_written_amount, F_written_amount.binds (ps := ["number", "places"]) fun _ _ _ _ _ _ us hl => match us, hl with | [_, _], _ => rfl, fun q hq => by cases hq⟩
  have C_written_day : Cal l.prog w (GG K) mg base "written_day" 1 ["number", "order"] [] LW.F_written_day := ⟨f_written_day, _, ok_written_day F_written_day T, PySem.W.mg_of X G a_written_day, k_written_day, F_written_day.binds (ps := ["number", "order"]) fun _ _ _ _ _ _ us hl => match us, hl with | [_, _], _ => rfl, fun q hq => by cases hq⟩
  have C_written : Cal l.prog w (GG K) mg base "written" 2 ["form", "number"] [(["number", "form"], [1, 0])] LW.F_written := ⟨f_written, _, ok_written F_written T C_written_amount C_written_day, PySem.W.mg_of X G a_written, k_written, F_written.binds (ps := ["form", "number"]) fun _ _ _ _ _ _ us hl => match us, hl with | [_, _], _ => rfl, fun q hq => by
      simp only [List.mem_cons, List.not_mem_nil, or_false] at hq
      rcases hq with rfl
      · intro s ws hl
        match ws, hl with
        | [_, _], _ => exact .of_eq rfl
⟩
  exact ok_law F_law T C_l_hand C_l_signs C_l_due C_read_as C_l_shown C_written
end LW

open PySem PySem.W PyProof.Rows in
set_option maxRecDepth 100000 in
set_option maxHeartbeats 0 in
theorem PySem.Challenge.cw_cleanedtables_k02_numbers_read_and_writt_holds : PySem.Challenge.rw_cleanedtables_k02_numbers_read_and_writt.Holds := by
  w_on; o_law; k_head; (case hw => w_witness2)
  k_fill
  refine DL.walkG (l := PySem.Challenge.rw_cleanedtables_k02_numbers_read_and_writt) (n := 63) (k := 5) (x := "_law_script") rfl (by decide) rfl ⟨rfl, by decide, by decide⟩ (fun w h Y => PySem.W.kIn_of Y) ?F
  case F =>
    intro w mg fa h KX G hmg
    refine' LW.all_mk KX G hmg ?a_l_hand ?l_l_hand ?c_l_hand ?k_l_hand ?a_l_take ?l_l_take ?c_l_take ?k_l_take ?a_l_pick ?l_l_pick ?c_l_pick ?k_l_pick ?a_l_figures ?l_l_figures ?c_l_figures ?k_l_figures ?a_l_signs ?l_l_signs ?c_l_signs ?k_l_signs ?a_l_sum ?l_l_sum ?c_l_sum ?k_l_sum ?a_l_due ?l_l_due ?c_l_due ?k_l_due ?a_are_figures ?l_are_figures ?c_are_figures ?k_are_figures ?a_read_whole ?l_read_whole ?c_read_whole ?k_read_whole ?a_read_amount ?l_read_amount ?c_read_amount ?k_read_amount ?a_read_day ?l_read_day ?c_read_day ?k_read_day ?a_read_as ?l_read_as ?c_read_as ?k_read_as ?a_l_shown ?l_l_shown ?c_l_shown ?k_l_shown ?a_written_amount ?l_written_amount ?c_written_amount ?k_written_amount ?a_written_day ?l_written_day ?c_written_day ?k_written_day ?a_written ?l_written ?c_written ?k_written ?a_law ?l_law ?c_law ?k_law ?zb_abs ?zb_all ?zb_int ?zb_len ?zb_max ?zb_min ?zb_range ?zb_repr ?zb_str ?zc_FIGURES ?zc_MOST_AMOUNT ?zc_MOST_WHOLE LW.law_right
    (case a_l_hand => k_is)
    (case l_l_hand => k_is)
    (case c_l_hand => k_is)
    (case k_l_hand => k_is)
    (case a_l_take => k_is)
    (case l_l_take => k_is)
    (case c_l_take => k_is)
    (case k_l_take => k_is)
    (case a_l_pick => k_is)
    (case l_l_pick => k_is)
    (case c_l_pick => k_is)
    (case k_l_pick => k_is)
    (case a_l_figures => k_is)
    (case l_l_figures => k_is)
    (case c_l_figures => k_is)
    (case k_l_figures => k_is)
    (case a_l_signs => k_is)
    (case l_l_signs => k_is)
    (case c_l_signs => k_is)
    (case k_l_signs => k_is)
    (case a_l_sum => k_is)
    (case l_l_sum => k_is)
    (case c_l_sum => k_is)
    (case k_l_sum => k_is)
    (case a_l_due => k_is)
    (case l_l_due => k_is)
    (case c_l_due => k_is)
    (case k_l_due => k_is)
    (case a_are_figures => k_is)
    (case l_are_figures => k_is)
    (case c_are_figures => k_is)
    (case k_are_figures => k_is)
    (case a_read_whole => k_is)
    (case l_read_whole => k_is)
    (case c_read_whole => k_is)
    (case k_read_whole => k_is)
    (case a_read_amount => k_is)
    (case l_read_amount => k_is)
    (case c_read_amount => k_is)
    (case k_read_amount => k_is)
    (case a_read_day => k_is)
    (case l_read_day => k_is)
    (case c_read_day => k_is)
    (case k_read_day => k_is)
    (case a_read_as => k_is)
    (case l_read_as => k_is)
    (case c_read_as => k_is)
    (case k_read_as => k_is)
    (case a_l_shown => k_is)
    (case l_l_shown => k_is)
    (case c_l_shown => k_is)
    (case k_l_shown => k_is)
    (case a_written_amount => k_is)
    (case l_written_amount => k_is)
    (case c_written_amount => k_is)
    (case k_written_amount => k_is)
    (case a_written_day => k_is)
    (case l_written_day => k_is)
    (case c_written_day => k_is)
    (case k_written_day => k_is)
    (case a_written => k_is)
    (case l_written => k_is)
    (case c_written => k_is)
    (case k_written => k_is)
    (case a_law => k_is)
    (case l_law => k_is)
    (case c_law => k_is)
    (case k_law => k_is)
    (case zb_abs => k_is)
    (case zb_all => k_is)
    (case zb_int => k_is)
    (case zb_len => k_is)
    (case zb_max => k_is)
    (case zb_min => k_is)
    (case zb_range => k_is)
    (case zb_repr => k_is)
    (case zb_str => k_is)
    (case zc_FIGURES => k_is)
    (case zc_MOST_AMOUNT => k_is)
    (case zc_MOST_WHOLE => k_is)

