import PyProof.Rows.All
import Wide.All
import OpenK.AllK
import Wide.FinOn
import HandS.ForMost
import HandS.ForExc
import HandS.CallSlots
import HandS.IsInst
import HandS.Zip
import HandS.Star
import HandS.Flow
import HandS.StrMore
import HandS.Wide
import HandS.WideBits
import HandS.ExcInit
import HandS.TupAny
import HandS.RaiseMore
import HandS.Conv
import HandS.SetKeys
import HandS.EndBits
import HandS.Replace
import PyProof.Rows.StrPadFill
import HandS.Text
import KE.GoesMore
import HandS.DictComp
import HandS.Steps
import KE.SortData
import HandS.Set
import HandS.SetFor
import HandS.SetTxt0
import PyProof.Rows.SetFrom
import KE.KEqDict
import KE.SortKeyHeap
import HandS.SortKw
import KE.DataFind
import OpenK.KTop
import PyProof.StrLawsRepr
import KE.KDictZip
import HandS.NoneIn
import HandS.Small
import KE.GoesZip
import KE.KItemsList
import PyProof.TupleOfStr
import HandS.Style
import HandS.ExcIs
import HandS.TryMany
import HandS.MakeKw
import KE.KExcIs
import HandS.ExcField
import PySem.Challenge.RW_cleanedtables_k47_refusals_made
set_option Elab.async false
set_option linter.all false
set_option maxRecDepth 100000
/-! The data layer: what expressions and statements come to, told in plain data (PyData), over the hand layer's judgements. -/
namespace DL
open PySem PySem.Spec PyProof.Rows L2

abbrev D := PyData
/-- the tuple at a, whose object has no dict -/
def SqS (K : PySem.W.Frag) (H : Hp) (a : Addr) (xs : List V) : Prop := (∃ o, H a = some (.frz o (.tup xs)) ∧ o.dict = none) ∨
  ∃ (o : Obj) (its : Array Value) (n : Nat), K.lookup a = some o ∧ o.cls = .type "tuple" ∧ o.dict = none ∧ o.data = .seq its n ∧ its.size ≤ sizeLine ∧ Vals xs its.toList
theorem SqS.t {K : PySem.W.Frag} {H : Hp} {a : Addr} {xs : List V} : SqS K H a xs → SqT K H a xs
  | .inl ⟨o, h, _⟩ => .inl (.inr ⟨o, h⟩)
  | .inr ⟨o, its, n, h1, h2, _, h4⟩ => .inr ⟨o, its, n, h1, h2, h4⟩
theorem seqS {K : PySem.W.Frag} {H H' : Hp} {a : Addr} {xs : List V} (e : Same H H') : SqS K H a xs → SqS K H' a xs
  | .inl ⟨o, h, d⟩ => .inl ⟨o, e _ _ h, d⟩
  | .inr h => .inr h
/-- a new tuple -/
abbrev frT (its : Array Value) (xs : List V) : HO := .frz { cls := .type "tuple", data := .seq its } (.tup xs)
theorem SqS.of {K : PySem.W.Frag} {H : Hp} {a : Addr} {its : Array Value} {xs : List V} (h : H a = some (frT its xs)) : SqS K H a xs := .inl ⟨_, h, rfl⟩
def kD : Key → D
  | .inl i => .int i
  | .inr x => .str x
mutual
inductive Rp (K : PySem.W.Frag) (I : Hp) : V → D → Prop
  | non : Rp K I .non .none
  | bl (b : Bool) : Rp K I (.bl b) (.bool b)
  | int (i : Int) : Rp K I (.int i) (.int i)
  | str (x : Str) : Rp K I (.str x) (.str x)
  | lst {a : Addr} {xs : List V} {ds : List D} : SqL K I a xs → RpA K I xs ds → Rp K I (.ref a) (.list ds)
  | tup {a : Addr} {xs : List V} {ds : List D} : SqS K I a xs → RpA K I xs ds → Rp K I (.ref a) (.tuple ds)
  | dic {a : Addr} {kvs : List (Key × V)} {ps : List (D × D)} : I a = some (.dK kvs) → RpK K I kvs ps → Rp K I (.ref a) (.dict ps)
inductive RpA (K : PySem.W.Frag) (I : Hp) : List V → List D → Prop
  | nil : RpA K I [] []
  | cons {v : V} {vs : List V} {d : D} {ds : List D} : Rp K I v d → RpA K I vs ds → RpA K I (v :: vs) (d :: ds)
inductive RpK (K : PySem.W.Frag) (I : Hp) : List (Key × V) → List (D × D) → Prop
  | nil : RpK K I [] []
  | cons {k : Key} {v : V} {kvs : List (Key × V)} {d : D} {ps : List (D × D)} : Rp K I v d → RpK K I kvs ps → RpK K I ((k, v) :: kvs) ((kD k, d) :: ps)
end
theorem seqL {K : PySem.W.Frag} {H H' : Hp} {a : Addr} {xs : List V} (e : Same H H') (h : SqL K H a xs) : SqL K H' a xs := e.seq h
theorem seqT {K : PySem.W.Frag} {H H' : Hp} {a : Addr} {xs : List V} (e : Same H H') (h : SqT K H a xs) : SqT K H' a xs := by
  rcases h with (h | ⟨o, h⟩) | h
  · exact .inl (.inl (e _ _ h))
  · exact .inl (.inr ⟨o, e _ _ h⟩)
  · exact .inr h
mutual
theorem Rp.mono {K : PySem.W.Frag} {I I' : Hp} (e : Same I I') : ∀ (d : D) (v : V), Rp K I v d → Rp K I' v d
  | .none, _, h => by cases h; exact .non
  | .bool _, _, h => by cases h; exact .bl _
  | .int _, _, h => by cases h; exact .int _
  | .str _, _, h => by cases h; exact .str _
  | .list ds, _, h => by
    cases h with
    | lst hs ha => exact .lst (seqL e hs) (RpA.mono e ds _ ha)
  | .tuple ds, _, h => by
    cases h with
    | tup hs ha => exact .tup (seqS e hs) (RpA.mono e ds _ ha)
  | .dict ps, _, h => by
    cases h with
    | dic hs ha => exact .dic (e _ _ hs) (RpK.mono e ps _ ha)
theorem RpA.mono {K : PySem.W.Frag} {I I' : Hp} (e : Same I I') : ∀ (ds : List D) (vs : List V), RpA K I vs ds → RpA K I' vs ds
  | [], _, h => by cases h; exact .nil
  | d :: ds, _, h => by
    cases h with
    | cons h1 h2 => exact .cons (Rp.mono e d _ h1) (RpA.mono e ds _ h2)
theorem RpK.mono {K : PySem.W.Frag} {I I' : Hp} (e : Same I I') : ∀ (ps : List (D × D)) (kvs : List (Key × V)), RpK K I kvs ps → RpK K I' kvs ps
  | [], _, h => by cases h; exact .nil
  | (_, d) :: ps, _, h => by
    cases h with
    | cons h1 h2 => exact .cons (Rp.mono e d _ h1) (RpK.mono e ps _ h2)
end
theorem RpA.length {K : PySem.W.Frag} {I : Hp} : ∀ {ds : List D} {vs : List V}, RpA K I vs ds → vs.length = ds.length
  | _, _, .nil => rfl
  | _, _, .cons _ t => by rw [List.length_cons, List.length_cons, RpA.length t]
theorem RpA.get {K : PySem.W.Frag} {I : Hp} : ∀ {ds : List D} {vs : List V} {i : Nat} {v : V}, RpA K I vs ds → vs[i]? = some v → ∃ d, ds[i]? = some d ∧ Rp K I v d
  | _, _, _, _, .nil, h => by simp at h
  | _, _, 0, _, .cons r t, h => by
    simp at h
    subst h
    exact ⟨_, rfl, r⟩
  | _, _, i + 1, _, .cons r t, h => by
    obtain ⟨d, h1, h2⟩ := RpA.get (i := i) t (by simpa using h)
    exact ⟨d, by simpa using h1, h2⟩
theorem RpA.got {K : PySem.W.Frag} {I : Hp} {ds : List D} {vs : List V} {i : Nat} {d : D} (r : RpA K I vs ds) (h : ds[i]? = some d) : ∃ v, vs[i]? = some v ∧ Rp K I v d := by
  have hl := r.length
  have hi : i < vs.length := by
    have := (List.getElem?_eq_some_iff.mp h).1
    omega
  have e : vs[i]? = some vs[i] := by simp [hi]
  obtain ⟨d', h1, h2⟩ := r.get e
  rw [h] at h1
  cases h1
  exact ⟨_, e, h2⟩
theorem RpA.app {K : PySem.W.Frag} {I : Hp} : ∀ {ds es : List D} {vs us : List V}, RpA K I vs ds → RpA K I us es → RpA K I (vs ++ us) (ds ++ es)
  | _, _, _, _, .nil, h => h
  | _, _, _, _, .cons r t, h => .cons r (RpA.app t h)
theorem RpA.take {K : PySem.W.Frag} {I : Hp} : ∀ {ds : List D} {vs : List V} (n : Nat), RpA K I vs ds → RpA K I (vs.take n) (ds.take n)
  | _, _, 0, _ => by simp; exact .nil
  | _, _, n + 1, .nil => .nil
  | _, _, n + 1, .cons r t => .cons r (RpA.take n t)
theorem RpA.drop {K : PySem.W.Frag} {I : Hp} : ∀ {ds : List D} {vs : List V} (n : Nat), RpA K I vs ds → RpA K I (vs.drop n) (ds.drop n)
  | _, _, 0, h => h
  | _, _, n + 1, .nil => .nil
  | _, _, n + 1, .cons r t => RpA.drop n t
mutual
def nodict : D → Bool
  | .list ds => nodicts ds
  | .tuple ds => nodicts ds
  | .dict _ => false
  | _ => true
def nodicts : List D → Bool
  | [] => true
  | d :: ds => nodict d && nodicts ds
end
mutual
theorem Rp.dp {K : PySem.W.Frag} {I : Hp} : ∀ (d : D) (v : V), nodict d = true → Rp K I v d → Dp K I v d
  | .none, _, _, h => by cases h; exact .non
  | .bool _, _, _, h => by cases h; exact .bl _
  | .int _, _, _, h => by cases h; exact .int _
  | .str _, _, _, h => by cases h; exact .str _
  | .list ds, _, n, h => by
    cases h with
    | lst hs ha => exact .lst hs (RpA.dp ds _ (by simpa [nodict] using n) ha)
  | .tuple ds, _, n, h => by
    cases h with
    | tup hs ha => exact .tup hs.t (RpA.dp ds _ (by simpa [nodict] using n) ha)
  | .dict ps, _, n, _ => by simp [nodict] at n
theorem RpA.dp {K : PySem.W.Frag} {I : Hp} : ∀ (ds : List D) (vs : List V), nodicts ds = true → RpA K I vs ds → DpAll K I vs ds
  | [], _, _, h => by cases h; exact .nil
  | d :: ds, _, n, h => by
    simp only [nodicts, Bool.and_eq_true] at n
    cases h with
    | cons h1 h2 => exact .cons (Rp.dp d _ n.1 h1) (RpA.dp ds _ n.2 h2)
end

/-! ### what a name, an expression may be; what stands in a store -/
inductive Dv where
  | d (x : D) | c (n : Nat) | f (n : Nat)
abbrev DEnv := List (Option Dv)
inductive Cell where
  | lst (xs : List Dv) | dic (kvs : List (Key × Dv)) | dT (kvs : List (List Key × Dv)) | obj (C : Nat) (fs : List (Str × Dv)) | tup (xs : List Dv) | exc (C : Nat) (fs : List (Str × Dv)) | dead
abbrev Store := List Cell
structure Ex where
  cls : Nat
  fs : List (Str × Dv)
inductive Out (β : Type) where
  | ok (b : β) (μ : Store) | ex (e : Ex) (μ : Store) | bad
def Out.bind {β γ : Type} : Out β → (β → Store → Out γ) → Out γ
  | .ok b μ, k => k b μ
  | .ex e μ, _ => .ex e μ
  | .bad, _ => .bad
@[simp] theorem bind_ok {β γ : Type} (b : β) (μ : Store) (k : β → Store → Out γ) : (Out.ok b μ).bind k = k b μ := rfl
@[simp] theorem bind_ex {β γ : Type} (e : Ex) (μ : Store) (k : β → Store → Out γ) : (Out.ex e μ : Out β).bind k = .ex e μ := rfl
@[simp] theorem bind_bad {β γ : Type} (k : β → Store → Out γ) : (Out.bad : Out β).bind k = .bad := rfl

structure GT where
  K : PySem.W.Frag
  FA : Nat → Option Addr
/-- I: what is frozen; α: where the store's cells stand; F: what stands there for others, untouched -/
structure Wd where
  I : Hp
  α : List Addr
  F : Hp
def Wd.le (w w' : Wd) : Prop := Same w.I w'.I ∧ w.α <+: w'.α ∧ Same w.F w'.F
theorem Wd.le_refl (w : Wd) : w.le w := ⟨Same.refl _, List.prefix_refl _, Same.refl _⟩
theorem Wd.le.trans {a b c : Wd} (h : a.le b) (k : b.le c) : a.le c := ⟨h.1.trans k.1, h.2.1.trans k.2.1, h.2.2.trans k.2.2⟩

def Rv (G : GT) (w : Wd) (v : V) : Dv → Prop
  | .d x => Rp G.K w.I v x
  | .c n => ∃ a, w.α[n]? = some a ∧ v = .ref a
  | .f n => ∃ a, G.FA n = some a ∧ v = .ref a
theorem pre_get {α : Type} {l m : List α} (h : l <+: m) {n : Nat} {a : α} (e : l[n]? = some a) : m[n]? = some a := by
  obtain ⟨t, rfl⟩ := h
  have := (List.getElem?_eq_some_iff.mp e).1
  rw [List.getElem?_append_left this]
  exact e
theorem Rv.mono {G : GT} {w w' : Wd} (h : w.le w') {v : V} : ∀ {b : Dv}, Rv G w v b → Rv G w' v b
  | .d _, r => Rp.mono h.1 _ _ r
  | .c _, ⟨a, e, q⟩ => ⟨a, pre_get h.2.1 e, q⟩
  | .f _, r => r
abbrev Rvs (G : GT) (w : Wd) : List V → List Dv → Prop := Paired (Rv G w)
theorem Rvs.mono {G : GT} {w w' : Wd} (h : w.le w') : ∀ {vs : List V} {bs : List Dv}, Rvs G w vs bs → Rvs G w' vs bs
  | _, _, .nil => .nil
  | _, _, .cons r t => .cons (Rv.mono h r) (Rvs.mono h t)

def CellAt (G : GT) (w : Wd) (H : Hp) (a : Addr) : Cell → Prop
  | .lst xs => w.I a = none ∧ ∃ vs, H a = some (.lst vs) ∧ Rvs G w vs xs
  | .dic kvs => w.I a = none ∧ ∃ ws, H a = some (.dK ws) ∧ Paired (fun (p : Key × V) (q : Key × Dv) => p.1 = q.1 ∧ Rv G w p.2 q.2) ws kvs
  | .dT kvs => w.I a = none ∧ ∃ ws, H a = some (.dT ws) ∧ Paired (fun (p : List Key × V) (q : List Key × Dv) => p.1 = q.1 ∧ Rv G w p.2 q.2) ws kvs
  | .obj C fs => w.I a = none ∧ ∃ Ca dx ws, G.FA C = some Ca ∧ H a = some (.ins Ca dx ws) ∧ Paired (fun (p : Str × V) (q : Str × Dv) => p.1 = q.1 ∧ Rv G w p.2 q.2) ws fs
  | .tup xs => w.I a = none ∧ ∃ its vs, H a = some (frT its vs) ∧ Rvs G w vs xs
  | .exc C fs => w.I a = none ∧ ∃ Ca, G.FA C = some Ca ∧ ((fs = [] ∧ H a = some (exo a Ca none)) ∨ ∃ dx ws, H a = some (exo a Ca (some dx)) ∧ w.I dx = some (exd dx ws) ∧ Paired (fun (p : Str × V) (q : Str × Dv) => p.1 = q.1 ∧ Rv G w p.2 q.2) ws fs)
  | .dead => True
structure Lay (G : GT) (w : Wd) (μ : Store) (H : Hp) : Prop where
  same : Same w.I H
  len : w.α.length = μ.length
  nd : w.α.Nodup
  lv : ∀ a ∈ w.α, ∃ o, H a = some o
  fr : Same w.F H
  fd : ∀ a ∈ w.α, w.F a = none
  di : ∀ a o, w.F a = some o → w.I a = none
  at_ : ∀ (n : Nat) (c : Cell) (a : Addr), μ[n]? = some c → w.α[n]? = some a → CellAt G w H a c
theorem Paired.imp {α β : Type} {F F' : α → β → Prop} (h : ∀ a b, F a b → F' a b) : ∀ {l : List α} {m : List β}, Paired F l m → Paired F' l m
  | _, _, .nil => .nil
  | _, _, .cons r t => .cons (h _ _ r) (Paired.imp h t)
def EnvR (G : GT) (w : Wd) (σ : L2.St) (ρ : DEnv) : Prop := σ.length = ρ.length ∧ ∀ (i : Nat) (b : Dv), ρ[i]? = some (some b) → ∃ v, σ[i]? = some (some v) ∧ Rv G w v b
theorem EnvR.mono {G : GT} {w w' : Wd} (h : w.le w') {σ : L2.St} {ρ : DEnv} (e : EnvR G w σ ρ) : EnvR G w' σ ρ :=
  ⟨e.1, fun i b q => let ⟨v, h1, h2⟩ := e.2 i b q; ⟨v, h1, Rv.mono h h2⟩⟩
theorem EnvR.set {G : GT} {w : Wd} {σ : L2.St} {ρ : DEnv} (e : EnvR G w σ ρ) (i : Nat) {v : V} {b : Dv} (r : Rv G w v b) : EnvR G w (σ.set i (some v)) (ρ.set i (some b)) := by
  refine ⟨by rw [List.length_set, List.length_set]; exact e.1, fun j c q => ?_⟩
  by_cases h : i = j
  · subst h
    by_cases hi : i < ρ.length
    · rw [List.getElem?_set_self hi] at q
      cases q
      exact ⟨v, by rw [List.getElem?_set_self (by rw [e.1]; exact hi)], r⟩
    · rw [List.getElem?_eq_none (by rw [List.length_set]; omega)] at q
      cases q
  · rw [List.getElem?_set_ne h] at q
    obtain ⟨u, h1, h2⟩ := e.2 j c q
    exact ⟨u, by rw [List.getElem?_set_ne h]; exact h1, h2⟩

/-- an exception at its data -/
def ExR (G : GT) (w : Wd) (H : Hp) (cls : Value) (d : Option Addr) (e : Ex) : Prop :=
  ∃ C, G.FA e.cls = some C ∧ cls = .ref C ∧ ((d = none ∧ e.fs = []) ∨ ∃ da vs, d = some da ∧ w.I da = some (.xd vs) ∧ Paired (fun (p : Str × V) (q : Str × Dv) => p.1 = q.1 ∧ Rv G w p.2 q.2) vs e.fs)

/-! ### what is wanted behind -/
def Pst {β γ : Type} (G : GT) (W : WX) (σ : L2.St) (R : Wd → γ → β → Prop) (w : Wd) (o : Out β) (Q : γ → Hp → Prop) : Prop :=
  match o with
  | .ok b μ' => ∀ w' v H', w.le w' → Lay G w' μ' H' → R w' v b → Q v H'
  | .ex e μ' => ∀ w' cls d H', w.le w' → Lay G w' μ' H' → ExR G w' H' cls d e → W cls d σ H'
  | .bad => False
theorem Pst.mono {β γ : Type} {G : GT} {W : WX} {σ : L2.St} {R : Wd → γ → β → Prop} {w w' : Wd} {o : Out β} {Q : γ → Hp → Prop} (h : w.le w') (p : Pst G W σ R w o Q) : Pst G W σ R w' o Q := by
  cases o with
  | ok b μ => exact fun w2 v H l => p w2 v H (h.trans l)
  | ex e μ => exact fun w2 c d H l => p w2 c d H (h.trans l)
  | bad => exact p
def tD {β γ : Type} (G : GT) (W : WX) (R : Wd → γ → β → Prop) (m : DEnv → Store → Out β) : L2.St → Hp → (γ → Hp → Prop) → Prop :=
  fun σ H Q => ∃ w μ ρ, Lay G w μ H ∧ EnvR G w σ ρ ∧ Pst G W σ R w (m ρ μ) Q
theorem tD.seq {β γ δ ε : Type} {G : GT} {W : WX} {R : Wd → γ → β → Prop} {R2 : Wd → δ → ε → Prop} {m : DEnv → Store → Out β} {k : DEnv → β → Store → Out ε} {σ : L2.St} {H : Hp} {Q : δ → Hp → Prop} {S : γ → Hp → Prop}
    {w : Wd} {μ : Store} {ρ : DEnv} (hl : Lay G w μ H) (he : EnvR G w σ ρ) (p : Pst G W σ R2 w ((m ρ μ).bind (k ρ)) Q)
    (h : ∀ w1 μ1 H1 v b, w.le w1 → Lay G w1 μ1 H1 → EnvR G w1 σ ρ → R w1 v b → Pst G W σ R2 w1 (k ρ b μ1) Q → S v H1) : tD G W R m σ H S := by
  refine ⟨w, μ, ρ, hl, he, ?_⟩
  cases e : m ρ μ with
  | ok b μ1 =>
    rw [e] at p
    exact fun w1 v H1 l1 lay r => h w1 μ1 H1 v b l1 lay (he.mono l1) r (Pst.mono l1 p)
  | ex x μ1 =>
    rw [e] at p
    exact p
  | bad =>
    rw [e] at p
    exact p.elim

abbrev tE (G : GT) (W : WX) (m : DEnv → Store → Out Dv) : TE := tD G W (Rv G) m
abbrev tT (G : GT) (W : WX) (m : DEnv → Store → Out Bool) : TT := tD G W (fun _ b c => b = c) m
abbrev tA (G : GT) (W : WX) (m : DEnv → Store → Out (List Dv)) : TA := tD G W (Rvs G) m
theorem PE.imp {X : Cx} {e : Expr} {t t' : TE} (h : PE X e t) (i : ∀ σ H Q, t' σ H Q → t σ H Q) : PE X e t' := ⟨fun p s σ H Q I hw => h.run p s σ H Q I (i _ _ _ hw)⟩
theorem PT.imp {X : Cx} {e : Expr} {t t' : TT} (h : PT X e t) (i : ∀ σ H Q, t' σ H Q → t σ H Q) : PT X e t' := ⟨fun p s σ H Q I hw => h.run p s σ H Q I (i _ _ _ hw)⟩
theorem PW.imp {X : Cx} {e : Expr} {t t' : TT} (h : PW X e t) (i : ∀ σ H Q, t' σ H Q → t σ H Q) : PW X e t' := ⟨fun wh p s σ H Q I hw => h.run wh p s σ H Q I (i _ _ _ hw)⟩
theorem PA.imp {X : Cx} {e : List Expr} {t t' : TA} (h : PA X e t) (i : ∀ σ H Q, t' σ H Q → t σ H Q) : PA X e t' := ⟨fun po p s σ H Q I hw => h.run po p s σ H Q I (i _ _ _ hw)⟩
theorem PS.imp {X : Cx} {e : Stmt} {t t' : TS} (h : PS X e t) (i : ∀ D σ H, t' D σ H → t D σ H) : PS X e t' := ⟨fun p s σ H D I hw => h.run p s σ H D I (i _ _ _ hw)⟩
theorem PSs.imp {X : Cx} {e : List Stmt} {t t' : TS} (h : PSs X e t) (i : ∀ D σ H, t' D σ H → t D σ H) : PSs X e t' := ⟨fun p s σ H D I hw => h.run p s σ H D I (i _ _ _ hw)⟩
/-- the judgements over data -/
abbrev DE (X : Cx) (G : GT) (W : WX) (e : Expr) (m : DEnv → Store → Out Dv) : Prop := PE X e (tE G W m)
abbrev DT (X : Cx) (G : GT) (W : WX) (e : Expr) (m : DEnv → Store → Out Bool) : Prop := PT X e (tT G W m)
abbrev DW (X : Cx) (G : GT) (W : WX) (e : Expr) (m : DEnv → Store → Out Bool) : Prop := PW X e (tT G W m)
abbrev DA (X : Cx) (G : GT) (W : WX) (es : List Expr) (m : DEnv → Store → Out (List Dv)) : Prop := PA X es (tA G W m)

inductive Fl where
  | nx (ρ : DEnv) | bk (ρ : DEnv) | ct (ρ : DEnv) | rt (b : Dv)
def PstS (G : GT) (W : WX) (w : Wd) (o : Out Fl) (D : Ends) : Prop :=
  match o with
  | .ok (.nx ρ) μ' => ∀ w' σ' H', w.le w' → Lay G w' μ' H' → EnvR G w' σ' ρ → D.nx σ' H'
  | .ok (.bk ρ) μ' => ∀ w' σ' H', w.le w' → Lay G w' μ' H' → EnvR G w' σ' ρ → D.bk σ' H'
  | .ok (.ct ρ) μ' => ∀ w' σ' H', w.le w' → Lay G w' μ' H' → EnvR G w' σ' ρ → D.ct σ' H'
  | .ok (.rt b) μ' => ∀ w' v H', w.le w' → Lay G w' μ' H' → Rv G w' v b → D.rt v H'
  | .ex e μ' => ∀ w' cls d σ' H', w.le w' → Lay G w' μ' H' → ExR G w' H' cls d e → W cls d σ' H'
  | .bad => False
theorem PstS.mono {G : GT} {W : WX} {w w' : Wd} {o : Out Fl} {D : Ends} (h : w.le w') (p : PstS G W w o D) : PstS G W w' o D := by
  cases o with
  | ok b μ =>
    cases b with
    | nx ρ => exact fun w2 σ H l => p w2 σ H (h.trans l)
    | bk ρ => exact fun w2 σ H l => p w2 σ H (h.trans l)
    | ct ρ => exact fun w2 σ H l => p w2 σ H (h.trans l)
    | rt v => exact fun w2 v H l => p w2 v H (h.trans l)
  | ex e μ => exact fun w2 c d s H l => p w2 c d s H (h.trans l)
  | bad => exact p
def tS (G : GT) (W : WX) (m : DEnv → Store → Out Fl) : TS := fun D σ H => ∃ w μ ρ, Lay G w μ H ∧ EnvR G w σ ρ ∧ PstS G W w (m ρ μ) D
abbrev DS (X : Cx) (G : GT) (W : WX) (st : Stmt) (m : DEnv → Store → Out Fl) : Prop := PS X st (tS G W m)
abbrev DSs (X : Cx) (G : GT) (W : WX) (st : List Stmt) (m : DEnv → Store → Out Fl) : Prop := PSs X st (tS G W m)
/-- an expression's part of a statement -/
theorem tD.seqS {β γ : Type} {G : GT} {W : WX} {R : Wd → γ → β → Prop} {m : DEnv → Store → Out β} {k : DEnv → β → Store → Out Fl} {σ : L2.St} {H : Hp} {D : Ends} {S : γ → Hp → Prop}
    {w : Wd} {μ : Store} {ρ : DEnv} (hl : Lay G w μ H) (he : EnvR G w σ ρ) (p : PstS G W w ((m ρ μ).bind (k ρ)) D)
    (h : ∀ w1 μ1 H1 v b, w.le w1 → Lay G w1 μ1 H1 → EnvR G w1 σ ρ → R w1 v b → PstS G W w1 (k ρ b μ1) D → S v H1) : tD G W R m σ H S := by
  refine ⟨w, μ, ρ, hl, he, ?_⟩
  cases e : m ρ μ with
  | ok b μ1 =>
    rw [e] at p
    exact fun w1 v H1 l1 lay r => h w1 μ1 H1 v b l1 lay (he.mono l1) r (PstS.mono l1 p)
  | ex x μ1 =>
    rw [e] at p
    exact fun w1 c d H1 l1 lay r => p w1 c d σ H1 l1 lay r
  | bad =>
    rw [e] at p
    exact p.elim
end DL

/-! Rules of the data layer: expressions. -/
namespace DL
open PySem PySem.Spec PyProof.Rows L2
abbrev ME := DEnv → Store → Out Dv
abbrev MT := DEnv → Store → Out Bool
abbrev MA := DEnv → Store → Out (List Dv)
abbrev MS := DEnv → Store → Out Fl
abbrev Op1 := Dv → Store → Out Dv
abbrev Op2 := Dv → Dv → Store → Out Dv
abbrev OpN := List Dv → Store → Out Dv

def eVar (i : Nat) : ME := fun ρ μ => match ρ[i]? with
  | some (some b) => .ok b μ
  | _ => .bad
def eC (b : Dv) : ME := fun _ μ => .ok b μ
def eBad : ME := fun _ _ => .bad
def e1 (f : Op1) (a : ME) : ME := fun ρ μ => (a ρ μ).bind fun x μ => f x μ
def e2 (f : Op2) (a b : ME) : ME := fun ρ μ => (a ρ μ).bind fun x μ => (b ρ μ).bind fun y μ => f x y μ
def asBool : Dv → Store → Out Bool
  | .d (.bool b), μ => .ok b μ
  | _, _ => .bad
/-- an expression that gives a truth, as a test -/
def tV (a : ME) : MT := fun ρ μ => (a ρ μ).bind asBool
def bV (a : MT) : ME := fun ρ μ => (a ρ μ).bind fun b μ => .ok (.d (.bool b)) μ
def tAndM (a b : MT) : MT := fun ρ μ => (a ρ μ).bind fun x μ => if x = true then b ρ μ else .ok false μ
def tOrM (a b : MT) : MT := fun ρ μ => (a ρ μ).bind fun x μ => if x = true then .ok true μ else b ρ μ
def tNotM (a : MT) : MT := fun ρ μ => (a ρ μ).bind fun x μ => .ok (!x) μ
def eAnd (a b : ME) : ME := fun ρ μ => (a ρ μ).bind fun x μ => (asBool x μ).bind fun k μ => if k = true then b ρ μ else .ok (.d (.bool false)) μ
def eOr (a b : ME) : ME := fun ρ μ => (a ρ μ).bind fun x μ => (asBool x μ).bind fun k μ => if k = true then .ok (.d (.bool true)) μ else b ρ μ
def eNot (a : ME) : ME := fun ρ μ => (a ρ μ).bind fun x μ => (asBool x μ).bind fun k μ => .ok (.d (.bool (!k))) μ
def eIf (c : MT) (a b : ME) : ME := fun ρ μ => (c ρ μ).bind fun x μ => if x = true then a ρ μ else b ρ μ
def eChain (f g : Op2) (a b c : ME) : ME := fun ρ μ => (a ρ μ).bind fun x μ => (b ρ μ).bind fun y μ => (f x y μ).bind fun z μ => (asBool z μ).bind fun k μ =>
  if k = true then (c ρ μ).bind fun u μ => g y u μ else .ok (.d (.bool false)) μ
def aNil : MA := fun _ μ => .ok [] μ
def aCons (a : ME) (r : MA) : MA := fun ρ μ => (a ρ μ).bind fun x μ => (r ρ μ).bind fun xs μ => .ok (x :: xs) μ
def eN (f : OpN) (a : MA) : ME := fun ρ μ => (a ρ μ).bind fun xs μ => f xs μ
def eMth (f : Dv → OpN) (o : ME) (a : MA) : ME := fun ρ μ => (o ρ μ).bind fun x μ => (a ρ μ).bind fun xs μ => f x xs μ

/-- what an operation's rule asks follows from what is wanted of its data -/
def Ok1 (G : GT) (r : V → Hp → VK → Prop) (f : Op1) : Prop := ∀ (W : WX) (σ : L2.St) (w : Wd) (μ : Store) (H : Hp) (x : V) (b : Dv) (Q : VK), Lay G w μ H → Rv G w x b → Pst G W σ (Rv G) w (f b μ) Q → r x H Q
def Ok2 (G : GT) (r : R2) (f : Op2) : Prop := ∀ (W : WX) (σ : L2.St) (w : Wd) (μ : Store) (H : Hp) (x y : V) (b c : Dv) (Q : VK), Lay G w μ H → Rv G w x b → Rv G w y c → Pst G W σ (Rv G) w (f b c μ) Q → r x y H Q
def OkN (G : GT) (r : List V → Hp → VK → Prop) (f : OpN) : Prop := ∀ (W : WX) (σ : L2.St) (w : Wd) (μ : Store) (H : Hp) (xs : List V) (bs : List Dv) (Q : VK), Lay G w μ H → Rvs G w xs bs → Pst G W σ (Rv G) w (f bs μ) Q → r xs H Q
theorem Ok2.or1 {G : GT} {r r' : R2} {f : Op2} (h : Ok2 G r f) : Ok2 G (fun x y H Q => r x y H Q ∨ r' x y H Q) f := fun W σ w μ H x y b c Q l rx ry p => .inl (h W σ w μ H x y b c Q l rx ry p)

section
variable {X : Cx} {G : GT} {W : WX} {a b c e o : Expr} {es : List Expr} {ma mb mc mo : ME} {ta tb tc : MT} {mas : MA} {pos p : Pos} {x : Str} {rest : List Expr}
theorem de_var (i : Nat) {x : Str} (hN : X.N[i]? = some x := by rfl) (hv : Vis X.env.scope x := by first | exact Or.inl rfl | exact Or.inr (Or.inl rfl) | exact Or.inr (Or.inr rfl)) (hd : (x == ("__debug__" : Str)) = false := by decide)
    (hcd : (x == ("__classdict__" : Str)) = false := by decide) : DE X G W (.Name x pos) (eVar i) := by
  refine PE.imp (pe_var hN hv hd hcd) ?_
  rintro σ H Q ⟨w, μ, ρ, hl, he, p⟩
  unfold eVar at p
  cases q : ρ[i]? with
  | none => rw [q] at p; exact p.elim
  | some z =>
    cases z with
    | none => rw [q] at p; exact p.elim
    | some b =>
      rw [q] at p
      obtain ⟨v, h1, h2⟩ := he.2 i b q
      exact ⟨v, h1, p w v H w.le_refl hl h2⟩
/-- what is told of any value that is there at once -/
theorem tC_imp {v : V} {b : Dv} (h : ∀ w, Rv G w v b) : ∀ σ H Q, tE G W (eC b) σ H Q → tC v σ H Q := by
  rintro σ H Q ⟨w, μ, ρ, hl, he, p⟩
  exact p w v H w.le_refl hl (h w)
theorem de_int {i j} : DE X G W (.Constant (.int i) j pos) (eC (.d (.int i))) := PE.imp pe_int (tC_imp fun _ => .int i)
theorem de_bl {b j} : DE X G W (.Constant (.bool b) j pos) (eC (.d (.bool b))) := PE.imp pe_bl (tC_imp fun _ => .bl b)
theorem de_non {j} : DE X G W (.Constant .none j pos) (eC (.d .none)) := PE.imp pe_non (tC_imp fun _ => .non)
theorem de_str {x j} : DE X G W (.Constant (.str x) j pos) (eC (.d (.str x))) := PE.imp pe_str (tC_imp fun _ => .str x)
theorem de_glob {v : V} {u : Value} {b : Dv} (hg : Gl X x) (hm : X.mg x = some u) (r : RelV v u) (h : ∀ w, Rv G w v b) (hd : (x == ("__debug__" : Str)) = false := by decide) : DE X G W (.Name x pos) (eC b) := PE.imp (pe_glob hg hm r hd) (tC_imp h)
theorem de_bad {t : TE} (h : PE X e t) : DE X G W e eBad := PE.imp h (by rintro σ H Q ⟨w, μ, ρ, hl, he, p⟩; exact p.elim)
theorem de_op {op : Operator} {r : R2} {f : Op2} (ho : OpR X (binaryOp op) r) (h : Ok2 G r f) (ha : DE X G W a ma) (hb : DE X G W b mb) : DE X G W (.BinOp a op b pos) (e2 f ma mb) := by
  refine PE.imp (pe_op ho ha hb) ?_
  rintro σ H Q ⟨w, μ, ρ, hl, he, p⟩
  exact tD.seq (k := fun ρ x μ => (mb ρ μ).bind fun y μ => f x y μ) hl he p fun w1 μ1 H1 v b l1 lay1 e1 r1 p1 => tD.seq (k := fun ρ y μ => f b y μ) lay1 e1 p1 fun w2 μ2 H2 v2 b2 l2 lay2 e2 r2 p2 => h W σ w2 μ2 H2 v v2 b b2 Q lay2 (r1.mono l2) r2 p2
theorem de_un {op : UnaryOp} {r : V → Hp → VK → Prop} {f : Op1} (ho : UnR X (unaryOp op) r) (h : Ok1 G r f) (ha : DE X G W a ma) : DE X G W (.UnaryOp op a pos) (e1 f ma) := by
  refine PE.imp (pe_un ho ha) ?_
  rintro σ H Q ⟨w, μ, ρ, hl, he, p⟩
  exact tD.seq (k := fun ρ x μ => f x μ) hl he p fun w1 μ1 H1 v b l1 lay1 e1 r1 p1 => h W σ w1 μ1 H1 v b Q lay1 r1 p1
theorem op_imp {r : R2} {f : Op2} (h : Ok2 G r f) : ∀ σ H Q, tE G W (e2 f ma mb) σ H Q → tOp r (tE G W ma) (tE G W mb) σ H Q := by
  rintro σ H Q ⟨w, μ, ρ, hl, he, p⟩
  exact tD.seq (k := fun ρ x μ => (mb ρ μ).bind fun y μ => f x y μ) hl he p fun w1 μ1 H1 v b l1 lay1 e1 r1 p1 => tD.seq (k := fun ρ y μ => f b y μ) lay1 e1 p1 fun w2 μ2 H2 v2 b2 l2 lay2 e2 r2 p2 => h W σ w2 μ2 H2 v v2 b b2 Q lay2 (r1.mono l2) r2 p2
theorem de_cmp {op : CmpOp} {r : R2} {f : Op2} (ho : OpR X (compareOp op) r) (h : Ok2 G r f) (ha : DE X G W a ma) (hb : DE X G W b mb) (hm : behindInMarks op b = false := by first | rfl | exact nomark _ | with_unfolding_all rfl) : DE X G W (.Compare a [op] [b] pos) (e2 f ma mb) :=
  PE.imp (pe_cmpR ho ha hb hm) (op_imp h)
/-- a value as a test -/
theorem test_imp {m : ME} : ∀ σ H Q, tT G W (tV m) σ H Q → tTest (tE G W m) σ H Q := by
  rintro σ H Q ⟨w, μ, ρ, hl, he, p⟩
  refine tD.seq (k := fun ρ x μ => asBool x μ) hl he p fun w1 μ1 H1 v b l1 lay1 e1 r1 p1 => ?_
  cases b with
  | d x =>
    cases x with
    | bool k =>
      have r1 : Rp G.K w1.I v (.bool k) := r1
      cases r1
      exact ⟨k, rfl, p1 w1 k H1 w1.le_refl lay1 rfl⟩
    | _ => exact p1.elim
  | _ => exact p1.elim
theorem tTest.imp {t t' : TE} (h : ∀ σ H Q, t' σ H Q → t σ H Q) : ∀ σ H Q, tTest t' σ H Q → tTest t σ H Q := fun σ H Q q => h _ _ _ q
theorem dt_cmp {op : CmpOp} {r : R2} {f : Op2} (ho : OpR X (compareOp op) r) (h : Ok2 G r f) (ha : DE X G W a ma) (hb : DE X G W b mb) (hm : behindInMarks op b = false := by first | rfl | exact nomark _ | with_unfolding_all rfl) : DT X G W (.Compare a [op] [b] pos) (tV (e2 f ma mb)) :=
  PT.imp (pt_cmpR ho ha hb hm) fun σ H Q q => tTest.imp (op_imp h) σ H Q (test_imp σ H Q q)
theorem dt_val (h : DE X G W e ma) (he : ∀ whole, isTrue e X.env whole = (do let v ← whole; standAt e.pos; holding [v] (truthy v)) := by intro _; rfl) : DT X G W e (tV ma) := PT.imp (pt_val h he) test_imp
theorem chain_imp {r r' : R2} {f g : Op2} (h : Ok2 G r f) (h' : Ok2 G r' g) : ∀ σ H Q, tE G W (eChain f g ma mb mc) σ H Q → tChain r r' (tE G W ma) (tE G W mb) (tE G W mc) σ H Q := by
  rintro σ H Q ⟨w, μ, ρ, hl, he, p⟩
  refine tD.seq (k := fun ρ x μ => (mb ρ μ).bind fun y μ => (f x y μ).bind fun z μ => (asBool z μ).bind fun k μ => if k = true then (mc ρ μ).bind fun u μ => g y u μ else .ok (.d (.bool false)) μ) hl he p fun w1 μ1 H1 v b l1 lay1 en1 r1 p1 => ?_
  refine tD.seq (k := fun ρ y μ => (f b y μ).bind fun z μ => (asBool z μ).bind fun k μ => if k = true then (mc ρ μ).bind fun u μ => g y u μ else .ok (.d (.bool false)) μ) lay1 en1 p1 fun w2 μ2 H2 v2 b2 l2 lay2 en2 r2 p2 => ?_
  refine h W σ w2 μ2 H2 v v2 b b2 _ lay2 (r1.mono l2) r2 ?_
  cases q : f b b2 μ2 with
  | bad => rw [q] at p2; exact p2.elim
  | ex e μ3 => rw [q] at p2; exact p2
  | ok z μ3 =>
    rw [q] at p2
    intro w3 v3 H3 l3 lay3 r3
    cases z with
    | d zz =>
      cases zz with
      | bool k =>
        have r3 : Rp G.K w3.I v3 (.bool k) := r3
        cases r3
        refine ⟨k, rfl, ?_⟩
        have p3 := Pst.mono l3 p2
        cases k with
        | false => exact p3 w3 (.bl false) H3 w3.le_refl lay3 (.bl false)
        | true => exact tD.seq (k := fun ρ u μ => g b2 u μ) lay3 (en2.mono l3) p3 fun w4 μ4 H4 v4 b4 l4 lay4 en4 r4 p4 => h' W σ w4 μ4 H4 v2 v4 b2 b4 Q lay4 (r2.mono (l3.trans l4)) r4 p4
      | _ => exact p2.elim
    | _ => exact p2.elim
theorem de_chain {op op' : CmpOp} {r r' : R2} {f g : Op2} (ho : OpR X (compareOp op) r) (h : Ok2 G r f) (ho' : OpR X (compareOp op') r') (h' : Ok2 G r' g) (ha : DE X G W a ma) (hb : DE X G W b mb) (hc : DE X G W c mc)
    (hm : lastMarks [op, op'] [b, c] = false := by with_unfolding_all rfl) : DE X G W (.Compare a [op, op'] [b, c] pos) (eChain f g ma mb mc) := PE.imp (pe_chain ho ho' ha hb hc hm) (chain_imp h h')
theorem dt_chain {op op' : CmpOp} {r r' : R2} {f g : Op2} (ho : OpR X (compareOp op) r) (h : Ok2 G r f) (ho' : OpR X (compareOp op') r') (h' : Ok2 G r' g) (ha : DE X G W a ma) (hb : DE X G W b mb) (hc : DE X G W c mc)
    (hm : lastMarks [op, op'] [b, c] = false := by with_unfolding_all rfl) : DT X G W (.Compare a [op, op'] [b, c] pos) (tV (eChain f g ma mb mc)) :=
  PT.imp (pt_chain ho ho' ha hb hc hm) fun σ H Q q => tTest.imp (chain_imp h h') σ H Q (test_imp σ H Q q)

/-! and, or, not -/
theorem dw_pt (h : DW X G W e ta) : DT X G W e ta := h.pt
theorem dw_and1 (h : DT X G W a ta) : DW X G W (.BoolOp .And [a] pos) ta := pw_and1 h
theorem dw_or1 (h : DT X G W a ta) : DW X G W (.BoolOp .Or [a] pos) ta := pw_or1 h
theorem dw_and (ha : DT X G W a ta) (hb : DW X G W (.BoolOp .And (b :: rest) pos) tb) : DW X G W (.BoolOp .And (a :: b :: rest) pos) (tAndM ta tb) := by
  refine PW.imp (pw_and ha hb) ?_
  rintro σ H Q ⟨w, μ, ρ, hl, he, p⟩
  refine tD.seq (k := fun ρ x μ => if x = true then tb ρ μ else .ok false μ) hl he p fun w1 μ1 H1 v b l1 lay1 en1 r1 p1 => ?_
  have r1 : v = b := r1
  subst r1
  cases v with
  | true => exact ⟨w1, μ1, ρ, lay1, en1, p1⟩
  | false => exact p1 w1 false H1 w1.le_refl lay1 rfl
theorem dw_or (ha : DT X G W a ta) (hb : DW X G W (.BoolOp .Or (b :: rest) pos) tb) : DW X G W (.BoolOp .Or (a :: b :: rest) pos) (tOrM ta tb) := by
  refine PW.imp (pw_or ha hb) ?_
  rintro σ H Q ⟨w, μ, ρ, hl, he, p⟩
  refine tD.seq (k := fun ρ x μ => if x = true then .ok true μ else tb ρ μ) hl he p fun w1 μ1 H1 v b l1 lay1 en1 r1 p1 => ?_
  have r1 : v = b := r1
  subst r1
  cases v with
  | false => exact ⟨w1, μ1, ρ, lay1, en1, p1⟩
  | true => exact p1 w1 true H1 w1.le_refl lay1 rfl
theorem dt_not (ha : DT X G W a ta) : DT X G W (.UnaryOp .Not a pos) (tNotM ta) := by
  refine PT.imp (pt_not ha) ?_
  rintro σ H Q ⟨w, μ, ρ, hl, he, p⟩
  refine tD.seq (k := fun ρ x μ => .ok (!x) μ) hl he p fun w1 μ1 H1 v b l1 lay1 en1 r1 p1 => ?_
  have r1 : v = b := r1
  subst r1
  exact p1 w1 (!v) H1 w1.le_refl lay1 rfl
theorem de_one {op} (h : DE X G W a ma) : DE X G W (.BoolOp op [a] pos) ma := pe_one h
theorem bool_imp {α : Type} {R : Wd → α → Dv → Prop} {k : Bool → Store → Out Dv} {σ : L2.St} {w : Wd} {μ : Store} {Q : V → Hp → Prop} {v : V} {b : Dv} (r : Rv G w v b) (p : Pst G W σ (Rv G) w ((asBool b μ).bind k) Q) : ∃ t, v = .bl t ∧ b = .d (.bool t) ∧ Pst G W σ (Rv G) w (k t μ) Q := by
  cases b with
  | d x =>
    cases x with
    | bool t =>
      have r : Rp G.K w.I v (.bool t) := r
      cases r
      exact ⟨t, rfl, rfl, p⟩
    | _ => exact p.elim
  | _ => exact p.elim
theorem de_and (ha : DE X G W a ma) (hb : DE X G W (.BoolOp .And (b :: rest) pos) mb) : DE X G W (.BoolOp .And (a :: b :: rest) pos) (eAnd ma mb) := by
  refine PE.imp (pe_and ha hb) ?_
  rintro σ H Q ⟨w, μ, ρ, hl, he, p⟩
  refine tD.seq (k := fun ρ x μ => (asBool x μ).bind fun k μ => if k = true then mb ρ μ else .ok (.d (.bool false)) μ) hl he p fun w1 μ1 H1 v b l1 lay1 en1 r1 p1 => ?_
  obtain ⟨t, rfl, rfl, p1⟩ := bool_imp (α := V) (R := Rv G) r1 p1
  refine ⟨t, rfl, ?_⟩
  cases t with
  | true => exact ⟨w1, μ1, ρ, lay1, en1, p1⟩
  | false => exact p1 w1 _ H1 w1.le_refl lay1 (.bl false)
theorem de_or (ha : DE X G W a ma) (hb : DE X G W (.BoolOp .Or (b :: rest) pos) mb) : DE X G W (.BoolOp .Or (a :: b :: rest) pos) (eOr ma mb) := by
  refine PE.imp (pe_or ha hb) ?_
  rintro σ H Q ⟨w, μ, ρ, hl, he, p⟩
  refine tD.seq (k := fun ρ x μ => (asBool x μ).bind fun k μ => if k = true then .ok (.d (.bool true)) μ else mb ρ μ) hl he p fun w1 μ1 H1 v b l1 lay1 en1 r1 p1 => ?_
  obtain ⟨t, rfl, rfl, p1⟩ := bool_imp (α := V) (R := Rv G) r1 p1
  refine ⟨t, rfl, ?_⟩
  cases t with
  | false => exact ⟨w1, μ1, ρ, lay1, en1, p1⟩
  | true => exact p1 w1 _ H1 w1.le_refl lay1 (.bl true)
theorem de_not (ha : DE X G W a ma) : DE X G W (.UnaryOp .Not a pos) (eNot ma) := by
  refine PE.imp (pe_not ha) ?_
  rintro σ H Q ⟨w, μ, ρ, hl, he, p⟩
  refine tD.seq (k := fun ρ x μ => (asBool x μ).bind fun k μ => Out.ok (Dv.d (.bool (!k))) μ) hl he p fun w1 μ1 H1 v b l1 lay1 en1 r1 p1 => ?_
  obtain ⟨t, rfl, rfl, p1⟩ := bool_imp (α := V) (R := Rv G) r1 p1
  exact ⟨t, rfl, p1 w1 _ H1 w1.le_refl lay1 (.bl _)⟩
theorem de_ifExp (hc : DT X G W c tc) (ha : DE X G W a ma) (hb : DE X G W b mb) : DE X G W (.IfExp c a b pos) (eIf tc ma mb) := by
  refine PE.imp (pe_ifExp hc ha hb) ?_
  rintro σ H Q ⟨w, μ, ρ, hl, he, p⟩
  refine tD.seq (k := fun ρ x μ => if x = true then ma ρ μ else mb ρ μ) hl he p fun w1 μ1 H1 v b l1 lay1 en1 r1 p1 => ?_
  have r1 : v = b := r1
  subst r1
  cases v with
  | true => exact ⟨w1, μ1, ρ, lay1, en1, p1⟩
  | false => exact ⟨w1, μ1, ρ, lay1, en1, p1⟩

/-! arguments, calls -/
theorem da_nil : DA X G W [] aNil := by
  refine PA.imp pa_nil ?_
  rintro σ H Q ⟨w, μ, ρ, hl, he, p⟩
  exact p w [] H w.le_refl hl .nil
theorem acons_imp {mr : MA} : ∀ σ H Q, tA G W (aCons ma mr) σ H Q → tCons (tE G W ma) (tA G W mr) σ H Q := by
  rintro σ H Q ⟨w, μ, ρ, hl, he, p⟩
  refine tD.seq (k := fun ρ x μ => (mr ρ μ).bind fun xs μ => .ok (x :: xs) μ) hl he p fun w1 μ1 H1 v b l1 lay1 en1 r1 p1 => ?_
  refine tD.seq (k := fun ρ xs μ => .ok (b :: xs) μ) lay1 en1 p1 fun w2 μ2 H2 vs bs l2 lay2 en2 r2 p2 => ?_
  exact p2 w2 _ H2 w2.le_refl lay2 (.cons (r1.mono l2) r2)
theorem da_cons {mr : MA} (ha : DE X G W e ma) (hr : DA X G W es mr) (hs : starEach (e :: es) X.env = (false, eval e X.env) :: starEach es X.env := by rfl) : DA X G W (e :: es) (aCons ma mr) := PA.imp (pa_cons ha hr hs) acons_imp
theorem args_imp {r : List V → Hp → VK → Prop} {f : OpN} (h : OkN G r f) : ∀ σ H Q, tE G W (eN f mas) σ H Q → tCB r (tA G W mas) σ H Q := by
  rintro σ H Q ⟨w, μ, ρ, hl, he, p⟩
  exact tD.seq (k := fun ρ xs μ => f xs μ) hl he p fun w1 μ1 H1 v b l1 lay1 en1 r1 p1 => h W σ w1 μ1 H1 v b Q lay1 r1 p1
theorem de_callB {id : String} {r : List V → Hp → VK → Prop} {f : OpN} (hc : CallR X (.builtin id) r) (h : OkN G r f) (hg : Gl X x) (hm : X.mg x = none) (hv : bootBuiltins x = some (.builtin id)) (ha : DA X G W (e :: es) mas) (hn : x ≠ "__name__" := by decide) (hdb : (x == ("__debug__" : Str)) = false := by decide)
    (he : starEach (e :: es) X.env = (false, eval e X.env) :: starEach es X.env := by rfl) (hpl : (backTo pos (starEach es X.env)).any (·.1) = false := by rfl) : DE X G W (.Call (.Name x p) (e :: es) [] pos) (eN f mas) :=
  PE.imp (pe_callB hc hg hm hv ha hn hdb he hpl) (args_imp h)
theorem de_callTy {T : String} {r : List V → Hp → VK → Prop} {f : OpN} (hc : CallR X (.type T) r) (h : OkN G r f) (hg : Gl X x) (hm : X.mg x = none) (hv : bootBuiltins x = some (.type T)) (ha : DA X G W (e :: es) mas) (hn : x ≠ "__name__" := by decide) (hdb : (x == ("__debug__" : Str)) = false := by decide)
    (he : starEach (e :: es) X.env = (false, eval e X.env) :: starEach es X.env := by rfl) (hpl : (backTo pos (starEach es X.env)).any (·.1) = false := by rfl) : DE X G W (.Call (.Name x p) (e :: es) [] pos) (eN f mas) :=
  PE.imp (pe_callTy hc hg hm hv ha hn hdb he hpl) (args_imp h)
end

/-! ### a def's promise, its call -/
def PstF (G : GT) (w : Wd) (o : Out Dv) (Q : VK) (E : XK) : Prop :=
  match o with
  | .ok b μ' => ∀ w' v H', w.le w' → Lay G w' μ' H' → Rv G w' v b → Q v H'
  | .ex e μ' => ∀ w' cls d H', w.le w' → Lay G w' μ' H' → ExR G w' H' cls d e → E cls d H'
  | .bad => False
def spD (G : GT) (n : Nat) (F : OpN) : Sp := fun vs H Q E => vs.length = n ∧ ∃ w μ bs, Lay G w μ H ∧ Rvs G w vs bs ∧ PstF G w (F bs μ) Q E
section
variable {X : Cx} {G : GT} {W : WX} {a b c e o : Expr} {es : List Expr} {ma mb mc mo : ME} {mas mks : MA} {pos p : Pos} {x : Str} {k n : Nat} {f : Addr} {fd : FuncData} {ps : List Str} {F : OpN}
theorem call_imp : ∀ σ H Q, tE G W (eN (fun bs μ => if bs.length = n then F bs μ else .bad) mas) σ H Q → tCallSD (spD G n F) [] (WE W) (tA G W mas) σ H Q := by
  rintro σ H Q ⟨w, μ, ρ, hl, he, p⟩
  refine tD.seq (k := fun ρ bs μ => if bs.length = n then F bs μ else .bad) hl he p fun w1 μ1 H1 v b l1 lay1 en1 r1 p1 => ?_
  by_cases q : b.length = n
  · rw [if_pos q] at p1
    rw [List.append_nil]
    refine ⟨by rw [Paired.length r1]; exact q, w1, μ1, b, lay1, r1, ?_⟩
    cases z : F b μ1 with
    | ok c μ2 => rw [z] at p1; exact p1
    | ex c μ2 => rw [z] at p1; exact p1
    | bad => rw [z] at p1; exact p1
  · rw [if_neg q] at p1
    exact p1.elim
def fCall (n : Nat) (F : OpN) : OpN := fun bs μ => if bs.length = n then F bs μ else .bad
theorem de_call (hF : FnOk X.prog X.w X.K X.mg X.base (L2.CX X.prog X.w) k f fd ps (spD G n F)) (hr : Room k X.A) (hg : Gl X x) (hm : X.mg x = some (.ref f)) (hk : PySem.W.keepIn X.K (.ref f) = true) (hb : Binds X.K fd ps []) (tk : Takes X W)
    (ha : DA X G W (e :: es) mas) (hdb : (x == ("__debug__" : Str)) = false := by decide) (he : starEach (e :: es) X.env = (false, eval e X.env) :: starEach es X.env := by rfl) (hpl : (backTo pos (starEach es X.env)).any (·.1) = false := by rfl) :
    DE X G W (.Call (.Name x p) (e :: es) [] pos) (eN (fCall n F) mas) :=
  PE.imp (pe_callSD hF hr hg hm hk hb .nil (fun σ => passAt tk σ) ha hdb he hpl) call_imp
end
end DL

/-! Rules of the data layer: statements, loops, bodies. -/
namespace DL
open PySem PySem.Spec PyProof.Rows L2

def sNext : MS := fun ρ μ => .ok (.nx ρ) μ
def sBreak : MS := fun ρ μ => .ok (.bk ρ) μ
def sCont : MS := fun ρ μ => .ok (.ct ρ) μ
def sBad : MS := fun _ _ => .bad
def sDrop (m : ME) : MS := fun ρ μ => (m ρ μ).bind fun _ μ => .ok (.nx ρ) μ
def sRet (m : ME) : MS := fun ρ μ => (m ρ μ).bind fun b μ => .ok (.rt b) μ
def sRetN : MS := fun _ μ => .ok (.rt (.d .none)) μ
def sIf (c : MT) (a b : MS) : MS := fun ρ μ => (c ρ μ).bind fun x μ => if x = true then a ρ μ else b ρ μ
def seqF (u : MS) : Fl → Store → Out Fl
  | .nx ρ, μ => u ρ μ
  | f, μ => .ok f μ
def sSeq (t u : MS) : MS := fun ρ μ => (t ρ μ).bind (seqF u)
abbrev MG := Dv → DEnv → Store → Out DEnv
abbrev MGs := List Dv → DEnv → Store → Out DEnv
def gN (i : Nat) : MG := fun b ρ μ => .ok (ρ.set i (some b)) μ
def gsNil : MGs := fun bs ρ μ => match bs with
  | [] => .ok ρ μ
  | _ => .bad
def gsCons (g : MG) (r : MGs) : MGs := fun bs ρ μ => match bs with
  | b :: t => (g b ρ μ).bind fun ρ μ => r t ρ μ
  | [] => .bad
def gT (n : Nat) (g : MGs) : MG := fun b ρ μ => match b with
  | .d (.tuple ds) => if ds.length = n then g (ds.map .d) ρ μ else .bad
  | _ => .bad
def Out.gb {β γ : Type} : Out β → (β → Store → Out γ) → Out γ
  | .ok b μ, k => k b μ
  | _, _ => .bad
@[simp] theorem gb_ok {β γ : Type} (b : β) (μ : Store) (k : β → Store → Out γ) : (Out.ok b μ).gb k = k b μ := rfl
def sAsg (m : ME) (g : MG) : MS := fun ρ μ => (m ρ μ).bind fun b μ => (g b ρ μ).gb fun ρ μ => .ok (.nx ρ) μ
def sSet (i : Nat) (m : ME) : MS := fun ρ μ => (m ρ μ).bind fun b μ => .ok (.nx (ρ.set i (some b))) μ
def parF (i j : Nat) (ρ : DEnv) : List Dv → Store → Out Fl
  | [b, c], μ => .ok (.nx ((ρ.set i (some b)).set j (some c))) μ
  | _, _ => .bad
def sPar (i j : Nat) (m : MA) : MS := fun ρ μ => (m ρ μ).bind (parF i j ρ)
def sAug (i : Nat) (m : ME) (f : Op2) : MS := fun ρ μ => match ρ[i]? with
  | some (some x) => (m ρ μ).bind fun y μ => (f x y μ).bind fun z μ => .ok (.nx (ρ.set i (some z))) μ
  | _ => .bad

/-- alike but at some slots -/
def Agr (S : List Nat) (σ σ' : L2.St) : Prop := σ'.length = σ.length ∧ ∀ i, i ∉ S → σ'[i]? = σ[i]?
theorem Agr.refl (σ : L2.St) : Agr [] σ σ := ⟨rfl, fun _ _ => rfl⟩
theorem Agr.trans {S T : List Nat} {a b c : L2.St} (h : Agr S a b) (k : Agr T b c) : Agr (S ++ T) a c :=
  ⟨k.1.trans h.1, fun i hi => (k.2 i fun z => hi (List.mem_append_right _ z)).trans (h.2 i fun z => hi (List.mem_append_left _ z))⟩
theorem Agr.set (σ : L2.St) (i : Nat) (v : Option V) : Agr [i] σ (σ.set i v) := ⟨List.length_set, fun j hj => List.getElem?_set_ne fun e => hj (by rw [e]; exact List.mem_singleton.mpr rfl)⟩
def PstG (G : GT) (w : Wd) (S : List Nat) (σ : L2.St) (o : Out DEnv) (Q : L2.St → Hp → Prop) : Prop :=
  match o with
  | .ok ρ μ' => ∀ w' σ' H', w.le w' → Lay G w' μ' H' → EnvR G w' σ' ρ → Agr S σ σ' → Q σ' H'
  | _ => False
theorem PstG.mono {G : GT} {w w' : Wd} {S : List Nat} {σ : L2.St} {o : Out DEnv} {Q : L2.St → Hp → Prop} (h : w.le w') (p : PstG G w S σ o Q) : PstG G w' S σ o Q := by
  cases o with
  | ok ρ μ => exact fun w2 σ H l => p w2 σ H (h.trans l)
  | ex e μ => exact p
  | bad => exact p
def tG (G : GT) (S : List Nat) (g : MG) : TG := fun v σ H Q => ∃ w μ ρ b, Lay G w μ H ∧ EnvR G w σ ρ ∧ Rv G w v b ∧ PstG G w S σ (g b ρ μ) Q
def tGs (G : GT) (S : List Nat) (g : MGs) : TGs := fun vs σ H Q => ∃ w μ ρ bs, Lay G w μ H ∧ EnvR G w σ ρ ∧ Rvs G w vs bs ∧ PstG G w S σ (g bs ρ μ) Q
abbrev DG (X : Cx) (G : GT) (S : List Nat) (tg : Expr) (g : MG) : Prop := PG X tg (tG G S g)
abbrev DGs (X : Cx) (G : GT) (S : List Nat) (ts : List Expr) (g : MGs) : Prop := PGs X ts (tGs G S g)
theorem PG.imp {X : Cx} {e : Expr} {t t' : TG} (h : PG X e t) (i : ∀ v σ H Q, t' v σ H Q → t v σ H Q) : PG X e t' := ⟨fun p s σ H v u Q I r hw => h.run p s σ H v u Q I r (i _ _ _ _ hw)⟩
theorem PGs.imp {X : Cx} {e : List Expr} {t t' : TGs} (h : PGs X e t) (i : ∀ v σ H Q, t' v σ H Q → t v σ H Q) : PGs X e t' := ⟨fun p s σ H v u Q I r hw => h.run p s σ H v u Q I r (i _ _ _ _ hw)⟩
theorem Rvs_of_RpA {G : GT} {w : Wd} : ∀ {ds : List D} {vs : List V}, RpA G.K w.I vs ds → Rvs G w vs (ds.map .d)
  | _, _, .nil => .nil
  | _, _, .cons r t => .cons r (Rvs_of_RpA t)

section
variable {X : Cx} {G : GT} {W : WX} {a b c e o tg : Expr} {es : List Expr} {ma mb mc mo m : ME} {ta tb tc : MT} {mas : MA} {pos p : Pos} {x : Str} {st : Stmt} {rest body : List Stmt} {ms mt mu mv : MS} {g : MG} {gs : MGs} {S T : List Nat}
theorem dg_name {i : Nat} {x : Str} (hN : X.N.Nodup) (hi : X.N[i]? = some x := by rfl) (hx : Loc X.env.scope x := by first | exact Or.inl rfl | exact Or.inr rfl) (hf : X.fn x = true ∨ X.env.scope.names.lookup x = some .local := by first | exact .inl rfl | exact .inr rfl | assumption) : DG X G [i] (.Name x pos) (gN i) := by
  refine PG.imp (pg_name hN hi hx hf) ?_
  rintro v σ H Q ⟨w, μ, ρ, b, hl, he, r, p⟩
  exact p w _ H w.le_refl hl (he.set i r) (Agr.set σ i _)
theorem dgs_nil : DGs X G [] [] gsNil := by
  refine PGs.imp pgs_nil ?_
  rintro v σ H Q ⟨w, μ, ρ, bs, hl, he, r, p⟩
  cases r with
  | nil => exact ⟨rfl, p w σ H w.le_refl hl he (Agr.refl σ)⟩
  | cons _ _ => exact p.elim
theorem dgs_cons (h1 : DG X G S e g) (h2 : DGs X G T es gs) (hs : (assignEach (e :: es) X.env).map (·.2) = assign e X.env :: (assignEach es X.env).map (·.2) := by rfl) : DGs X G (S ++ T) (e :: es) (gsCons g gs) := by
  refine PGs.imp (pgs_cons h1 h2 hs) ?_
  rintro vs σ H Q ⟨w, μ, ρ, bs, hl, he, r, p⟩
  cases r with
  | nil => exact p.elim
  | @cons v b vs bs rv rr =>
    refine ⟨v, vs, rfl, w, μ, ρ, b, hl, he, rv, ?_⟩
    have p : PstG G w (S ++ T) σ ((g b ρ μ).bind fun ρ μ => gs bs ρ μ) Q := p
    cases q : g b ρ μ with
    | bad => rw [q] at p; exact p.elim
    | ex _ _ => rw [q] at p; exact p.elim
    | ok ρ1 μ1 =>
      rw [q] at p
      have p : PstG G w (S ++ T) σ (gs bs ρ1 μ1) Q := p
      refine fun w1 σ1 H1 l1 lay1 en1 ag => ⟨w1, μ1, ρ1, bs, lay1, en1, Rvs.mono l1 rr, ?_⟩
      cases q2 : gs bs ρ1 μ1 with
      | bad => rw [q2] at p; exact p.elim
      | ex _ _ => rw [q2] at p; exact p.elim
      | ok ρ2 μ2 =>
        rw [q2] at p
        exact fun w2 σ2 H2 l2 lay2 en2 ag2 => p w2 σ2 H2 (l1.trans l2) lay2 en2 (ag.trans ag2)
theorem dg_tup {k n : Nat} (hc : X.calm = true) (hK : X.K = G.K) (h : DGs X G S es gs) (hn : (assignEach es X.env).length = n := by rfl) (hst : (assignEach es X.env).findIdx? (·.1) = none := by rfl) : DG X G S (.Tuple es k pos) (gT n gs) := by
  refine PG.imp (pg_tup hc h hn hst) ?_
  rintro v σ H Q ⟨w, μ, ρ, b, hl, he, r, p⟩
  cases b with
  | d x =>
    cases x with
    | tuple ds =>
      have r : Rp G.K w.I v (.tuple ds) := r
      cases r with
      | @tup a xs _ hs ha =>
        have p : PstG G w S σ (if ds.length = n then gs (ds.map .d) ρ μ else .bad) Q := p
        by_cases q : ds.length = n
        · rw [if_pos q] at p
          exact ⟨a, xs, rfl, by rw [hK]; exact seqT hl.same hs.t, by rw [ha.length]; exact q, w, μ, ρ, _, hl, he, Rvs_of_RpA ha, p⟩
        · rw [if_neg q] at p
          exact p.elim
    | _ => exact p.elim
  | _ => exact p.elim

theorem dss_nil : DSs X G W [] sNext := by
  refine PSs.imp pss_nil ?_
  rintro D σ H ⟨w, μ, ρ, hl, he, p⟩
  exact p w σ H w.le_refl hl he
theorem seq_imp : ∀ D σ H, tS G W (sSeq ms mt) D σ H → tSeq (tS G W ms) (tS G W mt) D σ H := by
  rintro D σ H ⟨w, μ, ρ, hl, he, p⟩
  refine ⟨w, μ, ρ, hl, he, ?_⟩
  have p : PstS G W w ((ms ρ μ).bind (seqF mt)) D := p
  cases q : ms ρ μ with
  | bad => rw [q] at p; exact p.elim
  | ex e μ1 => rw [q] at p; exact p
  | ok f μ1 =>
    rw [q] at p
    cases f with
    | nx ρ1 => exact fun w1 σ1 H1 l1 lay1 en1 => ⟨w1, μ1, ρ1, lay1, en1, PstS.mono l1 p⟩
    | bk ρ1 => exact p
    | ct ρ1 => exact p
    | rt v => exact p
theorem dss_cons (h1 : DS X G W st ms) (h2 : DSs X G W rest mt) : DSs X G W (st :: rest) (sSeq ms mt) := PSs.imp (pss_cons h1 h2) seq_imp
theorem dss_one (h1 : DS X G W st ms) : DSs X G W [st] ms := pss_one h1
theorem ds_pass : DS X G W (.Pass pos) sNext := by
  refine PS.imp ps_pass ?_
  rintro D σ H ⟨w, μ, ρ, hl, he, p⟩
  exact p w σ H w.le_refl hl he
theorem ds_break : DS X G W (.Break pos) sBreak := by
  refine PS.imp ps_break ?_
  rintro D σ H ⟨w, μ, ρ, hl, he, p⟩
  exact p w σ H w.le_refl hl he
theorem ds_continue : DS X G W (.Continue pos) sCont := by
  refine PS.imp ps_continue ?_
  rintro D σ H ⟨w, μ, ρ, hl, he, p⟩
  exact p w σ H w.le_refl hl he
theorem ds_never : DS X G W st sBad := by
  refine PS.imp ps_never ?_
  rintro D σ H ⟨w, μ, ρ, hl, he, p⟩
  exact p.elim
theorem dss_never : DSs X G W body sBad := by
  refine PSs.imp pss_never ?_
  rintro D σ H ⟨w, μ, ρ, hl, he, p⟩
  exact p.elim
theorem ds_expr (he : DE X G W e m) (hs : swapsWith e none pos.line X.env = pure false := by rfl) : DS X G W (.Expr e pos) (sDrop m) := by
  refine PS.imp (ps_expr he hs) ?_
  rintro D σ H ⟨w, μ, ρ, hl, he, p⟩
  exact tD.seqS (k := fun ρ _ μ => .ok (.nx ρ) μ) hl he p fun w1 μ1 H1 v b l1 lay1 en1 r1 p1 => p1 w1 σ H1 w1.le_refl lay1 en1
theorem ds_ret (he : DE X G W e m) : DS X G W (.Return (some e) pos) (sRet m) := by
  refine PS.imp (ps_ret he) ?_
  rintro D σ H ⟨w, μ, ρ, hl, he, p⟩
  exact tD.seqS (k := fun ρ b μ => .ok (.rt b) μ) hl he p fun w1 μ1 H1 v b l1 lay1 en1 r1 p1 => p1 w1 v H1 w1.le_refl lay1 r1
theorem ds_retN : DS X G W (.Return none pos) sRetN := by
  refine PS.imp ps_retN ?_
  rintro D σ H ⟨w, μ, ρ, hl, he, p⟩
  exact p w .non H w.le_refl hl .non
theorem ds_if {sa sb : List Stmt} (hc : DT X G W c tc) (ha : DSs X G W sa ms) (hb : DSs X G W sb mt) : DS X G W (.If c sa sb pos) (sIf tc ms mt) := by
  refine PS.imp (ps_if hc ha hb) ?_
  rintro D σ H ⟨w, μ, ρ, hl, he, p⟩
  refine tD.seqS (k := fun ρ x μ => if x = true then ms ρ μ else mt ρ μ) hl he p fun w1 μ1 H1 v b l1 lay1 en1 r1 p1 => ?_
  have r1 : v = b := r1
  subst r1
  cases v with
  | true => exact ⟨w1, μ1, ρ, lay1, en1, p1⟩
  | false => exact ⟨w1, μ1, ρ, lay1, en1, p1⟩
theorem asg_imp : ∀ D σ H, tS G W (sAsg m g) D σ H → tAsg (tE G W m) (tG G S g) D σ H := by
  rintro D σ H ⟨w, μ, ρ, hl, he, p⟩
  refine tD.seqS (k := fun ρ b μ => (g b ρ μ).gb fun ρ μ => .ok (.nx ρ) μ) hl he p fun w1 μ1 H1 v b l1 lay1 en1 r1 p1 => ⟨w1, μ1, ρ, b, lay1, en1, r1, ?_⟩
  cases q : g b ρ μ1 with
  | bad => rw [q] at p1; exact p1.elim
  | ex _ _ => rw [q] at p1; exact p1.elim
  | ok ρ2 μ2 =>
    rw [q] at p1
    exact fun w2 σ2 H2 l2 lay2 en2 _ => p1 w2 σ2 H2 l2 lay2 en2
theorem ds_asg (he : DE X G W e m) (hg : DG X G S tg g) (hs : swapsWithSole [tg] e pos.line X.env = pure false := by rfl) (hw : swappedStores [tg] e X.env = pure none := by rfl)
    (h1 : (assignEach [tg] X.env).map (·.2) = [assign tg X.env] := by rfl) : DS X G W (.Assign [tg] e pos) (sAsg m g) := PS.imp (ps_asg he hg hs hw h1) asg_imp
theorem ds_set {i : Nat} {x : Str} {pos' : Pos} (hN : X.N.Nodup) (he : DE X G W e m) (hi : X.N[i]? = some x := by rfl) (hx : Loc X.env.scope x := by first | exact Or.inl rfl | exact Or.inr rfl) (hs : swapsWith e (some (.Name x pos')) pos.line X.env = pure false := by rfl) (hf : X.fn x = true ∨ X.env.scope.names.lookup x = some .local := by first | exact .inl rfl | exact .inr rfl | assumption) :
    DS X G W (.Assign [.Name x pos'] e pos) (sSet i m) := by
  refine PS.imp (ps_set hN hi hx he hs hf) ?_
  rintro D σ H ⟨w, μ, ρ, hl, he, p⟩
  exact tD.seqS (k := fun ρ b μ => .ok (.nx (ρ.set i (some b))) μ) hl he p fun w1 μ1 H1 v b l1 lay1 en1 r1 p1 => p1 w1 _ H1 w1.le_refl lay1 (en1.set i r1)
theorem ds_par {i j : Nat} {x y : Str} {px py pt : Pos} {kt k2 pt2} (hc : X.calm = true) (hN : X.N.Nodup) (ha : DA X G W [a, b] mas) (hi : X.N[i]? = some x := by rfl) (hj : X.N[j]? = some y := by rfl) (hij : i ≠ j := by decide)
    (hx : X.env.scope.names.lookup x = some .local := by rfl) (hy : X.env.scope.names.lookup y = some .local := by rfl)
    (hw : swappedStores [.Tuple [.Name x px, .Name y py] kt pt] (.Tuple [a, b] k2 pt2) X.env = pure (some [x, y]) := by rfl)
    (hs : swapsWithSole [.Tuple [.Name x px, .Name y py] kt pt] (.Tuple [a, b] k2 pt2) pos.line X.env = pure false := by rfl) :
    DS X G W (.Assign [.Tuple [.Name x px, .Name y py] kt pt] (.Tuple [a, b] k2 pt2) pos) (sPar i j mas) := by
  refine PS.imp (ps_par hc hN hi hj hij hx hy ha hw hs) ?_
  rintro D σ H ⟨w, μ, ρ, hl, he, p⟩
  refine tD.seqS (k := parF i j) hl he p fun w1 μ1 H1 vs bs l1 lay1 en1 r1 p1 => ?_
  match bs, r1, p1 with
  | [b, c], .cons r (.cons r' .nil), p1 => exact ⟨_, _, rfl, p1 w1 _ H1 w1.le_refl lay1 ((en1.set i r).set j r')⟩
def OkIp (G : GT) (r : TIp) (f : Op2) : Prop := ∀ (W : WX) (σ : L2.St) (w : Wd) (μ : Store) (H : Hp) (x y : V) (b c : Dv) (Q : VK), Lay G w μ H → Rv G w x b → Rv G w y c → Pst G W σ (Rv G) w (f b c μ) Q → r x y H Q
theorem ds_aug {i : Nat} {x : Str} {op : Operator} {ti : TIp} {f : Op2} {pos' : Pos} (hN : X.N.Nodup) (he : DE X G W e m) (ho : PIp X op ti) (hok : OkIp G ti f) (hi : X.N[i]? = some x := by rfl) (hx : Loc X.env.scope x := by first | exact Or.inl rfl | exact Or.inr rfl) (hf : X.fn x = true ∨ X.env.scope.names.lookup x = some .local := by first | exact .inl rfl | exact .inr rfl | assumption) :
    DS X G W (.AugAssign (.Name x pos') op e pos) (sAug i m f) := by
  refine PS.imp (ps_aug hN hi hx he ho hf) ?_
  rintro D σ H ⟨w, μ, ρ, hl, he, p⟩
  unfold sAug at p
  cases q : ρ[i]? with
  | none => rw [q] at p; exact p.elim
  | some z =>
    cases z with
    | none => rw [q] at p; exact p.elim
    | some b =>
      rw [q] at p
      obtain ⟨v, h1, h2⟩ := he.2 i b q
      refine ⟨v, h1, tD.seqS (k := fun ρ y μ => (f b y μ).bind fun z μ => .ok (.nx (ρ.set i (some z))) μ) hl he p fun w1 μ1 H1 u c l1 lay1 en1 r1 p1 => ?_⟩
      refine hok (fun c d _ H => W c d σ H) σ w1 μ1 H1 v u b c _ lay1 (h2.mono l1) r1 ?_
      cases z : f b c μ1 with
      | bad => rw [z] at p1; exact p1.elim
      | ex e μ2 => rw [z] at p1; exact fun w2 c d H2 l2 lay2 r2 => p1 w2 c d σ H2 l2 lay2 r2
      | ok z μ2 =>
        rw [z] at p1
        exact fun w2 v2 H2 l2 lay2 r2 => p1 w2 _ H2 l2 lay2 ((en1.mono l2).set i r2)

/-! ### loops -/
/-- the items that a loop walks: one by one, from any later state -/
structure ItR (G : GT) (w : Wd) (J : It) (bs : List Dv) : Prop where
  go : ∀ i w' μ H, i < bs.length → w.le w' → Lay G w' μ H → J.go i H
  yld : ∀ i b w' μ H x H', bs[i]? = some b → w.le w' → Lay G w' μ H → J.yld i H x H' → ∃ w2, w'.le w2 ∧ Lay G w2 μ H' ∧ Rv G w2 x b
  stop : ∀ i w' μ H, bs.length ≤ i → w.le w' → Lay G w' μ H → J.stop i H
theorem ItR.mono {G : GT} {w w' : Wd} {J : It} {bs : List Dv} (l : w.le w') (h : ItR G w J bs) : ItR G w' J bs :=
  ⟨fun i w2 μ H hi l2 => h.go i w2 μ H hi (l.trans l2), fun i b w2 μ H x H' e l2 => h.yld i b w2 μ H x H' e (l.trans l2), fun i w2 μ H hi l2 => h.stop i w2 μ H hi (l.trans l2)⟩
abbrev MI := DEnv → Store → Out (List Dv)
def PstI (G : GT) (W : WX) (σ : L2.St) (w : Wd) (o : Out (List Dv)) (R : It → Hp → Prop) : Prop := Pst G W σ (fun w (J : It) bs => ItR G w J bs) w o R
def tI (G : GT) (W : WX) (mi : MI) : TI := tD G W (fun w (J : It) bs => ItR G w J bs) mi
abbrev DI (X : Cx) (G : GT) (W : WX) (tg iter : Expr) (mi : MI) : Prop := PI X tg iter (tI G W mi)
theorem PI.imp {X : Cx} {tg e : Expr} {t t' : TI} (h : PI X tg e t) (i : ∀ σ H Q, t' σ H Q → t σ H Q) : PI X tg e t' := ⟨fun p s σ H Q I hw => h.run p s σ H Q I (i _ _ _ hw)⟩
def forL (g : MG) (mb : MS) : List Dv → DEnv → Store → Out Fl
  | [], ρ, μ => .ok (.nx ρ) μ
  | b :: bs, ρ, μ => (g b ρ μ).gb fun ρ μ => (mb ρ μ).bind fun f μ => match f with
    | .nx ρ => forL g mb bs ρ μ
    | .ct ρ => forL g mb bs ρ μ
    | .bk ρ => .ok (.nx ρ) μ
    | .rt v => .ok (.rt v) μ
def sFor (mi : MI) (g : MG) (mb : MS) : MS := fun ρ μ => (mi ρ μ).bind fun bs μ => forL g mb bs ρ μ
theorem for_imp {mi : MI} {mb : MS} : ∀ D σ H, tS G W (sFor mi g mb) D σ H → tFor (tI G W mi) (tG G S g) (tS G W mb) D σ H := by
  rintro D σ H ⟨w, μ, ρ, hl, he, p⟩
  refine tD.seqS (k := fun ρ bs μ => forL g mb bs ρ μ) hl he p fun w1 μ1 H1 J bs l1 lay1 en1 it p1 => ?_
  refine ⟨fun i m σ H => m = bs.length - i ∧ i ≤ bs.length ∧ ∃ w2 μ2 ρ2, w1.le w2 ∧ Lay G w2 μ2 H ∧ EnvR G w2 σ ρ2 ∧ PstS G W w2 (forL g mb (bs.drop i) ρ2 μ2) D, ⟨bs.length, by simp, Nat.zero_le _, w1, μ1, ρ, w1.le_refl, lay1, en1, p1⟩, ?_⟩
  rintro i m σ2 H2 ⟨rfl, hi, w2, μ2, ρ2, l2, lay2, en2, p2⟩
  by_cases hlt : i < bs.length
  · refine .inr ⟨it.go i w2 μ2 H2 hlt l2 lay2, fun σ H => ∃ w3 μ3 ρ3, w1.le w3 ∧ Lay G w3 μ3 H ∧ EnvR G w3 σ ρ3 ∧ PstS G W w3 (forL g mb (bs.drop (i + 1)) ρ3 μ3) D, fun σ' H' q => ⟨bs.length - (i + 1), by omega, rfl, hlt, q⟩, fun x H' y => ?_⟩
    have eb : bs[i]? = some bs[i] := by simp [hlt]
    obtain ⟨w3, l3, lay3, r3⟩ := it.yld i _ w2 μ2 H2 x H' eb l2 lay2 y
    refine ⟨w3, μ2, ρ2, bs[i], lay3, en2.mono l3, r3, ?_⟩
    rw [List.drop_eq_getElem_cons hlt] at p2
    have p2 := PstS.mono l3 p2
    unfold forL at p2
    cases q : g bs[i] ρ2 μ2 with
    | bad => rw [q] at p2; exact p2.elim
    | ex _ _ => rw [q] at p2; exact p2.elim
    | ok ρ4 μ4 =>
      rw [q] at p2
      intro w4 σ4 H4 l4 lay4 en4 _
      refine ⟨w4, μ4, ρ4, lay4, en4, ?_⟩
      have p4 : PstS G W w4 ((mb ρ4 μ4).bind fun f μ => match f with
        | .nx ρ => forL g mb (bs.drop (i + 1)) ρ μ
        | .ct ρ => forL g mb (bs.drop (i + 1)) ρ μ
        | .bk ρ => .ok (.nx ρ) μ
        | .rt v => .ok (.rt v) μ) D := PstS.mono l4 p2
      have l14 : w1.le w4 := (l2.trans l3).trans l4
      cases q5 : mb ρ4 μ4 with
      | bad => rw [q5] at p4; exact p4.elim
      | ex e μ5 => rw [q5] at p4; exact p4
      | ok f μ5 =>
        rw [q5] at p4
        cases f with
        | nx ρ5 => exact fun w5 σ5 H5 l5 lay5 en5 => ⟨w5, μ5, ρ5, l14.trans l5, lay5, en5, PstS.mono l5 p4⟩
        | ct ρ5 => exact fun w5 σ5 H5 l5 lay5 en5 => ⟨w5, μ5, ρ5, l14.trans l5, lay5, en5, PstS.mono l5 p4⟩
        | bk ρ5 => exact p4
        | rt v => exact p4
  · refine .inl ⟨it.stop i w2 μ2 H2 (by omega) l2 lay2, ?_⟩
    rw [List.drop_of_length_le (by omega)] at p2
    exact p2 w2 σ2 H2 w2.le_refl lay2 en2
theorem ds_for {iter : Expr} {mi : MI} {mb : MS} (hp : PassesOwn (model X.prog X.w) X.A X.env X.xe) (hc : X.calm = true) (hi : DI X G W tg iter mi) (hg : DG X G S tg g) (hb : DSs X G W body mb)
    (hs : ∀ x, foldedSetIterable iter X.env x = pure x := by intro _; rfl) : DS X G W (.For tg iter body [] pos) (sFor mi g mb) := PS.imp (ps_for hp hc hi hg hb hs) for_imp
/-- a while, with as much fuel as is told -/
def whileL (c : MT) (mb : MS) : Nat → DEnv → Store → Out Fl
  | 0, _, _ => .bad
  | n + 1, ρ, μ => (c ρ μ).bind fun k μ => if k = true then (mb ρ μ).bind fun f μ => match f with
    | .nx ρ => whileL c mb n ρ μ
    | .ct ρ => whileL c mb n ρ μ
    | .bk ρ => .ok (.nx ρ) μ
    | .rt v => .ok (.rt v) μ
    else .ok (.nx ρ) μ
theorem while_imp {mb : MS} {n : Nat} : ∀ D σ H, tS G W (whileL tc mb n) D σ H → tWhile (tT G W tc) (tS G W mb) D σ H := by
  rintro D σ H ⟨w, μ, ρ, hl, he, p⟩
  refine ⟨fun m σ H => ∃ w μ ρ, Lay G w μ H ∧ EnvR G w σ ρ ∧ PstS G W w (whileL tc mb m ρ μ) D, ⟨n, w, μ, ρ, hl, he, p⟩, ?_⟩
  rintro m σ1 H1 ⟨w1, μ1, ρ1, lay1, en1, p1⟩
  cases m with
  | zero => exact p1.elim
  | succ m =>
    unfold whileL at p1
    refine tD.seqS (k := fun ρ k μ => if k = true then (mb ρ μ).bind fun f μ => match f with
    | .nx ρ => whileL tc mb m ρ μ
    | .ct ρ => whileL tc mb m ρ μ
    | .bk ρ => .ok (.nx ρ) μ
    | .rt v => .ok (.rt v) μ
    else .ok (.nx ρ) μ) lay1 en1 p1 fun w2 μ2 H2 v b l2 lay2 en2 r2 p2 => ?_
    have r2 : v = b := r2
    subst r2
    cases v with
    | false => exact p2 w2 σ1 H2 w2.le_refl lay2 en2
    | true =>
      refine ⟨fun σ H => ∃ w μ ρ, Lay G w μ H ∧ EnvR G w σ ρ ∧ PstS G W w (whileL tc mb m ρ μ) D, fun σ' H' q => ⟨m, Nat.lt_succ_self _, q⟩, w2, μ2, ρ1, lay2, en2, ?_⟩
      rw [if_pos rfl] at p2
      cases q5 : mb ρ1 μ2 with
      | bad => rw [q5] at p2; exact p2.elim
      | ex e μ5 => rw [q5] at p2; exact p2
      | ok f μ5 =>
        rw [q5] at p2
        cases f with
        | nx ρ5 => exact fun w5 σ5 H5 l5 lay5 en5 => ⟨w5, μ5, ρ5, lay5, en5, PstS.mono l5 p2⟩
        | ct ρ5 => exact fun w5 σ5 H5 l5 lay5 en5 => ⟨w5, μ5, ρ5, lay5, en5, PstS.mono l5 p2⟩
        | bk ρ5 => exact p2
        | rt v => exact p2
theorem ds_while {c : Expr} {mb : MS} (n : Nat) (hp : PassesOwn (model X.prog X.w) X.A X.env X.xe) (hc : DT X G W c tc) (hb : DSs X G W body mb) : DS X G W (.While c body [] pos) (whileL tc mb n) := PS.imp (ps_while hp hc hb) while_imp
end

/-! ### a def by its body -/
def runB (n : Nat) (B : MS) : OpN := fun bs μ => match B (bs.map some ++ List.replicate (n - bs.length) none) μ with
  | .ok (.nx _) μ' => .ok (.d .none) μ'
  | .ok (.rt b) μ' => .ok b μ'
  | .ok _ _ => .bad
  | .ex e μ' => .ex e μ'
  | .bad => .bad
theorem env_start {G : GT} {w : Wd} {N : List Str} : ∀ {vs : List V} {bs : List Dv}, Rvs G w vs bs → EnvR G w (L2.start N vs) (bs.map some ++ List.replicate (N.length - bs.length) none) := fun {vs bs} r => by
  have hl := Paired.length r
  unfold L2.start
  refine ⟨by simp [hl], fun i b q => ?_⟩
  by_cases hi : i < bs.length
  · rw [List.getElem?_append_left (by simpa using hi), List.getElem?_map] at q
    rw [List.getElem?_append_left (by simpa [hl] using hi), List.getElem?_map]
    cases e : bs[i]? with
    | none => rw [e] at q; cases q
    | some c =>
      rw [e] at q
      cases q
      have : ∀ {vs : List V} {bs : List Dv} {i : Nat}, Rvs G w vs bs → bs[i]? = some b → ∃ v, vs[i]? = some v ∧ Rv G w v b := by
        intro vs bs i r
        induction r generalizing i with
        | nil => intro h; simp at h
        | cons r t ih =>
          intro h
          cases i with
          | zero => simp at h; subst h; exact ⟨_, rfl, r⟩
          | succ i => exact ih (by simpa using h)
      obtain ⟨v, h1, h2⟩ := this r e
      exact ⟨v, by rw [h1]; rfl, h2⟩
  · rw [List.getElem?_append_right (by simpa using hi), List.getElem?_replicate] at q
    split at q <;> cases q
section
variable {P : Program} {w : World} {G : GT} {mg : Str → Option Value} {base : Heap}
/-- THE RULE for a def -/
theorem fn_ok {x qual : Str} {st : Stmt} {f : Addr} {fd : FuncData} {N ps : List Str} {k : Nat} {B : MS} (F : Fun G.K x qual st f fd) (S : FnScope N ps (defScope st))
    (hB : ∀ (cdv : Value) (A : Around) (outer : List Env) (s : Shared) (H : Hp) (E : XK), Room k (A.deeper (envOfC qual (defScope st) s.heap.objs.size f cdv)) →
      Takes (cxOf (L2.CX P w) P w G.K mg base N qual (defScope st) f cdv A outer s H E) (fun cls d _ H => E cls d H) →
      PassesOwn (model P w) (A.deeper (envOfC qual (defScope st) s.heap.objs.size f cdv)) (cxOf (L2.CX P w) P w G.K mg base N qual (defScope st) f cdv A outer s H E).env (cxOf (L2.CX P w) P w G.K mg base N qual (defScope st) f cdv A outer s H E).xe →
      DSs (cxOf (L2.CX P w) P w G.K mg base N qual (defScope st) f cdv A outer s H E) G (fun cls d _ H => E cls d H) (defBody st) B) :
    FnOk P w G.K mg base (L2.CX P w) (k + 1) f fd ps (spD G ps.length (runB N.length B)) := by
  refine F.okX S (fun vs H Q E h => h.1) fun cdv A outer s H vs Q E hr h => ?_
  obtain ⟨hn, w0, μ, bs, lay, r, p⟩ := h
  have tk : Takes (cxOf (L2.CX P w) P w G.K mg base N qual (defScope st) f cdv A outer s H E) (fun cls d _ H => E cls d H) := takes_of rfl rfl rfl rfl
  refine ⟨_, hB cdv A outer s H E hr tk (passes_of rfl), w0, μ, _, lay, env_start r, ?_⟩
  unfold runB at p
  cases q : B (bs.map some ++ List.replicate (N.length - bs.length) none) μ with
  | bad => rw [q] at p; exact p.elim
  | ex e μ' =>
    rw [q] at p
    exact fun w' cls d _ H' l lay' r' => p w' cls d H' l lay' r'
  | ok fl μ' =>
    rw [q] at p
    cases fl with
    | nx ρ => exact fun w' σ' H' l lay' _ => p w' .non H' l lay' .non
    | rt b => exact p
    | bk ρ => exact p.elim
    | ct ρ => exact p.elim
end
end DL

/-! Rules of the data layer: displays, comprehensions, cells. -/
namespace DL
open PySem PySem.Spec PyProof.Rows L2

def allD : List Dv → Option (List D)
  | [] => some []
  | .d x :: r => match allD r with
    | some xs => some (x :: xs)
    | none => none
  | _ :: _ => none
theorem allD_map : ∀ ds : List D, allD (ds.map .d) = some ds
  | [] => rfl
  | d :: ds => by simp [allD, allD_map ds]
theorem allD_eq : ∀ {bs : List Dv} {ds : List D}, allD bs = some ds → bs = ds.map .d
  | [], _, h => by cases h; rfl
  | .d x :: r, _, h => by
    unfold allD at h
    cases q : allD r with
    | none => rw [q] at h; cases h
    | some xs => rw [q] at h; cases h; rw [allD_eq q]; rfl
  | .c _ :: _, _, h => by cases h
  | .f _ :: _, _, h => by cases h
theorem RpA_of_Rvs {G : GT} {w : Wd} : ∀ {vs : List V} {ds : List D}, Rvs G w vs (ds.map .d) → RpA G.K w.I vs ds
  | _, [], h => by cases h; exact .nil
  | _, d :: ds, h => by
    cases h with
    | cons r t => exact .cons r (RpA_of_Rvs t)

/-! ### worlds -/
theorem ne_mem {l : List Addr} {a p : Addr} (h : a ∈ l) (n : p ∉ l) : a ≠ p := fun z => n (z ▸ h)
theorem ne_get {l : List Addr} {a p : Addr} {i : Nat} (h : l[i]? = some a) (n : p ∉ l) : a ≠ p := ne_mem (List.mem_of_getElem? h) n
theorem Rv.cong {G : GT} {w w' : Wd} (hI : w'.I = w.I) (hα : w'.α = w.α) {v : V} : ∀ {b : Dv}, Rv G w v b → Rv G w' v b
  | .d _, r => by unfold Rv at r ⊢; rw [hI]; exact r
  | .c _, r => by unfold Rv at r ⊢; rw [hα]; exact r
  | .f _, r => r
theorem Rvs.cong {G : GT} {w w' : Wd} (hI : w'.I = w.I) (hα : w'.α = w.α) : ∀ {vs : List V} {bs : List Dv}, Rvs G w vs bs → Rvs G w' vs bs
  | _, _, .nil => .nil
  | _, _, .cons r t => .cons (Rv.cong hI hα r) (Rvs.cong hI hα t)
theorem EnvR.cong {G : GT} {w w' : Wd} (hI : w'.I = w.I) (hα : w'.α = w.α) {σ : L2.St} {ρ : DEnv} (e : EnvR G w σ ρ) : EnvR G w' σ ρ :=
  ⟨e.1, fun i b q => let ⟨v, h1, h2⟩ := e.2 i b q; ⟨v, h1, Rv.cong hI hα h2⟩⟩
theorem CellAt.cong {G : GT} {w w' : Wd} {H H' : Hp} {a : Addr} (hI : w.I a = none → w'.I a = none) (le : Same w.I w'.I ∧ w.α <+: w'.α) (hH : H' a = H a) : ∀ {c : Cell}, CellAt G w H a c → CellAt G w' H' a c := by
  have rv : ∀ {v b}, Rv G w v b → Rv G w' v b := fun {v b} r => by
    cases b with
    | d x => exact Rp.mono le.1 _ _ r
    | c n => obtain ⟨a, e, q⟩ := r; exact ⟨a, pre_get le.2 e, q⟩
    | f n => exact r
  intro c h
  cases c with
  | lst xs =>
    obtain ⟨h1, vs, h2, h3⟩ := h
    exact ⟨hI h1, vs, by rw [hH]; exact h2, Paired.imp (fun _ _ => rv) h3⟩
  | dic kvs =>
    obtain ⟨h1, vs, h2, h3⟩ := h
    exact ⟨hI h1, vs, by rw [hH]; exact h2, Paired.imp (fun _ _ z => ⟨z.1, rv z.2⟩) h3⟩
  | dT kvs =>
    obtain ⟨h1, vs, h2, h3⟩ := h
    exact ⟨hI h1, vs, by rw [hH]; exact h2, Paired.imp (fun _ _ z => ⟨z.1, rv z.2⟩) h3⟩
  | obj C fs =>
    obtain ⟨h1, Ca, dx, vs, h0, h2, h3⟩ := h
    exact ⟨hI h1, Ca, dx, vs, h0, by rw [hH]; exact h2, Paired.imp (fun _ _ z => ⟨z.1, rv z.2⟩) h3⟩
  | tup xs =>
    obtain ⟨h1, its, vs, h2, h3⟩ := h
    exact ⟨hI h1, its, vs, by rw [hH]; exact h2, Paired.imp (fun _ _ => rv) h3⟩
  | exc C fs =>
    obtain ⟨h1, Ca, h0, h2⟩ := h
    refine ⟨hI h1, Ca, h0, ?_⟩
    rcases h2 with ⟨h2, h3⟩ | ⟨dx, ws, h2, h3, h4⟩
    · exact .inl ⟨h2, by rw [hH]; exact h3⟩
    · exact .inr ⟨dx, ws, by rw [hH]; exact h2, le.1 _ _ h3, Paired.imp (fun _ _ z => ⟨z.1, rv z.2⟩) h4⟩
  | dead => trivial
section
variable {G : GT} {w : Wd} {μ : Store} {H : Hp}
theorem Lay.na (l : Lay G w μ H) {p : Addr} (np : H p = none) : w.I p = none ∧ p ∉ w.α ∧ w.F p = none := by
  refine ⟨l.same.free np, fun hm => ?_, l.fr.free np⟩
  obtain ⟨o, e⟩ := l.lv p hm
  rw [np] at e
  cases e
/-- an object of no concern -/
theorem Lay.other (l : Lay G w μ H) {p : Addr} (h1 : w.I p = none) (h2 : p ∉ w.α) (h3 : w.F p = none) (o : HO) : Lay G w μ (upd H p o) where
  same := fun b u e => by rw [upd_ne (fun z => by rw [z, h1] at e; cases e)]; exact l.same b u e
  len := l.len
  nd := l.nd
  lv := fun a ha => by rw [upd_ne (ne_mem ha h2)]; exact l.lv a ha
  fr := fun b u e => by rw [upd_ne (fun z => by rw [z, h3] at e; cases e)]; exact l.fr b u e
  fd := l.fd
  di := l.di
  at_ := fun n c a e q => (l.at_ n c a e q).cong (fun z => z) ⟨Same.refl _, List.prefix_refl _⟩ (upd_ne (ne_get q h2))
abbrev Wd.put (w : Wd) (p : Addr) (o : HO) : Wd := ⟨upd w.I p o, w.α, w.F⟩
theorem same_upd {I : Hp} {p : Addr} {o : HO} (n : I p = none) : Same I (upd I p o) := fun b u e => by rw [upd_ne (ne_of_none e n)]; exact e
/-- a new object, frozen at once -/
theorem Lay.new (l : Lay G w μ H) {p : Addr} (np : H p = none) (o : HO) : w.le (w.put p o) ∧ Lay G (w.put p o) μ (upd H p o) := by
  obtain ⟨h1, h2, h3⟩ := l.na np
  have l2 := l.other h1 h2 h3 o
  refine ⟨⟨same_upd h1, List.prefix_refl _, Same.refl _⟩, fun b u e => ?_, l2.len, l2.nd, l2.lv, l2.fr, l2.fd, fun a u e => ?_, fun n c a e q => ?_⟩
  · by_cases z : b = p
    · subst z; have e : upd w.I b o b = some u := e; rw [upd_same] at e; rw [upd_same]; exact e
    · have e : upd w.I p o b = some u := e
      rw [upd_ne z] at e; exact l2.same b u e
  · have : a ≠ p := fun z => by rw [z, h3] at e; cases e
    show upd w.I p o a = none
    rw [upd_ne this]; exact l.di a u e
  · have ap : a ≠ p := ne_get q h2
    exact CellAt.cong (w' := w.put p o) (fun z => by show upd w.I p o a = none; rw [upd_ne ap]; exact z) ⟨same_upd h1, List.prefix_refl _⟩ rfl (l2.at_ n c a e q)
abbrev Wd.ext (w : Wd) (p : Addr) : Wd := ⟨w.I, w.α ++ [p], w.F⟩
/-- a new object, a cell -/
theorem Lay.cell (l : Lay G w μ H) {p : Addr} (np : H p = none) {o : HO} {c : Cell} (hc : ∀ H', H' p = some o → CellAt G (w.ext p) H' p c) : w.le (w.ext p) ∧ Lay G (w.ext p) (μ ++ [c]) (upd H p o) := by
  obtain ⟨h1, h2, h3⟩ := l.na np
  have l2 := l.other h1 h2 h3 o
  refine ⟨⟨Same.refl _, List.prefix_append _ _, Same.refl _⟩, l2.same, by simp [l2.len], ?_, fun a ha => ?_, l2.fr, fun a ha => ?_, l2.di, fun n c' a e q => ?_⟩
  · refine List.nodup_append.mpr ⟨l.nd, by simp, fun a ha b hb => ?_⟩
    simp at hb
    subst hb
    exact ne_mem ha h2
  · rcases List.mem_append.mp ha with ha | ha
    · exact l2.lv a ha
    · simp at ha; subst ha; exact ⟨o, upd_same⟩
  · rcases List.mem_append.mp ha with ha | ha
    · exact l2.fd a ha
    · simp at ha; subst ha; exact h3
  · by_cases hn : n < μ.length
    · rw [List.getElem?_append_left hn] at e
      have q : (w.α ++ [p])[n]? = some a := q
      rw [List.getElem?_append_left (by rw [l.len]; exact hn)] at q
      exact CellAt.cong (w := w) (w' := w.ext p) (fun z => z) ⟨Same.refl _, List.prefix_append _ _⟩ rfl (l2.at_ n c' a e q)
    · have hn' : n = μ.length := by
        have := (List.getElem?_eq_some_iff.mp e).1
        simp at this
        omega
      subst hn'
      have q : (w.α ++ [p])[μ.length]? = some a := q
      rw [← l.len, List.getElem?_append_right (Nat.le_refl _)] at q
      rw [List.getElem?_append_right (Nat.le_refl _)] at e
      simp at q e
      subst q e
      exact hc _ upd_same
abbrev Wd.priv (w : Wd) (p : Addr) (o : HO) : Wd := ⟨w.I, w.α, upd w.F p o⟩
abbrev Wd.unp (w : Wd) (p : Addr) : Wd := ⟨w.I, w.α, fun b => if b = p then none else w.F b⟩
theorem Lay.priv (l : Lay G w μ H) {p : Addr} {o : HO} (h1 : w.I p = none) (h2 : p ∉ w.α) (h3 : w.F p = none) (e : H p = some o) : w.le (w.priv p o) ∧ Lay G (w.priv p o) μ H := by
  refine ⟨⟨Same.refl _, List.prefix_refl _, same_upd h3⟩, l.same, l.len, l.nd, l.lv, fun b u q => ?_, fun a ha => ?_, fun a u q => ?_, fun n c a e' q => (l.at_ n c a e' q).cong (fun z => z) ⟨Same.refl _, List.prefix_refl _⟩ rfl⟩
  · by_cases z : b = p
    · subst z; have q : upd w.F b o b = some u := q; rw [upd_same] at q; rw [← q]; exact e
    · have q : upd w.F p o b = some u := q; rw [upd_ne z] at q; exact l.fr b u q
  · show upd w.F p o a = none
    rw [upd_ne (ne_mem ha h2)]; exact l.fd a ha
  · by_cases z : a = p
    · subst z; exact h1
    · have q : upd w.F p o a = some u := q; rw [upd_ne z] at q; exact l.di a u q
/-- the private object is written, and private no more -/
theorem Lay.unp {w0 : Wd} (l : Lay G w μ H) {p : Addr} {o : HO} (le : (w0.priv p o).le w) (h3 : w0.F p = none) (o' : HO) : w0.le (w.unp p) ∧ Lay G (w.unp p) μ (upd H p o') ∧ H p = some o ∧ w.I p = none ∧ p ∉ w.α := by
  have hF : w.F p = some o := le.2.2 p o upd_same
  have hI : w.I p = none := l.di p o hF
  have hα : p ∉ w.α := fun hm => by have := l.fd p hm; rw [hF] at this; cases this
  have w0F : ∀ b u, w0.F b = some u → b ≠ p := fun b u e z => by rw [z, h3] at e; cases e
  refine ⟨⟨le.1, le.2.1, fun b u e => ?_⟩, ⟨fun b u e => ?_, l.len, l.nd, fun a ha => ?_, fun b u e => ?_, fun a ha => ?_, fun a u e => ?_, fun n c a e q => ?_⟩, l.fr p o hF, hI, hα⟩
  · show (if b = p then none else w.F b) = some u
    rw [if_neg (w0F b u e)]
    exact le.2.2 b u (by show upd w0.F p o b = some u; rw [upd_ne (w0F b u e)]; exact e)
  · rw [upd_ne (fun z => by have e : w.I b = some u := e; rw [z, hI] at e; cases e)]; exact l.same b u e
  · rw [upd_ne (ne_mem ha hα)]; exact l.lv a ha
  · have e : (if b = p then none else w.F b) = some u := e
    by_cases z : b = p
    · rw [if_pos z] at e; cases e
    · rw [if_neg z] at e; rw [upd_ne z]; exact l.fr b u e
  · show (if a = p then none else w.F a) = none
    split
    · rfl
    · exact l.fd a ha
  · have e : (if a = p then none else w.F a) = some u := e
    by_cases z : a = p
    · rw [if_pos z] at e; cases e
    · rw [if_neg z] at e; exact l.di a u e
  · exact (l.at_ n c a e q).cong (fun z => z) ⟨Same.refl _, List.prefix_refl _⟩ (upd_ne (ne_get q hα))
end

/-! ### displays -/
def dList (bs : List Dv) (μ : Store) : Out Dv := match allD bs with
  | some ds => if ds.length ≤ sizeLine then .ok (.d (.list ds)) μ else .bad
  | none => .bad
def dTup (bs : List Dv) (μ : Store) : Out Dv := match allD bs with
  | some ds => if ds.length ≤ sizeLine then .ok (.d (.tuple ds)) μ else .bad
  | none => .bad
/-- a new list that may be changed -/
def cList (bs : List Dv) (μ : Store) : Out Dv := if bs.length ≤ sizeLine then .ok (.c μ.length) (μ ++ [.lst bs]) else .bad
section
variable {X : Cx} {G : GT} {W : WX} {es : List Expr} {mas : MA} {pos : Pos} {σ : L2.St} {w : Wd} {μ : Store} {H : Hp} {Q : VK}
theorem list_new {xs : List V} {bs : List Dv} (l : Lay G w μ H) (r : Rvs G w xs bs) (p : Pst G W σ (Rv G) w (dList bs μ) Q) : xs.length ≤ sizeLine ∧ ∀ a, H a = none → Q (.ref a) (upd H a (.lst xs)) := by
  unfold dList at p
  cases q : allD bs with
  | none => rw [q] at p; exact p.elim
  | some ds =>
    rw [q] at p
    have p : Pst G W σ (Rv G) w (if ds.length ≤ sizeLine then .ok (.d (.list ds)) μ else .bad) Q := p
    by_cases z : ds.length ≤ sizeLine
    · rw [if_pos z] at p
      rw [allD_eq q] at r
      have ra := RpA_of_Rvs r
      refine ⟨by rw [ra.length]; exact z, fun a na => ?_⟩
      obtain ⟨le, l2⟩ := l.new na (.lst xs)
      exact p _ (.ref a) _ le l2 (.lst (SqL.of upd_same) (RpA.mono le.1 _ _ ra))
    · rw [if_neg z] at p
      exact p.elim
/-! ### new tuples, whose objects have no dict -/
def tTupS (t : TA) : TE := fun σ H Q => t σ H fun xs H1 => xs.length ≤ sizeLine ∧ ∀ p its, H1 p = none → Q (.ref p) (upd H1 p (frT its xs))
theorem frT_ok {P : Program} {w : World} {H : Hp} {h : Heap} {a : Addr} {its : List Value} {xs : List V} (z : xs.length ≤ sizeLine) (r : Vals xs its) (e : h.get? a = some { cls := .type "tuple", data := .seq its.toArray }) : ObjOk P w H h a (frT its.toArray xs) :=
  ⟨e, z, its, r, ⟨_, e, rfl, _, rfl⟩⟩
theorem pe_tupS {X : Cx} {es : List Expr} {t : TA} {pos : Pos} {x1} (h : PA X es t) : PE X (.Tuple es x1 pos) (tTupS t) := by
  refine ⟨fun pins s σ H Q I hq => ?_⟩
  refine wpAny_Tuple_spliced (thn (h.run pos pins s σ H _ I hq) fun us s1 ⟨xs, H1, I1, r, z, q⟩ => ⟨by rw [← r.length]; exact z, ?_⟩)
  have hf : H1 s1.heap.objs.size = none := I1.hok.fresh (Nat.le_refl _)
  exact ⟨.ref s1.heap.objs.size, upd H1 s1.heap.objs.size (frT us.toArray xs), I1.laid (t' := s1.toks) (fun b u e => Heap.get?_push_of_some _ e) (Nat.le_refl _) (frT_ok z r (Heap.get?_push_size _ rfl)), rfl, q _ _ hf⟩
theorem tup_new {xs : List V} {bs : List Dv} (l : Lay G w μ H) (r : Rvs G w xs bs) (p : Pst G W σ (Rv G) w (dTup bs μ) Q) : xs.length ≤ sizeLine ∧ ∀ a its, H a = none → Q (.ref a) (upd H a (frT its xs)) := by
  unfold dTup at p
  cases q : allD bs with
  | none => rw [q] at p; exact p.elim
  | some ds =>
    rw [q] at p
    have p : Pst G W σ (Rv G) w (if ds.length ≤ sizeLine then .ok (.d (.tuple ds)) μ else .bad) Q := p
    by_cases z : ds.length ≤ sizeLine
    · rw [if_pos z] at p
      rw [allD_eq q] at r
      have ra := RpA_of_Rvs r
      refine ⟨by rw [ra.length]; exact z, fun a its na => ?_⟩
      obtain ⟨le, l2⟩ := l.new na (frT its xs)
      exact p _ (.ref a) _ le l2 (.tup (SqS.of upd_same) (RpA.mono le.1 _ _ ra))
    · rw [if_neg z] at p
      exact p.elim
theorem list_cell {xs : List V} {bs : List Dv} (l : Lay G w μ H) (r : Rvs G w xs bs) (p : Pst G W σ (Rv G) w (cList bs μ) Q) : xs.length ≤ sizeLine ∧ ∀ a, H a = none → Q (.ref a) (upd H a (.lst xs)) := by
  unfold cList at p
  by_cases z : bs.length ≤ sizeLine
  · rw [if_pos z] at p
    refine ⟨by rw [Paired.length r]; exact z, fun a na => ?_⟩
    obtain ⟨h1, h2, h3⟩ := l.na na
    have le : w.le (w.ext a) := ⟨Same.refl _, List.prefix_append _ _, Same.refl _⟩
    obtain ⟨_, l2⟩ := l.cell na (o := .lst xs) (c := .lst bs) fun H' e => ⟨h1, xs, e, r.mono le⟩
    exact p _ (.ref a) _ le l2 ⟨a, by show (w.α ++ [a])[μ.length]? = some a; rw [← l.len]; simp, rfl⟩
  · rw [if_neg z] at p
    exact p.elim
theorem de_lst (ha : DA X G W es mas) : DE X G W (.List es pos) (eN dList mas) := by
  refine PE.imp (pe_lst ha) ?_
  rintro σ H Q ⟨w, μ, ρ, hl, he, p⟩
  exact tD.seq (k := fun ρ xs μ => dList xs μ) hl he p fun w1 μ1 H1 v b l1 lay1 en1 r1 p1 => list_new lay1 r1 p1
theorem de_lstC (ha : DA X G W es mas) : DE X G W (.List es pos) (eN cList mas) := by
  refine PE.imp (pe_lst ha) ?_
  rintro σ H Q ⟨w, μ, ρ, hl, he, p⟩
  exact tD.seq (k := fun ρ xs μ => cList xs μ) hl he p fun w1 μ1 H1 v b l1 lay1 en1 r1 p1 => list_cell lay1 r1 p1
theorem de_tup {x1} (ha : DA X G W es mas) : DE X G W (.Tuple es x1 pos) (eN dTup mas) := by
  refine PE.imp (pe_tupS ha) ?_
  rintro σ H Q ⟨w, μ, ρ, hl, he, p⟩
  exact tD.seq (k := fun ρ xs μ => dTup xs μ) hl he p fun w1 μ1 H1 v b l1 lay1 en1 r1 p1 => tup_new lay1 r1 p1
end

/-! ### comprehensions -/
abbrev W0 : WX := fun _ _ _ _ => False
def wipeD (ρ : DEnv) : List Nat → DEnv
  | [] => ρ
  | v :: vs => (wipeD ρ vs).set v none
def tYesM : MT := fun _ μ => .ok true μ
def lcM (g : MG) (tt : MT) (te : ME) (ρ : DEnv) : List Dv → Store → Out (List Dv)
  | [], μ => .ok [] μ
  | b :: bs, μ => (g b ρ μ).gb fun ρ' μ => (tt ρ' μ).gb fun k μ => if k = true then (te ρ' μ).gb fun y μ => (lcM g tt te ρ bs μ).gb fun ys μ => .ok (y :: ys) μ else lcM g tt te ρ bs μ
def lcF (fin : OpN) (g : MG) (tt : MT) (te : ME) (vs : List Nat) (ρ : DEnv) (bs : List Dv) (μ : Store) : Out Dv :=
  if bs.length ≤ sizeLine then (lcM g tt te (wipeD ρ vs) bs μ).gb fin else .bad
def eLc (fin : OpN) (mi : MI) (g : MG) (tt : MT) (te : ME) (vs : List Nat) : ME := fun ρ μ => (mi ρ μ).bind fun bs μ => lcF fin g tt te vs ρ bs μ
theorem wipe_get (σ : L2.St) (i : Nat) : ∀ vs : List Nat, (wipe σ vs)[i]? = if i ∈ vs ∧ i < σ.length then some none else σ[i]?
  | [] => by simp [wipe]
  | v :: vs => by
    unfold wipe
    by_cases h : v = i
    · subst h
      by_cases hl : v < σ.length
      · rw [List.getElem?_set_self (by rw [wipe_length]; exact hl), if_pos ⟨by simp, hl⟩]
      · rw [List.getElem?_eq_none (by rw [List.length_set, wipe_length]; omega), if_neg (fun z => hl z.2), List.getElem?_eq_none (by omega)]
    · rw [List.getElem?_set_ne h, wipe_get σ i vs]
      have : (i ∈ v :: vs ∧ i < σ.length) ↔ (i ∈ vs ∧ i < σ.length) := by
        simp only [List.mem_cons]
        constructor
        · rintro ⟨a | a, b⟩
          · exact absurd a.symm h
          · exact ⟨a, b⟩
        · rintro ⟨a, b⟩
          exact ⟨.inr a, b⟩
      simp only [this]
theorem wipe_agr {S vs : List Nat} {σ σ' : L2.St} (h : Agr S (wipe σ vs) σ') (hs : ∀ i ∈ S, i ∈ vs) : wipe σ' vs = wipe σ vs := by
  have hl : σ'.length = σ.length := by rw [h.1, wipe_length]
  apply List.ext_getElem?
  intro i
  rw [wipe_get, wipe_get, hl]
  by_cases z : i ∈ vs ∧ i < σ.length
  · rw [if_pos z, if_pos z]
  · rw [if_neg z, if_neg z]
    by_cases hi : i ∈ S
    · have : ¬ i < σ.length := fun q => z ⟨hs i hi, q⟩
      rw [List.getElem?_eq_none (by omega), List.getElem?_eq_none (by omega)]
    · rw [h.2 i hi, wipe_get, if_neg z]
theorem EnvR.wipe {G : GT} {w : Wd} {σ : L2.St} {ρ : DEnv} (e : EnvR G w σ ρ) : ∀ vs : List Nat, EnvR G w (L2.wipe σ vs) (wipeD ρ vs)
  | [] => e
  | v :: vs => by
    have ih := EnvR.wipe e vs
    unfold L2.wipe wipeD
    refine ⟨by rw [List.length_set, List.length_set]; exact ih.1, fun i b q => ?_⟩
    by_cases h : v = i
    · subst h
      by_cases hl : v < (wipeD ρ vs).length
      · rw [List.getElem?_set_self hl] at q; cases q
      · rw [List.getElem?_eq_none (by rw [List.length_set]; omega)] at q; cases q
    · rw [List.getElem?_set_ne h] at q
      obtain ⟨v', h1, h2⟩ := ih.2 i b q
      exact ⟨v', by rw [List.getElem?_set_ne h]; exact h1, h2⟩
theorem Lay.stay {G : GT} {w : Wd} {μ : Store} {H : Hp} {a : Addr} {vs : List V} (l : Lay G w μ H) (h1 : w.I a = none) (h2 : a ∉ w.α) (h3 : w.F a = none) (e : H a = some (.lst vs)) : w.le (w.put a (.lst vs)) ∧ Lay G (w.put a (.lst vs)) μ H := by
  refine ⟨⟨same_upd h1, List.prefix_refl _, Same.refl _⟩, fun b u q => ?_, l.len, l.nd, l.lv, l.fr, l.fd, fun b u q => ?_, fun n c b q1 q2 => ?_⟩
  · by_cases z : b = a
    · subst z; have q : upd w.I b (.lst vs) b = some u := q; rw [upd_same] at q; rw [← q]; exact e
    · have q : upd w.I a (.lst vs) b = some u := q; rw [upd_ne z] at q; exact l.same b u q
  · have : b ≠ a := fun z => by rw [z, h3] at q; cases q
    show upd w.I a _ b = none
    rw [upd_ne this]; exact l.di b u q
  · have ap : b ≠ a := ne_get q2 h2
    exact CellAt.cong (w' := w.put a (.lst vs)) (fun z => by show upd w.I a _ b = none; rw [upd_ne ap]; exact z) ⟨same_upd h1, List.prefix_refl _⟩ rfl (l.at_ n c b q1 q2)
/-- what becomes of the list that is made: frozen, or a cell -/
def OkFin (G : GT) (fin : OpN) : Prop := ∀ (W : WX) (σ : L2.St) (w : Wd) (μ : Store) (H : Hp) (a : Addr) (vs : List V) (bs : List Dv) (Q : VK), Lay G w μ H → w.I a = none → a ∉ w.α → w.F a = none → H a = some (.lst vs) → Rvs G w vs bs →
  Pst G W σ (Rv G) w (fin bs μ) Q → Q (.ref a) H
theorem fin_list {G : GT} : OkFin G dList := by
  intro W σ w μ H a vs bs Q l h1 h2 h3 e r p
  unfold dList at p
  cases q : allD bs with
  | none => rw [q] at p; exact p.elim
  | some ds =>
    rw [q] at p
    have p : Pst G W σ (Rv G) w (if ds.length ≤ sizeLine then .ok (.d (.list ds)) μ else .bad) Q := p
    by_cases z : ds.length ≤ sizeLine
    · rw [if_pos z] at p
      rw [allD_eq q] at r
      have ra := RpA_of_Rvs r
      obtain ⟨le, l2⟩ := l.stay h1 h2 h3 e
      exact p _ (.ref a) _ le l2 (.lst (SqL.of upd_same) (RpA.mono le.1 _ _ ra))
    · rw [if_neg z] at p
      exact p.elim
section
variable {X : Cx} {G : GT} {W : WX} {mi : MI} {g : MG} {tt : MT} {te : ME} {S vs : List Nat} {fin : OpN}
theorem lc_kern (hf : OkFin G fin) (hS : ∀ i ∈ S, i ∈ vs) {σ : L2.St} {Q : VK} {w1 : Wd} {μ1 : Store} {H1 : Hp} {J : It} {bs : List Dv} {ρ : DEnv} (lay1 : Lay G w1 μ1 H1) (en1 : EnvR G w1 σ ρ) (it : ItR G w1 J bs) (p1 : Pst G W σ (Rv G) w1 (lcF fin g tt te vs ρ bs μ1) Q) :
    ∀ D, H1 D = none → ∃ W : Nat → Nat → Hp → Prop, (∃ m, W 0 m (upd H1 D (.lst []))) ∧ ∀ i m H, W i m H → (J.stop i H ∧ Q (.ref D) H) ∨ (J.go i H ∧ ∃ Nx : Hp → Prop, (∀ H', Nx H' → ∃ m', m' < m ∧ W (i + 1) m' H') ∧
      ∀ x H', J.yld i H x H' → tG G S g x (L2.wipe σ vs) H' fun σ2 H2 => L2.wipe σ2 vs = L2.wipe σ vs ∧ tT G W0 tt σ2 H2 fun b H3 => if b = true then tE G W0 te σ2 H3 fun y H4 => ∃ acc, H4 D = some (.lst acc) ∧ acc.length < sizeLine ∧ Nx (upd H4 D (.lst (acc ++ [y]))) else Nx H3) := by
  intro a na
  unfold lcF at p1
  by_cases hz : bs.length ≤ sizeLine
  case neg => rw [if_neg hz] at p1; exact p1.elim
  rw [if_pos hz] at p1
  obtain ⟨n1, n2, n3⟩ := lay1.na na
  refine ⟨fun i m H => m = bs.length - i ∧ i ≤ bs.length ∧ ∃ w2 μ2 us acc, w1.le w2 ∧ Lay G w2 μ2 H ∧ H a = some (.lst us) ∧ w2.I a = none ∧ a ∉ w2.α ∧ w2.F a = none ∧ Rvs G w2 us acc ∧ acc.length ≤ i ∧
    Pst G W σ (Rv G) w2 ((lcM g tt te (wipeD ρ vs) (bs.drop i) μ2).gb fun ys μ => fin (acc ++ ys) μ) Q, ⟨bs.length, by simp, Nat.zero_le _, w1, μ1, [], [], w1.le_refl, lay1.other n1 n2 n3 _, upd_same, n1, n2, n3, .nil, Nat.le_refl _, p1⟩, ?_⟩
  rintro i m H2 ⟨rfl, hi, w2, μ2, us, acc, l2, lay2, e2, i2, a2, f2, r2, hacc, p2⟩
  by_cases hlt : i < bs.length
  · refine .inr ⟨it.go i w2 μ2 H2 hlt l2 lay2, fun H => ∃ w2 μ2 us acc, w1.le w2 ∧ Lay G w2 μ2 H ∧ H a = some (.lst us) ∧ w2.I a = none ∧ a ∉ w2.α ∧ w2.F a = none ∧ Rvs G w2 us acc ∧ acc.length ≤ i + 1 ∧
      Pst G W σ (Rv G) w2 ((lcM g tt te (wipeD ρ vs) (bs.drop (i + 1)) μ2).gb fun ys μ => fin (acc ++ ys) μ) Q, fun H' q => ⟨bs.length - (i + 1), by omega, rfl, hlt, q⟩, fun x H' y => ?_⟩
    have eb : bs[i]? = some bs[i] := by simp [hlt]
    obtain ⟨lp, layp⟩ := lay2.priv i2 a2 f2 e2
    obtain ⟨w3, l3, lay3, r3⟩ := it.yld i _ _ μ2 H2 x H' eb (l2.trans lp) layp y
    have en3 : EnvR G w3 (wipe σ vs) (wipeD ρ vs) := (en1.wipe vs).mono ((l2.trans lp).trans l3)
    refine ⟨w3, μ2, wipeD ρ vs, bs[i], lay3, en3, r3, ?_⟩
    rw [List.drop_eq_getElem_cons hlt] at p2
    unfold lcM at p2
    cases q : g bs[i] (wipeD ρ vs) μ2 with
    | bad => rw [q] at p2; exact p2.elim
    | ex _ _ => rw [q] at p2; exact p2.elim
    | ok ρ4 μ4 =>
      rw [q] at p2
      intro w4 σ4 H4 l4 lay4 en4 ag
      refine ⟨wipe_agr ag hS, w4, μ4, ρ4, lay4, en4, ?_⟩
      cases q5 : tt ρ4 μ4 with
      | bad => simp only [gb_ok, q5] at p2; exact p2.elim
      | ex _ _ => simp only [gb_ok, q5] at p2; exact p2.elim
      | ok k μ5 =>
        simp only [gb_ok, q5] at p2
        intro w5 v5 H5 l5 lay5 r5
        have r5 : v5 = k := r5
        subst r5
        have lw5 : (w2.priv a (.lst us)).le w5 := (l3.trans l4).trans l5
        cases v5 with
        | false =>
          simp only [Bool.false_eq_true, if_false] at p2
          obtain ⟨le6, lay6, e6, i6, a6⟩ := lay5.unp lw5 f2 (.lst us)
          have hH : upd H5 a (.lst us) = H5 := by
            funext b
            by_cases z : b = a
            · subst z; rw [upd_same, e6]
            · rw [upd_ne z]
          rw [hH] at lay6
          exact ⟨w5.unp a, μ5, us, acc, l2.trans le6, lay6, e6, i6, a6, if_pos rfl, r2.mono le6, by omega, Pst.mono le6 p2⟩
        | true =>
          simp only [if_true] at p2
          refine ⟨w5, μ5, ρ4, lay5, en4.mono l5, ?_⟩
          cases q6 : te ρ4 μ5 with
          | bad => rw [q6] at p2; exact p2.elim
          | ex _ _ => rw [q6] at p2; exact p2.elim
          | ok y μ6 =>
            rw [q6] at p2
            intro w6 v6 H6 l6 lay6 r6
            obtain ⟨le7, lay7, e7, i7, a7⟩ := lay6.unp (lw5.trans l6) f2 (.lst (us ++ [v6]))
            refine ⟨us, e7, by rw [Paired.length r2]; omega, w6.unp a, μ6, us ++ [v6], acc ++ [y], l2.trans le7, lay7, upd_same, i7, a7, if_pos rfl, ?_, by simp; omega, ?_⟩
            · have h1 := r2.mono le7
              have h2 : Rv G (w6.unp a) v6 y := Rv.cong rfl rfl r6
              exact Paired.rec (motive := fun l m _ => Rvs G (w6.unp a) (l ++ [v6]) (m ++ [y])) (.cons h2 .nil) (fun r _ ih => .cons r ih) h1
            · have p3 := Pst.mono le7 p2
              cases q7 : lcM g tt te (wipeD ρ vs) (bs.drop (i + 1)) μ6 with
              | bad => simp only [gb_ok, q7] at p3; exact p3.elim
              | ex _ _ => simp only [gb_ok, q7] at p3; exact p3.elim
              | ok ys μ7 =>
                simp only [gb_ok, q7] at p3
                simp only [gb_ok, List.append_assoc, List.singleton_append]
                exact p3
  · refine .inl ⟨it.stop i w2 μ2 H2 (by omega) l2 lay2, ?_⟩
    rw [List.drop_of_length_le (by omega)] at p2
    simp only [lcM, gb_ok, List.append_nil] at p2
    exact hf W σ w2 μ2 H2 a us acc Q lay2 i2 a2 f2 e2 r2 p2
theorem lc_imp (hf : OkFin G fin) (hS : ∀ i ∈ S, i ∈ vs) : ∀ σ H Q, tE G W (eLc fin mi g tt te vs) σ H Q → tLc (tI G W mi) (tG G S g) (tT G W0 tt) (tE G W0 te) vs σ H Q := by
  rintro σ H Q ⟨w, μ, ρ, hl, he, p⟩
  refine tD.seq (k := fun ρ bs μ => lcF fin g tt te vs ρ bs μ) hl he p fun w1 μ1 H1 J bs l1 lay1 en1 it p1 => ?_
  exact lc_kern hf hS lay1 en1 it p1
theorem dts_nil {X : Cx} : PTs X [] (tT G W tYesM) := ⟨fun pins s σ H Q I h => by
  obtain ⟨w, μ, ρ, hl, he, p⟩ := h
  exact pts_nil.run pins s σ H Q I (p w true H w.le_refl hl rfl)⟩
theorem dts_one {X : Cx} {c : Expr} (h : DT X G W c tt) : PTs X [c] (tT G W tt) := pts_one h
theorem de_lc {elt tg iter : Expr} {ifs : List Expr} {scope : Scope} (own : List (Str × Nat)) {pos : Pos} (hf : OkFin G fin) (hc : X.calm = true) (hN : X.N.Nodup) (hi : DI X G W tg iter mi) (ok : BlkOk X.N X.env.scope scope own)
    (hg : ∀ (s : Shared) (H : Hp) (C : Addr) (cl : List (Str × Addr)) (fp : List Addr), DG (X.blk s H scope (compEnvC scope cl C X.env) fp) G S tg g) (ht : ∀ (s : Shared) (H : Hp) (C : Addr) (cl : List (Str × Addr)) (fp : List Addr), PTs (X.blk s H scope (compEnvC scope cl C X.env) fp) ifs (tT G W0 tt))
    (he : ∀ (s : Shared) (H : Hp) (C : Addr) (cl : List (Str × Addr)) (fp : List Addr), DE (X.blk s H scope (compEnvC scope cl C X.env) fp) G W0 elt te) (hS : ∀ i ∈ S, i ∈ own.map (·.2) := by decide) (hs : ∀ x, foldedSetIterable iter X.env x = pure x := by intro _; rfl) :
    DE X G W (.ListComp elt [⟨tg, iter, ifs, 0⟩] scope pos) (eLc fin mi g tt te (own.map (·.2))) := PE.imp (pe_lc hc hN hi ok hg ht he hs) (lc_imp hf hS)
end
end DL

/-! A def's promise where no repr is under way around it (so that repr of data may be asked within): its rule, its calls, a law's end. -/
namespace DL
open PySem PySem.Spec PyProof.Rows L2

/-- as FnOk, told of calls with nothing guarded around -/
structure FnG (P : Program) (w : World) (K : PySem.W.Frag) (mg : Str → Option Value) (base : Heap) (k : Nat) (f : Addr) (fd : FuncData) (ps : List Str) (sp : Sp) : Prop where
  len : ∀ vs H Q E, sp vs H Q E → vs.length = ps.length
  run : ∀ (A : Around) (outer : List Env) (s : Shared) (H : Hp) (args : Args) (us : List Value) (vs : List V) (Q : VK) (E : XK), A.guards = some [] → Room k A → Env0 P w K mg base A outer s H → BindsTo s fd args (ps.zip us) → Vals vs us → sp vs H Q E →
    codeAny (model P w) A (.call (.ref f) args) (CR (L2.CX P w) outer P w H s Q E) s
theorem FnG.mono {P : Program} {w : World} {K : PySem.W.Frag} {mg : Str → Option Value} {base : Heap} {j k : Nat} {f : Addr} {fd : FuncData} {ps : List Str} {sp : Sp} (F : FnG P w K mg base j f fd ps sp) (h : j ≤ k) : FnG P w K mg base k f fd ps sp :=
  ⟨F.len, fun A outer s H args us vs Q E g r => F.run A outer s H args us vs Q E g (r.mono h)⟩
theorem FnG.imp {P : Program} {w : World} {K : PySem.W.Frag} {mg : Str → Option Value} {base : Heap} {k : Nat} {f : Addr} {fd : FuncData} {ps : List Str} {sp sp' : Sp} (F : FnG P w K mg base k f fd ps sp) (h : ∀ vs H Q E, sp' vs H Q E → sp vs H Q E) : FnG P w K mg base k f fd ps sp' :=
  ⟨fun vs H Q E q => F.len vs H Q E (h _ _ _ _ q), fun A outer s H args us vs Q E g r e b v q => F.run A outer s H args us vs Q E g r e b v (h _ _ _ _ q)⟩

theorem guards_deeper {A : Around} {env : Env} (h : A.guards = some []) : (A.deeper env).guards = some [] := h

section
variable {P : Program} {w : World} {K : PySem.W.Frag} {mg : Str → Option Value} {base : Heap}
/-- a def of the text by its body -/
theorem fnG_of {k : Nat} {f : Addr} {name qual : Str} {params : Arguments} {body : List Stmt} {sc : Scope} {dV kV doc pm cdv ct oc : Value} {an od : Option Addr} {osl : Array (Option Value)} {N ps : List Str} {sp : Sp}
    (lk : K.lookup f = some ⟨oc, od, .func (PySem.W.fnOf name qual params body sc dV kV doc pm an cdv ct), osl⟩) (cd : PySem.W.codeIn K cdv qual = true) (S : FnScope N ps sc) (len : ∀ vs H Q E, sp vs H Q E → vs.length = ps.length)
    (bd : ∀ (A : Around) (outer : List Env) (s : Shared) (H : Hp) (vs : List V) (Q : VK) (E : XK), A.guards = some [] → Room k (A.deeper (envOfC qual sc s.heap.objs.size f cdv)) → sp vs H Q E →
      ∃ t, PSs (cxOf (L2.CX P w) P w K mg base N qual sc f cdv A outer s H E) body t ∧ t ⟨fun _ H' => Q .non H', Q, fun _ _ => False, fun _ _ => False⟩ (L2.start N vs) H) :
    FnG P w K mg base (k + 1) f (PySem.W.fnOf name qual params body sc dV kV doc pm an cdv ct) ps sp := by
  constructor
  · exact len
  intro A outer s H args us vs Q E g room e0 bt rv hsp
  have hlen : vs.length = ps.length := len vs H Q E hsp
  have inK : K.In s.heap := e0.mod.kin.keeps (fun b o q => (e0.bs b o q).1)
  have nolim : s.heap.NoLimit := e0.mod.nolimit.keeps (fun b o q => (e0.bs b o q).1)
  have kinds : ∀ z ∈ ps.zip us, sc.names.lookup z.1 = some .local ∨ (sc.names.lookup z.1 = some .cell ∧ ((cellsFrom (s.heap.objs.size + 1) sc.names []).lookup z.1).isSome = true) := by
    rintro ⟨n, v⟩ hz
    rcases S.par n (List.of_mem_zip hz).1 with h | h
    · exact Or.inl h
    · exact Or.inr ⟨h, PySem.W.cellsFrom_some _ _ _ (Or.inl h)⟩
  apply codeAny_call_function room.depth (inK _ _ lk) rfl S.co S.gen rfl (PySem.W.codeRec_of inK cd) (bt _ _ _ _ _)
  apply wpAny_newFunctionEnv_cells S.kind kinds
  rintro env rfl s1 x
  refine ⟨nolim.keeps x.toInCall.keep, ?_⟩
  apply codeAny_func
  obtain ⟨t, h1, h2⟩ := bd A outer s H vs Q E g (room.deeper _) hsp
  have I := inv_start (CX := L2.CX P w) (E := E) S room.hd e0 hlen rv x
  apply wpAny_mono (h1.run [] s1 (L2.start N vs) H _ I h2)
  · rintro fl s' q
    cases fl with
    | brk => exact (by obtain ⟨_, _, _, q⟩ := q; exact q.elim)
    | cont => exact (by obtain ⟨_, _, _, q⟩ := q; exact q.elim)
    | next =>
      obtain ⟨σ', H', J, q⟩ := q
      exact ⟨V.non, H', J.os, J.bare, J.base, J.hok, rfl, q⟩
    | ret u =>
      obtain ⟨v, σ', H', J, r, q⟩ := q
      exact ⟨v, H', J.os, J.bare, J.base, J.hok, r, q⟩
  · exact fun e s' q => q
/-- THE RULE for a def -/
theorem fn_okG {G : GT} {x qual : Str} {st : Stmt} {f : Addr} {fd : FuncData} {N ps : List Str} {k : Nat} {B : MS} (F : Fun G.K x qual st f fd) (S : FnScope N ps (defScope st))
    (hB : ∀ (cdv : Value) (A : Around) (outer : List Env) (s : Shared) (H : Hp) (E : XK), (cxOf (L2.CX P w) P w G.K mg base N qual (defScope st) f cdv A outer s H E).A.guards = some [] → Room k (cxOf (L2.CX P w) P w G.K mg base N qual (defScope st) f cdv A outer s H E).A →
      Takes (cxOf (L2.CX P w) P w G.K mg base N qual (defScope st) f cdv A outer s H E) (fun cls d _ H => E cls d H) →
      PassesOwn (model P w) (cxOf (L2.CX P w) P w G.K mg base N qual (defScope st) f cdv A outer s H E).A (cxOf (L2.CX P w) P w G.K mg base N qual (defScope st) f cdv A outer s H E).env (cxOf (L2.CX P w) P w G.K mg base N qual (defScope st) f cdv A outer s H E).xe →
      DSs (cxOf (L2.CX P w) P w G.K mg base N qual (defScope st) f cdv A outer s H E) G (fun cls d _ H => E cls d H) (defBody st) B) :
    FnG P w G.K mg base (k + 1) f fd ps (spD G ps.length (runB N.length B)) := by
  obtain ⟨oc, od, kV, doc, pm, an, cdv, ct, osl, rfl, lk, hcd⟩ := F.ex
  apply fnG_of lk hcd S (fun vs H Q E h => h.1)
  intro A outer s H vs Q E g hr h
  obtain ⟨hn, w0, μ, bs, lay, r, p⟩ := h
  have tk : Takes (cxOf (L2.CX P w) P w G.K mg base N qual (defScope st) f cdv A outer s H E) (fun cls d _ H => E cls d H) := takes_of rfl rfl rfl rfl
  refine ⟨_, hB cdv A outer s H E g hr tk (passes_of rfl), w0, μ, _, lay, env_start r, ?_⟩
  unfold runB at p
  cases q : B (bs.map some ++ List.replicate (N.length - bs.length) none) μ with
  | bad => rw [q] at p; exact p.elim
  | ex e μ' =>
    rw [q] at p
    exact fun w' cls d _ H' l lay' r' => p w' cls d H' l lay' r'
  | ok fl μ' =>
    rw [q] at p
    cases fl with
    | nx ρ => exact fun w' σ' H' l lay' _ => p w' .non H' l lay' .non
    | rt b => exact p
    | bk ρ => exact p.elim
    | ct ρ => exact p.elim
end

section
variable {X : Cx} {G : GT} {W : WX} {e : Expr} {es : List Expr} {mas : MA} {pos p : Pos} {x : Str} {k n : Nat} {f : Addr} {fd : FuncData} {ps ks : List Str} {F : OpN} {sp : Sp} {E : L2.St → XK}
theorem runG {pins : List (Addr × Obj)} {σ : L2.St} {H : Hp} {s : Shared} {Q : VK} {us : List Value} {vs : List V} {args : Args} (hF : FnG X.prog X.w X.K X.mg X.base k f fd ps sp) (g : X.A.guards = some []) (hr : Room k X.A) (hx : PassesAt (L2.CX X.prog X.w) X σ (E σ)) (I : Inv X pins σ H s)
    (hb : BindsTo s fd args (ps.zip us)) (r : Vals vs us) (h : sp vs H Q (E σ)) : codeAny (model X.prog X.w) X.A (.call (.ref f) args) (fun r s' => match r with | .ok (.ret u) => EP X pins σ Q u s' | .ok _ => False | .error e => X.xe e s') s := by
  apply codeAny_mono (hF.run X.A X.stack s H args us vs Q (E σ) g hr I.env0 hb r h)
  rintro (e | fl) s' q
  · exact hx pins H s e s' I q
  · cases fl with
    | ret u => exact I.after q
    | next => exact q.elim
    | brk => exact q.elim
    | cont => exact q.elim
theorem de_callG (hF : FnG X.prog X.w X.K X.mg X.base k f fd ps (spD G n F)) (g : X.A.guards = some []) (hr : Room k X.A) (hg : Gl X x) (hm : X.mg x = some (.ref f)) (hk : PySem.W.keepIn X.K (.ref f) = true) (hb : Binds X.K fd ps []) (tk : Takes X W)
    (ha : DA X G W (e :: es) mas) (hdb : (x == ("__debug__" : Str)) = false := by decide) (he : starEach (e :: es) X.env = (false, eval e X.env) :: starEach es X.env := by rfl) (hpl : (backTo pos (starEach es X.env)).any (·.1) = false := by rfl) :
    DE X G W (.Call (.Name x p) (e :: es) [] pos) (eN (fCall n F) mas) := by
  apply PE.imp (t := tCallSD (spD G n F) [] (WE W) (tA G W mas)) _ call_imp
  constructor
  intro pins s σ H Q I h
  apply wpAny_Call_Name_kw
  apply ld_glob I hg hm _ hdb
  apply PySem.W.callWith_K (h₀ := X.base) I.ok.mod.kin hk _ he hpl
  apply thn (ha.run pos pins s σ H _ I h)
  rintro us s1 ⟨vs, H1, I1, r, q⟩
  refine ⟨I1.kIn, ?_⟩
  rw [List.append_nil] at q
  have hl : (us ++ ([] : List Value)).length = ps.length := by rw [List.append_nil, ← r.length]; exact hF.len _ _ _ _ q
  have hb1 := hb s1 us I1.kIn hl
  rw [List.append_nil] at hb1
  apply wpAny_call
  apply codeAny_mono (runG hF g hr (fun _ _ _ _ _ I c => passAt tk σ _ _ _ _ _ I c) I1 hb1 r q)
  rintro (e | fl) s' q
  · exact q
  · cases fl with
    | ret u => exact q
    | next => exact q.elim
    | brk => exact q.elim
    | cont => exact q.elim
end
end DL

/-! Operations of the data layer: numbers, comparisons, membership. -/
namespace DL
open PySem PySem.Spec PyProof.Rows L2
section
variable {G : GT} {w : Wd} {v : V}
theorem rv_int {i : Int} (r : Rv G w v (.d (.int i))) : v = .int i := by
  have r : Rp G.K w.I v (.int i) := r
  cases r; rfl
theorem rv_str {z : Str} (r : Rv G w v (.d (.str z))) : v = .str z := by
  have r : Rp G.K w.I v (.str z) := r
  cases r; rfl
theorem rv_bl {k : Bool} (r : Rv G w v (.d (.bool k))) : v = .bl k := by
  have r : Rp G.K w.I v (.bool k) := r
  cases r; rfl
theorem rv_non (r : Rv G w v (.d .none)) : v = .non := by
  have r : Rp G.K w.I v .none := r
  cases r; rfl
theorem rv_lst {ds : List D} (r : Rv G w v (.d (.list ds))) : ∃ a xs, v = .ref a ∧ SqL G.K w.I a xs ∧ RpA G.K w.I xs ds := by
  have r : Rp G.K w.I v (.list ds) := r
  cases r with
  | lst h1 h2 => exact ⟨_, _, rfl, h1, h2⟩
theorem rv_tup {ds : List D} (r : Rv G w v (.d (.tuple ds))) : ∃ a xs, v = .ref a ∧ SqT G.K w.I a xs ∧ RpA G.K w.I xs ds := by
  have r : Rp G.K w.I v (.tuple ds) := r
  cases r with
  | tup h1 h2 => exact ⟨_, _, rfl, h1.t, h2⟩
theorem rv_tupS {ds : List D} (r : Rv G w v (.d (.tuple ds))) : ∃ a xs, v = .ref a ∧ SqS G.K w.I a xs ∧ RpA G.K w.I xs ds := by
  have r : Rp G.K w.I v (.tuple ds) := r
  cases r with
  | tup h1 h2 => exact ⟨_, _, rfl, h1, h2⟩
theorem rv_ints {ns : List Int} {xs : List V} {I : Hp} {K : PySem.W.Frag} : RpA K I xs (ns.map .int) → xs = ns.map .int := by
  induction ns generalizing xs with
  | nil => intro h; cases h; rfl
  | cons n ns ih =>
    intro h
    cases h with
    | cons r t => cases r; rw [ih t]; rfl
theorem rv_strs {ns : List Str} {xs : List V} {I : Hp} {K : PySem.W.Frag} : RpA K I xs (ns.map .str) → xs = ns.map .str := by
  induction ns generalizing xs with
  | nil => intro h; cases h; rfl
  | cons n ns ih =>
    intro h
    cases h with
    | cons r t => cases r; rw [ih t]; rfl
theorem rv_bls {ns : List Bool} {xs : List V} {I : Hp} {K : PySem.W.Frag} : RpA K I xs (ns.map .bool) → xs = ns.map .bl := by
  induction ns generalizing xs with
  | nil => intro h; cases h; rfl
  | cons n ns ih =>
    intro h
    cases h with
    | cons r t => cases r; rw [ih t]; rfl
theorem RpA_strs {K : PySem.W.Frag} {I : Hp} : ∀ ns : List Str, RpA K I (ns.map V.str) (ns.map PyData.str)
  | [] => .nil
  | n :: ns => .cons (.str n) (RpA_strs ns)
/-- the items of a list that is read: frozen, or a cell's -/
theorem rv_cell {μ : Store} {H : Hp} {n : Nat} {xs : List Dv} (l : Lay G w μ H) (r : Rv G w v (.c n)) (e : μ[n]? = some (.lst xs)) : ∃ a vs, v = .ref a ∧ w.α[n]? = some a ∧ H a = some (.lst vs) ∧ Rvs G w vs xs := by
  obtain ⟨a, h1, rfl⟩ := r
  obtain ⟨_, vs, h2, h3⟩ := l.at_ n _ a e h1
  exact ⟨a, vs, rfl, h1, h2, h3⟩
end
/-- a cell's, or a frozen list's items; a tuple's -/
def items : Dv → Store → Option (List Dv)
  | .d (.list ds), _ => some (ds.map .d)
  | .c n, μ => match μ[n]? with
    | some (.lst xs) => some xs
    | _ => none
  | _, _ => none
theorem items_ok {G : GT} {w : Wd} {v : V} {μ : Store} {H : Hp} {b : Dv} {xs : List Dv} (l : Lay G w μ H) (r : Rv G w v b) (e : items b μ = some xs) : ∃ a vs, v = .ref a ∧ SqL G.K H a vs ∧ Rvs G w vs xs := by
  unfold items at e
  split at e
  · cases e
    obtain ⟨a, vs, rfl, h1, h2⟩ := rv_lst r
    exact ⟨a, vs, rfl, seqL l.same h1, Rvs_of_RpA h2⟩
  · split at e
    · rename_i h
      cases e
      obtain ⟨a, vs, rfl, _, h2, h3⟩ := rv_cell l r h
      exact ⟨a, vs, rfl, SqL.of h2, h3⟩
    · cases e
  · cases e
def itemsT : Dv → Option (List Dv)
  | .d (.tuple ds) => some (ds.map .d)
  | _ => none
/-- the datum that a value is just now -/
def view : Dv → Store → Option D
  | .d x, _ => some x
  | .c n, μ => match μ[n]? with
    | some (.lst xs) => match allD xs with
      | some ds => some (.list ds)
      | none => none
    | _ => none
  | _, _ => none
theorem Rp.inH {G : GT} {w : Wd} {μ : Store} {H : Hp} {v : V} {x : D} (l : Lay G w μ H) (r : Rp G.K w.I v x) : Rp G.K H v x := Rp.mono l.same _ _ r
theorem view_ok {G : GT} {w : Wd} {v : V} {μ : Store} {H : Hp} {b : Dv} {x : D} (l : Lay G w μ H) (r : Rv G w v b) (e : view b μ = some x) : Rp G.K H v x := by
  cases b with
  | d y => cases e; exact Rp.inH l r
  | f n => cases e
  | c n =>
    unfold view at e
    simp only at e
    split at e
    · rename_i xs h
      split at e
      · rename_i ds q
        cases e
        obtain ⟨a, vs, rfl, _, h2, h3⟩ := rv_cell l r h
        rw [allD_eq q] at h3
        exact .lst (SqL.of h2) (RpA.mono l.same _ _ (RpA_of_Rvs h3))
      · cases e
    · cases e

/-! ### numbers -/
def dNum (C : Int → Int → Bool) (g : Int → Int → Int) : Op2 := fun x y μ => match x, y with
  | .d (.int i), .d (.int j) => if C i j = true then .ok (.d (.int (g i j))) μ else .bad
  | _, _ => .bad
theorem ok_num {G : GT} {C : Int → Int → Bool} {C' : Int → Int → Prop} {g : Int → Int → Int} (h : ∀ i j, C i j = true → C' i j) : Ok2 G (rI C' fun i j => .int (g i j)) (dNum C g) := by
  intro W σ w μ H x y b c Q l rx ry p
  unfold dNum at p
  split at p
  · rename_i i j
    by_cases q : C i j = true
    · rw [if_pos q] at p
      exact ⟨i, j, rv_int rx, rv_int ry, h i j q, p w _ H w.le_refl l (.int _)⟩
    · rw [if_neg q] at p; exact p.elim
  · exact p.elim
def dInt2 (g : Int → Int → D) : Op2 := fun x y μ => match x, y with
  | .d (.int i), .d (.int j) => .ok (.d (g i j)) μ
  | _, _ => .bad
theorem ok_int2 {G : GT} {g : Int → Int → Int} : Ok2 G (rI0 fun i j => .int (g i j)) (dInt2 fun i j => .int (g i j)) := by
  intro W σ w μ H x y b c Q l rx ry p
  unfold dInt2 at p
  split at p
  · rename_i i j
    exact ⟨i, j, rv_int rx, rv_int ry, p w _ H w.le_refl l (.int _)⟩
  · exact p.elim
theorem ok_int2b {G : GT} {g : Int → Int → Bool} : Ok2 G (rI0 fun i j => .bl (g i j)) (dInt2 fun i j => .bool (g i j)) := by
  intro W σ w μ H x y b c Q l rx ry p
  unfold dInt2 at p
  split at p
  · rename_i i j
    exact ⟨i, j, rv_int rx, rv_int ry, p w _ H w.le_refl l (.bl _)⟩
  · exact p.elim
def cMul (i j : Int) : Bool := decide ((Builtin.Int.intBits i : Int) + (Builtin.Int.intBits j : Int) ≤ 134217728)
def cDiv (_ j : Int) : Bool := decide (0 < j) && decide (j.natAbs.log2 < 9000)
def cMod (_ j : Int) : Bool := decide (0 < j)
def cPow (i j : Int) : Bool := decide (0 ≤ j) && decide (j ≤ 1000000) && decide (i.natAbs < 2 ^ 64)
abbrev dMul : Op2 := dNum cMul fun i j => i * j
abbrev dDiv : Op2 := dNum cDiv fun i j => i / j
abbrev dMod : Op2 := dNum cMod fun i j => i % j
abbrev dPow : Op2 := dNum cPow fun i j => i ^ j.toNat
theorem ok_mul {G : GT} : Ok2 G (rI CMulX fun i j => .int (i * j)) dMul := ok_num fun i j h => by
  unfold cMul at h
  unfold CMulX
  exact of_decide_eq_true h
theorem ok_div {G : GT} : Ok2 G (rI CDivW fun i j => .int (i / j)) dDiv := ok_num fun i j h => by
  unfold cDiv at h
  simp only [Bool.and_eq_true, decide_eq_true_eq] at h
  exact h
theorem ok_mod {G : GT} : Ok2 G (rI (fun _ j => 0 < j) fun i j => .int (i % j)) dMod := ok_num fun i j h => of_decide_eq_true h
theorem ok_pow {G : GT} : Ok2 G (rI CPow fun i j => .int (i ^ j.toNat)) dPow := ok_num fun i j h => by
  unfold cPow at h
  simp only [Bool.and_eq_true, decide_eq_true_eq] at h
  exact ⟨h.1.1, h.1.2, h.2⟩
abbrev dSub : Op2 := dInt2 fun i j => .int (i - j)
theorem ok_sub {G : GT} : Ok2 G (rI0 fun i j => .int (i - j)) dSub := ok_int2
def dNeg : Op1 := fun x μ => match x with
  | .d (.int i) => .ok (.d (.int (-i))) μ
  | _ => .bad
theorem ok_neg {G : GT} : Ok1 G (rU fun i => .int (-i)) dNeg := by
  intro W σ w μ H x b Q l rx p
  unfold dNeg at p
  split at p
  · exact ⟨_, rv_int rx, p w _ H w.le_refl l (.int _)⟩
  · exact p.elim

/-! ### + and * of sequences -/
/-- two lists that may be read -/
def rCatS (K : PySem.W.Frag) : R2 := fun x y H Q => ∃ l b xs zs, x = .ref l ∧ y = .ref b ∧ SqL K H l xs ∧ SqL K H b zs ∧ xs.length + zs.length ≤ sizeLine ∧ ∀ p, H p = none → Q (.ref p) (upd H p (.lst (xs ++ zs)))
theorem op_catS {X : Cx} : OpR X (binaryOp .Add) (rCatS X.K) := by
  intro pins s σ H x y v u Q I rx ry h
  obtain ⟨l, b, xs, zs, rfl, rfl, hx, hy, hz, q⟩ := h
  cases rx
  cases ry
  obtain ⟨its, r, ⟨o, n, e, hc, hd, hdt⟩, _⟩ := I.list hx
  obtain ⟨its2, r2, ⟨o2, n2, e2, hc2, hd2, hdt2⟩, _⟩ := I.list hy
  obtain ⟨cls, dd, data, sl⟩ := o
  obtain ⟨cls2, dd2, data2, sl2⟩ := o2
  simp only at hc hd hdt hc2 hd2 hdt2
  subst hc hd hdt hc2 hd2 hdt2
  have hsz : its.toArray.size + its2.toArray.size ≤ sizeLine := by rw [List.size_toArray, List.size_toArray, ← r.length, ← r2.length]; exact hz
  have ty1 : s.TypeIs (.ref l) "list" := ⟨_, e, rfl⟩
  have ty2 : s.TypeIs (.ref b) "list" := ⟨_, e2, rfl⟩
  refine concat_meets ty1 ty2 noFill_list_add seq_list_add PySem.F.slot_list_add PySem.F.entry_list_add (PySem.F.args_list_add_2 _ _) (list_addW l b its.toArray its2.toArray n n2 none none sl sl2 hsz) ⟨e, e2, ?_⟩
  have ea : its.toArray ++ its2.toArray = (its ++ its2).toArray := by simp
  rw [ea]
  refine ⟨.ref s.heap.objs.size, _, I.laid (t' := s.toks) (o := .lst (xs ++ zs)) (fun b ob q => Heap.get?_push_of_some _ q) (Nat.le_refl _) ?_, rfl, q _ (I.hok.fresh (Nat.le_refl _))⟩
  exact ⟨by rw [List.length_append]; exact hz, its ++ its2, 0, r.append r2, Heap.get?_push_size _ rfl⟩
def rMulS : R2 := fun x y H Q => ∃ z i, x = .str z ∧ y = .int i ∧ MulOk z i ∧ Q (.str (Txt.mul z i)) H
theorem op_mulS {X : Cx} : OpR X (binaryOp .Mult) rMulS := by
  intro pins s σ H x y v u Q I rx ry h
  obtain ⟨z, i, rfl, rfl, hm, q⟩ := h
  obtain ⟨t, rfl⟩ := rx
  obtain ⟨t', rfl⟩ := ry
  exact SB.mul hm fun t2 k => ⟨.str _, H, I.tok k, ⟨t2, rfl⟩, q⟩
def dAdd : Op2 := fun x y μ => match x, y with
  | .d (.int i), .d (.int j) => .ok (.d (.int (i + j))) μ
  | .d (.str a), .d (.str b) => if a.length + b.length ≤ sizeLine then .ok (.d (.str (a ++ b))) μ else .bad
  | .d (.tuple xs), .d (.tuple ys) => if xs.length + ys.length ≤ sizeLine then .ok (.d (.tuple (xs ++ ys))) μ else .bad
  | _, _ => match items x μ, items y μ with
    | some xs, some ys => dList (xs ++ ys) μ
    | _, _ => .bad
/-- t + u -/
def rCatZ (K : PySem.W.Frag) : R2 := fun x y H Q => ∃ a b xs ys, x = .ref a ∧ y = .ref b ∧ SqT K H a xs ∧ SqT K H b ys ∧ xs.length + ys.length ≤ sizeLine ∧
  (xs = [] → Q (.ref b) H) ∧ (xs ≠ [] → ys = [] → Q (.ref a) H) ∧ (xs ≠ [] → ys ≠ [] → ∀ p its, H p = none → Q (.ref p) (upd H p (frT its (xs ++ ys))))
theorem op_catZ {X : Cx} : OpR X (binaryOp .Add) (rCatZ X.K) := by
  intro pins s σ H x y v u Q I rx ry h
  obtain ⟨a, b, xs, ys, rfl, rfl, ha, hb, hz, q0, q1, q2⟩ := h
  cases rx
  cases ry
  obtain ⟨its, r1, p1, _⟩ := I.tuple ha
  obtain ⟨its2, r2, p2, _⟩ := I.tuple hb
  by_cases hx : xs = []
  · subst hx
    cases r1
    exact L2.cat_tup0 p1 p2 ⟨.ref b, H, I, rfl, q0 rfl⟩
  · refine HT.cat_tup p1 p2 (fun z => hx (r1.nil_iff.mp z)) (fun z => ⟨.ref a, H, I, rfl, q1 hx (r2.nil_iff.mp z)⟩) (fun z => ?_) (by rw [← r1.length, ← r2.length]; exact hz)
    refine ⟨.ref s.heap.objs.size, _, I.laid (t' := s.toks) (o := frT (its ++ its2).toArray (xs ++ ys)) (fun b ob q => Heap.get?_push_of_some _ q) (Nat.le_refl _) (frT_ok (by rw [List.length_append]; exact hz) (r1.append r2) (Heap.get?_push_size _ (by rfl))), rfl, q2 hx (fun w => z (r2.nil_iff.mpr w)) _ _ (I.hok.fresh (Nat.le_refl _))⟩
def rAdd (K : PySem.W.Frag) : R2 := fun x y H Q => rI0 (fun i j => .int (i + j)) x y H Q ∨ (∃ i j, x = .str i ∧ y = .str j ∧ i.length + j.length ≤ sizeLine ∧ Q (.str (i ++ j)) H) ∨ rCatZ K x y H Q ∨ rCatS K x y H Q
theorem op_addA {X : Cx} : OpR X (binaryOp .Add) (DL.rAdd X.K) := op_add.or (op_add_str.or (op_catZ.or op_catS))
theorem ok_add {G : GT} : Ok2 G (DL.rAdd G.K) dAdd := by
  intro W σ w μ H x y b c Q l rx ry p
  unfold dAdd at p
  split at p
  · exact .inl ⟨_, _, rv_int rx, rv_int ry, p w _ H w.le_refl l (.int _)⟩
  · split at p
    · rename_i h
      exact .inr (.inl ⟨_, _, rv_str rx, rv_str ry, h, p w _ H w.le_refl l (.str _)⟩)
    · exact p.elim
  · split at p
    · rename_i xs ys h
      obtain ⟨a, us, rfl, h1, h2⟩ := rv_tupS rx
      obtain ⟨b, vs, rfl, h3, h4⟩ := rv_tupS ry
      refine .inr (.inr (.inl ⟨a, b, us, vs, rfl, rfl, (seqS l.same h1).t, (seqS l.same h3).t, by rw [h2.length, h4.length]; exact h, fun e => ?_, fun _ e => ?_, fun _ _ p' its np => ?_⟩))
      · subst e
        cases h2
        exact p w _ H w.le_refl l (.tup h3 h4)
      · subst e
        cases h4
        rw [List.append_nil] at p
        exact p w _ H w.le_refl l (.tup h1 h2)
      · obtain ⟨le, l2⟩ := l.new np (frT its (us ++ vs))
        exact p _ _ _ le l2 (.tup (SqS.of upd_same) (RpA.mono le.1 _ _ (h2.app h4)))
    · exact p.elim
  · split at p
    · rename_i xs ys h1 h2
      obtain ⟨a, us, rfl, g1, g2⟩ := items_ok l rx h1
      obtain ⟨b, vs, rfl, g3, g4⟩ := items_ok l ry h2
      have r : Rvs G w (us ++ vs) (xs ++ ys) := Paired.rec (motive := fun l m _ => Rvs G w (l ++ vs) (m ++ ys)) g4 (fun r _ ih => .cons r ih) g2
      obtain ⟨hz, q⟩ := list_new l r p
      exact .inr (.inr (.inr ⟨a, b, us, vs, rfl, rfl, g1, g3, by rw [List.length_append] at hz; exact hz, q⟩))
    · exact p.elim

/-! ### == -/
def scalD : D → D → Bool
  | .none, .none => true | .none, .int _ => true | .int _, .none => true | .none, .bool _ => true | .bool _, .none => true | .none, .str _ => true | .str _, .none => true
  | .int _, .int _ => true | .bool _, .bool _ => true | .str _, .str _ => true
  | .int _, .str _ => true | .str _, .int _ => true | .bool _, .str _ => true | .str _, .bool _ => true
  | _, _ => false
mutual
theorem nodict_of0 : ∀ d : D, d.canLay0 = true → nodict d = true
  | .none, _ => rfl
  | .bool _, _ => rfl
  | .int _, _ => rfl
  | .str _, _ => rfl
  | .list ds, h => by
    rw [nodict]
    exact nodicts_of0 ds (by simpa [PyData.canLay0] using h)
  | .tuple ds, h => by
    rw [nodict]
    exact nodicts_of0 ds (by simpa [PyData.canLay0] using h)
  | .dict _, h => by simp [PyData.canLay0] at h
theorem nodicts_of0 : ∀ ds : List D, PyData.canLayAll0 ds = true → nodicts ds = true
  | [], _ => rfl
  | d :: ds, h => by
    simp only [PyData.canLayAll0, Bool.and_eq_true] at h
    simp only [nodicts, Bool.and_eq_true]
    exact ⟨nodict_of0 d h.1, nodicts_of0 ds h.2⟩
end
theorem nodict_of {d : D} (h : SeqAt.shaped d = true) : nodict d = true := nodict_of0 d (SeqAt.canLay_of_shaped h)
/-- == of two data -/
def eqD (x y : D) : Option Bool := if scalD x y = true then some (PyData.eqv x y) else if SeqAt.shaped x && SeqAt.shaped y then some (PyData.eqv x y) else none
def dEq (neg : Bool) : Op2 := fun x y μ => match view x μ, view y μ with
  | some a, some b => match eqD a b with
    | some k => .ok (.d (.bool (if neg then !k else k))) μ
    | none => .bad
  | _, _ => .bad
theorem scal_of {K : PySem.W.Frag} {H : Hp} : ∀ {x y : D} {v u : V}, Rp K H v x → Rp K H u y → scalD x y = true → scal v u = true ∧ decide (v = u) = PyData.eqv x y := by
  intro x y v u r q h
  cases r <;> cases q <;> first | (refine ⟨rfl, ?_⟩; simp [PyData.eqv]; done) | cases h
  · rename_i a b
    refine ⟨rfl, ?_⟩
    rw [dec_bl]
    simp only [PyData.eqv]
  · rename_i a b
    refine ⟨rfl, ?_⟩
    rw [dec_int]
    simp only [PyData.eqv]
  · rename_i a b
    refine ⟨rfl, ?_⟩
    rw [dec_str]
    simp only [PyData.eqv]
def rEqA (K : PySem.W.Frag) : R2 := fun x y H Q => rEq x y H Q ∨ rEqD K x y H Q
def rNeA (K : PySem.W.Frag) : R2 := fun x y H Q => rNe x y H Q ∨ rNeD K x y H Q
theorem op_eqA {X : Cx} (hu : X.A.units + 64 < cLine) : OpR X (compareOp .Eq) (rEqA X.K) := op_eq.or (op_eqD hu)
theorem op_neA {X : Cx} (hu : X.A.units + 64 < cLine) : OpR X (compareOp .NotEq) (rNeA X.K) := op_ne.or (op_neD hu)
theorem ok_eq {G : GT} : Ok2 G (rEqA G.K) (dEq false) := by
  intro W σ w μ H x y b c Q l rx ry p
  unfold dEq at p
  split at p
  · rename_i a1 b1 h1 h2
    have r1 := view_ok l rx h1
    have r2 := view_ok l ry h2
    unfold eqD at p
    by_cases hs : scalD a1 b1 = true
    · simp only [if_pos hs] at p
      obtain ⟨g1, g2⟩ := scal_of r1 r2 hs
      exact .inl ⟨g1, p w _ H w.le_refl l (by rw [g2]; exact .bl _)⟩
    · simp only [if_neg hs] at p
      by_cases hd : (SeqAt.shaped a1 && SeqAt.shaped b1) = true
      · simp only [if_pos hd] at p
        simp only [Bool.and_eq_true] at hd
        exact .inr ⟨a1, b1, Rp.dp _ _ (nodict_of hd.1) r1, Rp.dp _ _ (nodict_of hd.2) r2, hd.1, hd.2, p w _ H w.le_refl l (.bl _)⟩
      · simp only [if_neg hd] at p
        exact p.elim
  · exact p.elim
theorem ok_ne {G : GT} : Ok2 G (rNeA G.K) (dEq true) := by
  intro W σ w μ H x y b c Q l rx ry p
  unfold dEq at p
  split at p
  · rename_i a1 b1 h1 h2
    have r1 := view_ok l rx h1
    have r2 := view_ok l ry h2
    unfold eqD at p
    by_cases hs : scalD a1 b1 = true
    · simp only [if_pos hs] at p
      obtain ⟨g1, g2⟩ := scal_of r1 r2 hs
      exact .inl ⟨g1, p w _ H w.le_refl l (by rw [g2]; exact .bl _)⟩
    · simp only [if_neg hs] at p
      by_cases hd : (SeqAt.shaped a1 && SeqAt.shaped b1) = true
      · simp only [if_pos hd] at p
        simp only [Bool.and_eq_true] at hd
        exact .inr ⟨a1, b1, Rp.dp _ _ (nodict_of hd.1) r1, Rp.dp _ _ (nodict_of hd.2) r2, hd.1, hd.2, p w _ H w.le_refl l (.bl _)⟩
      · simp only [if_neg hd] at p
        exact p.elim
  · exact p.elim

/-! ### order of numbers and texts, is None -/
def dCmp (g : Int → Int → Bool) (h : List Nat → List Nat → Bool) : Op2 := fun x y μ => match x, y with
  | .d (.int i), .d (.int j) => .ok (.d (.bool (g i j))) μ
  | .d (.str a), .d (.str b) => .ok (.d (.bool (h a.cps.toList b.cps.toList))) μ
  | _, _ => .bad
def rCmp (g : Int → Int → Bool) (h : List Nat → List Nat → Bool) : R2 := fun x y H Q => rI0 (fun i j => .bl (g i j)) x y H Q ∨ ∃ i j, x = .str i ∧ y = .str j ∧ Q (.bl (h i.cps.toList j.cps.toList)) H
theorem ok_cmp {G : GT} {g : Int → Int → Bool} {h : List Nat → List Nat → Bool} : Ok2 G (rCmp g h) (dCmp g h) := by
  intro W σ w μ H x y b c Q l rx ry p
  unfold dCmp at p
  split at p
  · exact .inl ⟨_, _, rv_int rx, rv_int ry, p w _ H w.le_refl l (.bl _)⟩
  · exact .inr ⟨_, _, rv_str rx, rv_str ry, p w _ H w.le_refl l (.bl _)⟩
  · exact p.elim
abbrev dLt : Op2 := dCmp (fun i j => decide (i < j)) fun a b => decide (a < b)
abbrev dLe : Op2 := dCmp (fun i j => decide (i ≤ j)) fun a b => !decide (b < a)
abbrev dGt : Op2 := dCmp (fun i j => decide (j < i)) fun a b => decide (b < a)
abbrev dGe : Op2 := dCmp (fun i j => decide (j ≤ i)) fun a b => !decide (a < b)
theorem op_ltA {X : Cx} : OpR X (compareOp .Lt) (rCmp (fun i j => decide (i < j)) fun a b => decide (a < b)) := op_lt.or op_lt_str
theorem op_leA {X : Cx} : OpR X (compareOp .LtE) (rCmp (fun i j => decide (i ≤ j)) fun a b => !decide (b < a)) := op_le.or op_le_str
theorem op_gtA {X : Cx} : OpR X (compareOp .Gt) (rCmp (fun i j => decide (j < i)) fun a b => decide (b < a)) := op_gt.or op_gt_str
theorem op_geA {X : Cx} : OpR X (compareOp .GtE) (rCmp (fun i j => decide (j ≤ i)) fun a b => !decide (a < b)) := op_ge.or op_ge_str
def isNone : D → Bool
  | .none => true
  | _ => false
/-- x is None (the other side is written) -/
def dIsN (neg : Bool) : Op2 := fun x _ μ => match x with
  | .d a => .ok (.d (.bool (if neg then !isNone a else isNone a))) μ
  | .c _ => .ok (.d (.bool neg)) μ
  | .f _ => .ok (.d (.bool neg)) μ
theorem non_iff {G : GT} {w : Wd} {v : V} {a : D} (r : Rv G w v (.d a)) : decide (v = V.non) = isNone a := by
  have r : Rp G.K w.I v a := r
  cases r <;> rfl
section
variable {X : Cx} {G : GT} {W : WX} {a : Expr} {ma : ME} {pos : Pos}
def eIsN (neg : Bool) (a : ME) : ME := fun ρ μ => (a ρ μ).bind fun x μ => dIsN neg x (.d .none) μ
theorem isN_imp : ∀ σ H Q, tE G W (eIsN false ma) σ H Q → tIsN (tE G W ma) σ H Q := by
  rintro σ H Q ⟨w, μ, ρ, hl, he, p⟩
  refine tD.seq (k := fun ρ x μ => dIsN false x (.d .none) μ) hl he p fun w1 μ1 H1 v b l1 lay1 en1 r1 p1 => ?_
  cases b with
  | d x => rw [non_iff r1]; exact p1 w1 _ H1 w1.le_refl lay1 (.bl _)
  | c n => obtain ⟨a, _, rfl⟩ := r1; exact p1 w1 _ H1 w1.le_refl lay1 (.bl _)
  | f n => obtain ⟨a, _, rfl⟩ := r1; exact p1 w1 _ H1 w1.le_refl lay1 (.bl _)
theorem notN_imp : ∀ σ H Q, tE G W (eIsN true ma) σ H Q → tNotN (tE G W ma) σ H Q := by
  rintro σ H Q ⟨w, μ, ρ, hl, he, p⟩
  refine tD.seq (k := fun ρ x μ => dIsN true x (.d .none) μ) hl he p fun w1 μ1 H1 v b l1 lay1 en1 r1 p1 => ?_
  cases b with
  | d x => rw [non_iff r1]; exact p1 w1 _ H1 w1.le_refl lay1 (.bl _)
  | c n => obtain ⟨a, _, rfl⟩ := r1; exact p1 w1 _ H1 w1.le_refl lay1 (.bl _)
  | f n => obtain ⟨a, _, rfl⟩ := r1; exact p1 w1 _ H1 w1.le_refl lay1 (.bl _)
theorem de_isN {j pos'} (ha : DE X G W a ma) : DE X G W (.Compare a [.Is] [.Constant .none j pos'] pos) (eIsN false ma) := PE.imp (pe_cmp (pc_isN ha) rfl) isN_imp
theorem de_notN {j pos'} (ha : DE X G W a ma) : DE X G W (.Compare a [.IsNot] [.Constant .none j pos'] pos) (eIsN true ma) := PE.imp (pe_cmp (pc_notN ha) rfl) notN_imp
theorem dt_isN {j pos'} (ha : DE X G W a ma) : DT X G W (.Compare a [.Is] [.Constant .none j pos'] pos) (tV (eIsN false ma)) := PT.imp (pt_cmp (pc_isN ha) rfl) fun σ H Q q => isN_imp σ H _ (test_imp (m := eIsN false ma) σ H Q q)
theorem dt_notN {j pos'} (ha : DE X G W a ma) : DT X G W (.Compare a [.IsNot] [.Constant .none j pos'] pos) (tV (eIsN true ma)) := PT.imp (pt_cmp (pc_notN ha) rfl) fun σ H Q q => notN_imp σ H _ (test_imp (m := eIsN true ma) σ H Q q)
end
end DL

/-! Operations of the data layer: membership, items, slices, texts, built-ins. -/
namespace DL
open PySem PySem.Spec PyProof.Rows L2

/-! ### in -/
def flatD : D → Bool
  | .none => true | .bool _ => true | .int _ => true | .str _ => true
  | _ => false
def allFlat : List Dv → Option (List D)
  | [] => some []
  | .d x :: r => if flatD x = true then match allFlat r with
    | some xs => some (x :: xs)
    | none => none else none
  | _ :: _ => none
theorem allFlat_map : ∀ {ds : List D}, (∀ d ∈ ds, flatD d = true) → allFlat (ds.map .d) = some ds
  | [], _ => rfl
  | d :: ds, h => by
    rw [List.map_cons, allFlat, if_pos (h d List.mem_cons_self), allFlat_map fun x hx => h x (List.mem_cons_of_mem _ hx)]
theorem flat_V {K : PySem.W.Frag} {I : Hp} {v : V} {x : D} (r : Rp K I v x) (h : flatD x = true) : flatV v = true := by
  cases r <;> first | rfl | cases h
theorem flat_eqv {K : PySem.W.Frag} {I : Hp} {v u : V} {x y : D} (r : Rp K I v x) (q : Rp K I u y) (h : flatD x = true) (h' : flatD y = true) : eqV v u = PyData.eqv x y := by
  cases r <;> first | cases h | skip
  all_goals (cases q <;> first | cases h' | skip)
  all_goals first | rfl | simp [eqV, PyData.eqv]
theorem flat_all {G : GT} {w : Wd} {v : V} {x : D} (r : Rp G.K w.I v x) (h : flatD x = true) : ∀ {xs : List V} {bs : List Dv} {ds : List D}, Rvs G w xs bs → allFlat bs = some ds → xs.all flatV = true ∧ inV v xs = ds.any fun y => PyData.eqv y x := by
  intro xs bs
  induction bs generalizing xs with
  | nil =>
    intro ds rr e
    cases rr
    cases e
    exact ⟨rfl, rfl⟩
  | cons b bs ih =>
    intro ds rr e
    cases rr with
    | cons r1 rr =>
      cases b with
      | d y =>
        unfold allFlat at e
        by_cases hy : flatD y = true
        · rw [if_pos hy] at e
          cases q : allFlat bs with
          | none => rw [q] at e; cases e
          | some es =>
            rw [q] at e
            cases e
            obtain ⟨g1, g2⟩ := ih rr q
            refine ⟨?_, ?_⟩
            · rw [List.all_cons, g1, flat_V r1 hy]; rfl
            · show (_ :: _ : List V).any _ = _
              rw [List.any_cons, List.any_cons, flat_eqv r1 r hy h, ← g2]
              rfl
        · rw [if_neg hy] at e; cases e
      | c _ => cases e
      | f _ => cases e
def sub1 (a b : Str) : Bool := match a.cps.toList with
  | [c] => decide (c ∈ b.cps.toList)
  | _ => !(Builtin.Str.occurrences b a 0 b.length 1).isEmpty
def itemsA (y : Dv) (μ : Store) : Option (List Dv) := match itemsT y with
  | some xs => some xs
  | none => items y μ
def dIn (neg : Bool) : Op2 := fun x y μ => match x, y with
  | .d (.str a), .d (.str b) => .ok (.d (.bool (if neg then !sub1 a b else sub1 a b))) μ
  | .d a, y => match itemsA y μ with
    | some bs => match allFlat bs with
      | some ds => if flatD a = true then .ok (.d (.bool (if neg then !(ds.any fun y => PyData.eqv y a) else ds.any fun y => PyData.eqv y a))) μ else .bad
      | none => .bad
    | none => .bad
  | _, _ => .bad
def rInS (neg : Bool) : R2 := fun x y H Q => ∃ (c : Nat) (z : Str), x = .str ⟨#[c]⟩ ∧ y = .str z ∧ Q (.bl (if neg then !decide (c ∈ z.cps.toList) else decide (c ∈ z.cps.toList))) H
def rInT (neg : Bool) : R2 := fun x y H Q => ∃ i j, x = .str i ∧ y = .str j ∧ Q (.bl (if neg then !(!(Builtin.Str.occurrences j i 0 j.length 1).isEmpty) else !(Builtin.Str.occurrences j i 0 j.length 1).isEmpty)) H
def rInA (K : PySem.W.Frag) (neg : Bool) : R2 := fun x y H Q => rInS neg x y H Q ∨ rInT neg x y H Q ∨ rIn K neg x y H Q
theorem op_inA {X : Cx} : OpR X (compareOp .In) (rInA X.K false) := OpR.or (r := rInS false) op_in_sign (OpR.or (r := rInT false) op_in_str op_in_seq)
theorem op_notInA {X : Cx} : OpR X (compareOp .NotIn) (rInA X.K true) := OpR.or (r := rInS true) op_notIn_sign (OpR.or (r := rInT true) op_notIn_str op_notIn_seq)
theorem itemsA_ok {G : GT} {w : Wd} {v : V} {μ : Store} {H : Hp} {b : Dv} {xs : List Dv} (l : Lay G w μ H) (r : Rv G w v b) (e : itemsA b μ = some xs) : ∃ a vs, v = .ref a ∧ (SqL G.K H a vs ∨ SqT G.K H a vs) ∧ Rvs G w vs xs := by
  unfold itemsA at e
  split at e
  · rename_i ys h
    cases e
    unfold itemsT at h
    split at h
    · cases h
      obtain ⟨a, vs, rfl, h1, h2⟩ := rv_tup r
      exact ⟨a, vs, rfl, .inr (seqT l.same h1), Rvs_of_RpA h2⟩
    · cases h
  · obtain ⟨a, vs, rfl, h1, h2⟩ := items_ok l r e
    exact ⟨a, vs, rfl, .inl h1, h2⟩
theorem ok_in {G : GT} {neg : Bool} : Ok2 G (rInA G.K neg) (dIn neg) := by
  intro W σ w μ H x y b c Q l rx ry p
  unfold dIn at p
  split at p
  · rename_i a b
    by_cases hc : ∃ n, a.cps.toList = [n]
    · obtain ⟨n, e⟩ := hc
      have hs : sub1 a b = decide (n ∈ b.cps.toList) := by unfold sub1; rw [e]
      rw [hs] at p
      refine .inl ⟨n, b, ?_, rv_str ry, p w _ H w.le_refl l (.bl _)⟩
      rw [rv_str rx]
      have : a = ⟨#[n]⟩ := by
        obtain ⟨arr⟩ := a
        have e : arr.toList = [n] := e
        congr 1
        exact Array.toList_inj.mp (by simpa using e)
      rw [this]
    · have hs : sub1 a b = !(Builtin.Str.occurrences b a 0 b.length 1).isEmpty := by
        unfold sub1
        split
        · rename_i n e
          exact absurd ⟨n, e⟩ hc
        · rfl
      rw [hs] at p
      exact .inr (.inl ⟨a, b, rv_str rx, rv_str ry, p w _ H w.le_refl l (.bl _)⟩)
  · split at p
    · rename_i bs h1
      split at p
      · rename_i ds h2
        split at p
        · rename_i h3
          obtain ⟨a, vs, rfl, g1, g2⟩ := itemsA_ok l ry h1
          have rx : Rp G.K w.I x _ := rx
          obtain ⟨f1, f2⟩ := flat_all rx h3 g2 h2
          exact .inr (.inr ⟨a, vs, rfl, g1, flat_V rx h3, f1, by rw [f2]; exact p w _ H w.le_refl l (.bl _)⟩)
        · exact p.elim
      · exact p.elim
    · exact p.elim
  · exact p.elim

/-! ### items -/
def dIx : Op2 := fun x y μ => match y with
  | .d (.int i) => match x with
    | .d (.str z) => if z.length ≤ sizeLine then match atI z.cps.toList i with
      | some c => .ok (.d (.str ⟨#[c]⟩)) μ
      | none => .bad else .bad
    | x => match itemsA x μ with
      | some bs => match atI bs i with
        | some b => .ok b μ
        | none => .bad
      | none => .bad
  | _ => .bad
theorem Rvs.at {G : GT} {w : Wd} {vs : List V} {bs : List Dv} (r : Rvs G w vs bs) : ∀ {j : Nat} {b : Dv}, bs[j]? = some b → ∃ v, vs[j]? = some v ∧ Rv G w v b := by
  induction r with
  | nil => intro j b h; simp at h
  | cons r t ih =>
    intro j b h
    cases j with
    | zero => simp at h; subst h; exact ⟨_, rfl, r⟩
    | succ j => simpa using ih (by simpa using h)
theorem Rvs.atI {G : GT} {w : Wd} {vs : List V} {bs : List Dv} (r : Rvs G w vs bs) {i : Int} {b : Dv} (e : L2.atI bs i = some b) : ∃ v, L2.atI vs i = some v ∧ Rv G w v b := by
  unfold L2.atI at e ⊢
  rw [Paired.length r]
  cases q : ixN bs.length i with
  | none => rw [q] at e; cases e
  | some j =>
    rw [q] at e
    exact r.at e
theorem ok_ix {G : GT} : Ok2 G (rIx G.K) dIx := by
  intro W σ w μ H x y b c Q l rx ry p
  unfold dIx at p
  split at p
  · rename_i i
    split at p
    · split at p
      · rename_i h
        split at p
        · rename_i c e
          exact .inr (.inr ⟨_, i, c, rv_str rx, rv_int ry, h, e, p w _ H w.le_refl l (.str _)⟩)
        · exact p.elim
      · exact p.elim
    · split at p
      · rename_i bs h
        split at p
        · rename_i b' e
          obtain ⟨a, vs, rfl, g1, g2⟩ := itemsA_ok l rx h
          obtain ⟨v, g3, g4⟩ := Rvs.atI g2 e
          rcases g1 with g1 | g1
          · exact .inl ⟨a, vs, i, v, rfl, rv_int ry, g1, g3, p w _ H w.le_refl l g4⟩
          · exact .inr (.inl ⟨a, vs, i, v, rfl, rv_int ry, g1, g3, p w _ H w.le_refl l g4⟩)
        · exact p.elim
      · exact p.elim
  · exact p.elim
section
variable {X : Cx} {G : GT} {W : WX} {a b e : Expr} {ma mb : ME} {pos p2 : Pos}
theorem de_ix {r : R2} {f : Op2} (hr : IxR X r) (h : Ok2 G r f) (ha : DE X G W a ma) (hb : DE X G W b mb) (hs : PlainIx b := by exact fun _ _ => rfl) : DE X G W (.Subscript a b pos) (e2 f ma mb) := PE.imp (pe_ix hr ha hb hs) (op_imp h)

/-! ### slices -/
abbrev MO := DEnv → Store → Out (Option Int)
def oNone : MO := fun _ μ => .ok none μ
def asInt : Dv → Store → Out (Option Int)
  | .d (.int i), μ => .ok (some i) μ
  | _, _ => .bad
def oSome (a : ME) : MO := fun ρ μ => (a ρ μ).bind asInt
abbrev tO (G : GT) (W : WX) (m : MO) : TO := tD G W (fun _ b c => b = c) m
abbrev DO (X : Cx) (G : GT) (W : WX) (e : Option Expr) (m : MO) : Prop := PO X e (tO G W m)
theorem PO.imp {X : Cx} {e : Option Expr} {t t' : TO} (h : PO X e t) (i : ∀ σ H Q, t' σ H Q → t σ H Q) : PO X e t' := ⟨fun p s σ H Q I hw => h.run p s σ H Q I (i _ _ _ hw)⟩
theorem do_none : DO X G W none oNone := by
  refine PO.imp po_none ?_
  rintro σ H Q ⟨w, μ, ρ, hl, he, p⟩
  exact p w none H w.le_refl hl rfl
theorem do_some (h : DE X G W e ma) : DO X G W (some e) (oSome ma) := by
  refine PO.imp (po_some h) ?_
  rintro σ H Q ⟨w, μ, ρ, hl, he, p⟩
  refine tD.seq (k := fun ρ x μ => asInt x μ) hl he p fun w1 μ1 H1 v b l1 lay1 en1 r1 p1 => ?_
  cases b with
  | d x =>
    cases x with
    | int i => exact ⟨i, rv_int r1, p1 w1 _ H1 w1.le_refl lay1 rfl⟩
    | _ => exact p1.elim
  | _ => exact p1.elim
def cutL {α : Type} (xs : List α) (lo hi : Option Int) : List α := (xs.drop (HT.sIx xs.length 0 lo)).take (HT.sIx xs.length xs.length hi - HT.sIx xs.length 0 lo)
theorem cutL_V (xs : List V) (lo hi : Option Int) : cutL xs lo hi = cutV xs lo hi := rfl
def dSl (x : Dv) (lo hi : Option Int) (μ : Store) : Out Dv := match x with
  | .d (.str z) => if z.length ≤ sizeLine then .ok (.d (.str (cutS z lo hi))) μ else .bad
  | .d (.tuple ds) => .ok (.d (.tuple (cutL ds lo hi))) μ
  | x => match items x μ with
    | some bs => match allD (cutL bs lo hi) with
      | some ds => .ok (.d (.list ds)) μ
      | none => .bad
    | none => .bad
def eSl (a : ME) (l h : MO) : ME := fun ρ μ => (a ρ μ).bind fun x μ => (l ρ μ).bind fun i μ => (h ρ μ).bind fun j μ => dSl x i j μ
/-- t[lo:hi] -/
def rSlZ (K : PySem.W.Frag) : V → Option Int → Option Int → Hp → VK → Prop := fun x lo hi H Q => ∃ a xs, x = .ref a ∧ SqT K H a xs ∧
  (HT.sIx xs.length 0 lo = 0 ∧ HT.sIx xs.length xs.length hi = xs.length → Q (.ref a) H) ∧ (¬ (HT.sIx xs.length 0 lo = 0 ∧ HT.sIx xs.length xs.length hi = xs.length) → ∀ p its, H p = none → Q (.ref p) (upd H p (frT its (cutV xs lo hi))))
theorem sl_tupZ {X : Cx} : SlR X (rSlZ X.K) := by
  intro pins s σ H x v vl vu lo hi sl Q I rx hs pl pu h
  obtain ⟨a, xs, rfl, hx, q1, q2⟩ := h
  cases rx
  obtain ⟨its, r, ht, hz⟩ := I.tuple hx
  have hlen : its.toArray.size = xs.length := by rw [List.size_toArray]; exact r.length.symm
  refine ⟨"tuple", _, PyProof.Rows.slot_tuple_getitem.lookup, ht.typeIs, ?_⟩
  by_cases hw : HT.sIx xs.length 0 lo = 0 ∧ HT.sIx xs.length xs.length hi = xs.length
  · exact L2.getItem_tuple_whole ht hs pl pu (by rw [hlen]; exact hw) ⟨.ref a, H, I, rfl, q1 hw⟩
  · refine HT.getItem_tuple_cut ht hs pl pu (by rw [hlen]; exact hw) ?_ (by rw [hlen]; exact hz)
    rw [hlen]
    refine ⟨.ref s.heap.objs.size, _, I.laid (t' := s.toks) (o := frT ((its.drop (HT.sIx xs.length 0 lo)).take (HT.sIx xs.length xs.length hi - HT.sIx xs.length 0 lo)).toArray (cutV xs lo hi)) (fun b ob q => Heap.get?_push_of_some _ q) (Nat.le_refl _)
      (frT_ok (Nat.le_trans (cutV_length xs lo hi) hz) ((r.drop _).take _) (Heap.get?_push_size _ (by rfl))), rfl, q2 hw _ _ (I.hok.fresh (Nat.le_refl _))⟩
def rSl (K : PySem.W.Frag) : V → Option Int → Option Int → Hp → VK → Prop := fun x lo hi H Q => rSlS x lo hi H Q ∨ rSlZ K x lo hi H Q ∨ rSlL K x lo hi H Q
theorem sl_any {X : Cx} : SlR X (rSl X.K) := sl_str.or (sl_tupZ.or sl_list)
theorem RpA.cut {K : PySem.W.Frag} {I : Hp} {vs : List V} {ds : List D} (r : RpA K I vs ds) (lo hi : Option Int) : RpA K I (cutV vs lo hi) (cutL ds lo hi) := by
  unfold cutV cutL
  rw [r.length]
  exact (r.drop _).take _
theorem Rvs.drop {G : GT} {w : Wd} : ∀ {vs : List V} {bs : List Dv} (n : Nat), Rvs G w vs bs → Rvs G w (vs.drop n) (bs.drop n)
  | _, _, 0, r => r
  | _, _, n + 1, .nil => .nil
  | _, _, n + 1, .cons _ t => Rvs.drop n t
theorem Rvs.take {G : GT} {w : Wd} : ∀ {vs : List V} {bs : List Dv} (n : Nat), Rvs G w vs bs → Rvs G w (vs.take n) (bs.take n)
  | _, _, 0, r => by simp; exact .nil
  | _, _, n + 1, .nil => .nil
  | _, _, n + 1, .cons r t => .cons r (Rvs.take n t)
theorem de_slice {lo hi : Option Expr} {ml mh : MO} (hK : X.K = G.K) (ha : DE X G W a ma) (hl : DO X G W lo ml) (hh : DO X G W hi mh) : DE X G W (.Subscript a (.Slice lo hi none p2) pos) (eSl ma ml mh) := by
  refine PE.imp (pe_slice sl_any ha hl hh) ?_
  rintro σ H Q ⟨w, μ, ρ, hl, he, p⟩
  refine tD.seq (k := fun ρ x μ => (ml ρ μ).bind fun i μ => (mh ρ μ).bind fun j μ => dSl x i j μ) hl he p fun w1 μ1 H1 v b l1 lay1 en1 r1 p1 => ?_
  refine tD.seq (k := fun ρ i μ => (mh ρ μ).bind fun j μ => dSl b i j μ) lay1 en1 p1 fun w2 μ2 H2 i i' l2 lay2 en2 r2 p2 => ?_
  refine tD.seq (k := fun ρ j μ => dSl b i' j μ) lay2 en2 p2 fun w3 μ3 H3 j j' l3 lay3 en3 r3 p3 => ?_
  have r2 : i = i' := r2
  have r3 : j = j' := r3
  subst r2 r3
  have r1 := (r1.mono l2).mono l3
  unfold dSl at p3
  split at p3
  · split at p3
    · rename_i h
      exact .inl ⟨_, rv_str r1, h, p3 w3 _ H3 w3.le_refl lay3 (.str _)⟩
    · exact p3.elim
  · obtain ⟨a, vs, rfl, g1, g2⟩ := rv_tupS r1
    refine .inr (.inl ⟨a, vs, rfl, by rw [hK]; exact (seqS lay3.same g1).t, fun e => ?_, fun _ p' its np => ?_⟩)
    · have : ∀ ds : List D, RpA G.K w3.I vs ds → cutL ds i j = ds := fun ds g2 => by
        unfold cutL
        rw [g2.length] at e
        rw [e.1, e.2]
        simp
      rw [this _ g2] at p3
      exact p3 w3 _ H3 w3.le_refl lay3 (.tup g1 g2)
    · obtain ⟨le, l2'⟩ := lay3.new np (frT its (cutV vs i j))
      exact p3 _ _ _ le l2' (.tup (SqS.of upd_same) (RpA.mono le.1 _ _ (g2.cut i j)))
  · split at p3
    · rename_i bs h
      split at p3
      · rename_i ds hd
        obtain ⟨a, vs, rfl, g1, g2⟩ := items_ok lay3 r1 h
        have g3 : Rvs G w3 (cutV vs i j) (cutL bs i j) := by
          unfold cutV cutL
          rw [Paired.length g2]
          exact Rvs.take _ (Rvs.drop _ g2)
        rw [allD_eq hd] at g3
        refine .inr (.inr ⟨a, vs, rfl, by rw [hK]; exact g1, fun p' np => ?_⟩)
        obtain ⟨le, l2'⟩ := lay3.new np (.lst (cutV vs i j))
        exact p3 _ _ _ le l2' (.lst (SqL.of upd_same) (RpA.mono le.1 _ _ (RpA_of_Rvs g3)))
      · exact p3.elim
    · exact p3.elim
end

/-! ### methods -/
def OkM (G : GT) (r : V → List V → Hp → VK → Prop) (f : Dv → OpN) : Prop := ∀ (W : WX) (σ : L2.St) (w : Wd) (μ : Store) (H : Hp) (x : V) (xs : List V) (b : Dv) (bs : List Dv) (Q : VK), Lay G w μ H → Rv G w x b → Rvs G w xs bs → Pst G W σ (Rv G) w (f b bs μ) Q → r x xs H Q
def OkT (G : GT) (T : String) (c : Dv → Store → Bool) : Prop := ∀ (w : Wd) (μ : Store) (H : Hp) (x : V) (b : Dv), Lay G w μ H → Rv G w x b → c b μ = true → tyV G.K T x H
def isStr : Dv → Store → Bool
  | .d (.str _), _ => true
  | _, _ => false
theorem ty_str {G : GT} : OkT G "str" isStr := by
  intro w μ H x b l r h
  unfold isStr at h
  split at h
  · rw [rv_str r]; exact rfl
  · cases h
def isList (b : Dv) (μ : Store) : Bool := (items b μ).isSome
theorem ty_list {G : GT} : OkT G "list" isList := by
  intro w μ H x b l r h
  unfold isList at h
  cases q : items b μ with
  | none => rw [q] at h; cases h
  | some xs =>
    obtain ⟨a, vs, rfl, g1, g2⟩ := items_ok l r q
    exact .inl ⟨rfl, vs, g1⟩
def eM (c : Dv → Store → Bool) (f : Dv → OpN) (o : ME) (a : MA) : ME := fun ρ μ => (o ρ μ).bind fun x μ => if c x μ = true then (a ρ μ).bind fun xs μ => f x xs μ else .bad
section
variable {X : Cx} {G : GT} {W : WX} {o e : Expr} {es : List Expr} {mo : ME} {mas : MA} {pos apos cpos : Pos} {T id : String} {name : Str} {r : V → List V → Hp → VK → Prop} {f : Dv → OpN} {c : Dv → Store → Bool}
theorem de_bm0 (pa : PlainAttrs T) (slot : Slot T name id) (hty : typeOf (.builtin id) = pure (.type "method_descriptor")) (hm : MtR X id r) (h : OkM G r f) (hT : OkT G T c) (hK : X.K = G.K) (ho : DE X G W o mo)
    (hbase : attributeBase o name X.env (eval o X.env) = eval o X.env := by rfl) (hline : (apos.endLine == cpos.line) = true := by rfl) : DE X G W (.Call (.Attribute o name apos) [] [] cpos) (eM c f mo aNil) := by
  refine PE.imp (pe_bm0 pa slot hty hm ho hbase hline) ?_
  rintro σ H Q ⟨w, μ, ρ, hl, he, p⟩
  refine tD.seq (k := fun ρ x μ => if c x μ = true then (aNil ρ μ).bind fun xs μ => f x xs μ else .bad) hl he p fun w1 μ1 H1 v b l1 lay1 en1 r1 p1 => ?_
  split at p1
  · rename_i hc
    exact ⟨by rw [hK]; exact hT w1 μ1 H1 v b lay1 r1 hc, h W σ w1 μ1 H1 v [] b [] Q lay1 r1 .nil p1⟩
  · exact p1.elim
theorem de_bm (pa : PlainAttrs T) (slot : Slot T name id) (hty : typeOf (.builtin id) = pure (.type "method_descriptor")) (hm : MtR X id r) (h : OkM G r f) (hT : OkT G T c) (hK : X.K = G.K) (ho : DE X G W o mo) (ha : DA X G W (e :: es) mas)
    (hbase : attributeBase o name X.env (eval o X.env) = eval o X.env := by rfl)
    (hfew : ((backTo cpos (starEach (e :: es) X.env)).all (fun x => !x.1) && (backToKw cpos (keywordEach [] X.env)).all (fun x => x.1.isSome)
      && decide ((e :: es).length + ([] : List Keyword).length + (if ([] : List Keyword).isEmpty then 0 else 1) < 30)) = true := by rfl)
    (hline : (apos.endLine == cpos.line) = true := by rfl) (hs : starEach (e :: es) X.env = (false, eval e X.env) :: starEach es X.env := by rfl) (hplain : (backTo cpos (starEach es X.env)).any (·.1) = false := by rfl) :
    DE X G W (.Call (.Attribute o name apos) (e :: es) [] cpos) (eM c f mo mas) := by
  refine PE.imp (pe_bm pa slot hty hm ho ha hbase hfew hline hs hplain) ?_
  rintro σ H Q ⟨w, μ, ρ, hl, he, p⟩
  refine tD.seq (k := fun ρ x μ => if c x μ = true then (mas ρ μ).bind fun xs μ => f x xs μ else .bad) hl he p fun w1 μ1 H1 v b l1 lay1 en1 r1 p1 => ?_
  split at p1
  · rename_i hc
    refine ⟨by rw [hK]; exact hT w1 μ1 H1 v b lay1 r1 hc, ?_⟩
    exact tD.seq (k := fun ρ xs μ => f b xs μ) lay1 en1 p1 fun w2 μ2 H2 vs bs l2 lay2 en2 r2 p2 => h W σ w2 μ2 H2 v vs b bs Q lay2 (r1.mono l2) r2 p2
  · exact p1.elim
end
end DL

/-! A law's end, by the promise of its def over data. -/
namespace DL
open PySem PySem.Spec PyProof.Rows L2

theorem RpA_ints {K : PySem.W.Frag} {I : Hp} : ∀ ns : List Int, RpA K I (ns.map V.int) (ns.map PyData.int)
  | [] => .nil
  | n :: ns => .cons (.int n) (RpA_ints ns)
/-- the law's call: its script is frozen, nothing else stands -/
theorem lawG {P : Program} {w : World} {G : GT} {mg mb : Str → Option Value} {k : Nat} {fa a : Addr} {fd : FuncData} {x : Str} {F : OpN} {s : Shared} {vs : List Value} {ns : List Int} {μ' : Store}
    (inK : G.K.In s.heap) (gl : s.heap.Ns mainGlobals mg) (bl : s.heap.Ns builtinsNs mb) (hbb : ∀ x : Str, x ≠ "__name__" → mb x = bootBuiltins x) (lim : s.heap.NoLimit) (gens : s.gens = #[])
    (ha : s.heap.get? a = some { cls := .type "list", data := .seq vs.toArray }) (hi : IntsAre vs ns) (hl : ns.length ≤ sizeLine) (room : Room k callerA)
    (hF : ∀ base : Heap, G.K.In base → base.Ns mainGlobals mg → FnG P w G.K mg base k fa fd [x] (spD G 1 F)) (bt : ∀ (s : Shared) (u : Value), BindsTo s fd ⟨[u], []⟩ [(x, u)])
    (hv : F [.d (.list (ns.map PyData.int))] [] = .ok (.d (.bool true)) μ') :
    codeAny (model P w) callerA (.call (.ref fa) ⟨[.ref a], []⟩) (fun r t => r = .ok (.ret (.bool true)) ∧ OldK s.heap t.heap ∧ t.os = s.os ∧ AllBare t.gens) s := by
  have rv := vals_ints hi
  have lenV := hi.length
  suffices main : ∀ H : Hp, (∀ b, H b ≠ none → b = a ∧ ∃ xs, H b = some (.frz { cls := .type "list", data := .seq vs.toArray } (.lst xs))) → SqL G.K H a (ns.map V.int) → HOk P w H s.heap → (H a ≠ none → G.K.lookup a = none) →
      codeAny (model P w) callerA (.call (.ref fa) ⟨[.ref a], []⟩) (fun r t => r = .ok (.ret (.bool true)) ∧ OldK s.heap t.heap ∧ t.os = s.os ∧ AllBare t.gens) s by
    cases hk : G.K.lookup a with
    | some o =>
      have e := inK a o hk
      rw [ha] at e
      cases e
      apply main (fun _ => none)
      · exact fun b z => absurd rfl z
      · exact Or.inr ⟨_, vs.toArray, _, hk, rfl, rfl, rfl, by rw [List.size_toArray, lenV]; exact hl, by simpa using rv⟩
      · intro b u z
        cases z
      · exact fun z => absurd rfl z
    | none =>
      have at_ : ∀ b u, (if b = a then some (HO.frz { cls := .type "list", data := .seq vs.toArray } (.lst (ns.map V.int))) else none) = some u → b = a ∧ u = .frz { cls := .type "list", data := .seq vs.toArray } (.lst (ns.map V.int)) := by
        intro b u z
        by_cases hb : b = a
        · rw [if_pos hb] at z
          exact ⟨hb, (Option.some.inj z).symm⟩
        · rw [if_neg hb] at z
          cases z
      apply main (fun b => if b = a then some (.frz { cls := .type "list", data := .seq vs.toArray } (.lst (ns.map V.int))) else none)
      · intro b z
        by_cases hb : b = a
        · exact ⟨hb, ns.map V.int, if_pos hb⟩
        · exact absurd (if_neg hb) z
      · exact Or.inl (Or.inr ⟨{ cls := .type "list", data := .seq vs.toArray }, if_pos rfl⟩)
      · intro b u z
        obtain ⟨rfl, rfl⟩ := at_ b u z
        exact ⟨ha, by rw [List.length_map]; exact hl, vs, _, rv, ha⟩
      · exact fun _ => hk
  intro H only sq ok own
  have keep : ∀ {b : Addr} {o : Obj}, s.heap.get? b = some o → H b = none → (hidT s.heap H).get? b = some o := hidT_get
  have isA : ∀ {b : Addr} {o : Obj} {es : Array DictEntry} {ep : Nat}, s.heap.get? b = some o → o.data = .dict es ep → H b = none := by
    intro b o es ep e d
    cases q : H b with
    | none => rfl
    | some u =>
      obtain ⟨rfl, _⟩ := only b (by rw [q]; simp)
      rw [ha] at e
      cases e
      cases d
  have kb : G.K.In (hidT s.heap H) := by
    intro b o e
    apply keep (inK b o e)
    cases q : H b with
    | none => rfl
    | some u =>
      obtain ⟨rfl, _⟩ := only b (by rw [q]; simp)
      rw [own (by rw [q]; simp)] at e
      cases e
  have nsB : ∀ {b : Addr} {m : Str → Option Value}, s.heap.Ns b m → (hidT s.heap H).Ns b m := by
    rintro b m ⟨o, es, ep, e, d, r⟩
    exact ⟨o, es, ep, keep e (isA e d), d, r⟩
  have md : Mod G.K mg (hidT s.heap H) := ⟨kb, nsB gl, ⟨mb, nsB bl, hbb⟩, by obtain ⟨mc, h1, h2⟩ := lim; exact ⟨mc, nsB h1, h2⟩⟩
  have e0 : Env0 P w G.K mg (hidT s.heap H) callerA [] s H := ⟨rfl, md, fun b o e => of_hidT e, Nat.le_of_eq (hidT_size _ _), trivial, fun b hb => absurd (show b ∈ ([] : List Addr) from hb) (by simp), ok, .of_eq gens⟩
  have sp : spD G 1 F [.ref a] H (fun v _ => v = .bl true) (fun _ _ _ => False) := by
    refine ⟨rfl, ⟨H, [], fun _ => none⟩, [], [.d (.list (ns.map PyData.int))], ?_, .cons (.lst sq (RpA_ints ns)) .nil, ?_⟩
    · exact ⟨Same.refl _, rfl, List.nodup_nil, fun a h => absurd h (by simp), fun b o e => (nomatch e), fun _ _ => rfl, fun a o e => (nomatch e), fun n c a e => absurd e (by simp)⟩
    · rw [hv]
      intro w' v H' _ _ r
      have r : Rp G.K w'.I v (.bool true) := r
      cases r
      rfl
  apply codeAny_mono ((hF _ kb (nsB gl)).run callerA [] s H ⟨[.ref a], []⟩ [.ref a] [.ref a] _ _ rfl room e0 (bt s (.ref a)) (.cons rfl .nil) sp)
  rintro (e | fl) t q
  · obtain ⟨_, _, _, _, _, _, _, _, _, _, _, _, z⟩ := q
    exact z.elim
  cases fl with
  | next => exact q.elim
  | brk => exact q.elim
  | cont => exact q.elim
  | ret u =>
    obtain ⟨v, H', os, bare, un, ok', r, rfl⟩ := q
    obtain rfl : u = Value.bool true := r
    refine ⟨rfl, ?_, os, bare⟩
    apply OldK.of_keep
    intro b o e
    cases q : H b with
    | none => exact un.keep b o e q (fun z => absurd (show b ∈ ([] : List Addr) from z) (by simp)) (by simp)
    | some u =>
      obtain ⟨_, xs, z⟩ := only b (by rw [q]; simp)
      have z2 := un.frzs b _ _ z
      obtain ⟨e1, _⟩ := ok b _ z
      obtain ⟨e2, _⟩ := ok' b _ z2
      rw [e] at e1
      cases e1
      exact e2
/-- the goal behind the head -/
theorem walkG {l : PySem.W.OpenLaw} {n k : Nat} {q : Program} {loose : List Str} {XP : (Str → Option Value) → Heap → Prop} {YP : World → Heap → Prop} {d : DefRec} {K : Params → PySem.W.Frag} {x : Str}
    (hn : l.most = some n) (hn2 : n ≤ sizeLine) (hdf : d.params.defaults = []) (hr : Room k callerA) (hY : ∀ (w : World) (h : Heap), YP w h → (K w.params).In h)
    (F : ∀ (w : World) (mg : Str → Option Value) (fa : Addr) (h : Heap), (K w.params).In h → h.Ns mainGlobals mg → mg d.name = some (.ref fa) →
      ∃ (fd : FuncData) (G : GT) (F : OpN), G.K = K w.params ∧ (∀ (s : Shared) (u : Value), BindsTo s fd ⟨[u], []⟩ [(x, u)]) ∧ (∀ base : Heap, (K w.params).In base → base.Ns mainGlobals mg → FnG l.prog w (K w.params) mg base k fa fd [x] (spD G 1 F)) ∧
        ∀ ns : List Int, ns.length ≤ n → (∀ i ∈ ns, Builtin.Int.intBits i ≤ 1048576) → ∃ μ', F [.d (.list (ns.map PyData.int))] [] = .ok (.d (.bool true)) μ') :
    PySem.W.WalkO q loose XP YP l.row.toRowW d [] (fun f vs => PySem.call f vs) := by
  apply Att.attach_callB hn hdf
  intro w s₀ s₁ mg mb fa o pm cd doc a vs ns T Y ho hd hcd hmg hobj hints hlen bits hg
  have inK := hY w _ Y
  obtain ⟨fd, G, F, eK, hb, hF, hv⟩ := F w mg fa _ inK T.T.g hmg
  obtain ⟨μ', hv⟩ := hv ns hlen bits
  rw [← eK] at inK hF
  exact lawG inK T.T.g T.T.b T.T.builtins T.T.nolimit hg hobj hints (Nat.le_trans hlen hn2) hr hF hb hv
end DL

/-! Statements of the data layer, further: a starred target, a cell's item stored, calls with keywords, comprehensions given to a name. -/
namespace DL
open PySem PySem.Spec PyProof.Rows L2

/-! ### a, *b = t -/
theorem ns_one {h : Heap} {L : Addr} {m m' : Str → Option Value} (x : h.Ns L m) (y : h.Ns L m') : m = m' := by
  obtain ⟨o, es, ep, e1, e2, _, e3⟩ := x
  obtain ⟨o', es', ep', f1, f2, _, f3⟩ := y
  rw [e1] at f1
  cases f1
  rw [e2] at f2
  cases f2
  funext z
  rw [← e3, ← f3]
section
variable {X : Cx} {pins : List (Addr × Obj)} {σ : L2.St} {H : Hp} {s : Shared}
theorem objok_there {P : Program} {w : World} {H : Hp} {h : Heap} {a : Addr} {o : HO} (x : ObjOk P w H h a o) : ∃ ob, h.get? a = some ob := by
  cases o with
  | lst xs => obtain ⟨_, _, _, _, e⟩ := x; exact ⟨_, e⟩
  | tup xs => obtain ⟨_, _, _, o, e, _⟩ := x; exact ⟨_, e⟩
  | dK kvs => obtain ⟨_, _, _, _, o, _, _, e, _⟩ := x; exact ⟨_, e⟩
  | dT kvs => obtain ⟨_, _, _, _, o, _, _, e, _⟩ := x; exact ⟨_, e⟩
  | set S n => obtain ⟨o, _, _, _, e, _⟩ := x; exact ⟨_, e⟩
  | ins C dx fs => obtain ⟨_, _, _, e, _⟩ := x; exact ⟨_, e⟩
  | own y => obtain ⟨_, e⟩ := x; exact ⟨_, e⟩
  | xd fs => obtain ⟨_, ⟨_, _, _, e, _⟩, _⟩ := x; exact ⟨_, e⟩
  | rng lo hi => obtain ⟨_, _, _, e⟩ := x; exact ⟨_, e⟩
  | frz ob u => obtain ⟨e, _⟩ := x; exact ⟨_, e⟩
  | tbl ps => exact ⟨_, x⟩
  | met f y => exact ⟨_, x⟩
  | ext φ => obtain ⟨_, ⟨_, e⟩, _⟩ := x; exact ⟨_, e⟩
theorem Inv.led {m : Str → Option Value} {h' : Heap} {tk : Nat} {D : Addr} {ys : List V} {its : List Value} (I : Inv X pins σ H s) (F : Fr X.base X.env.locals s.heap m) (F' : Fr X.base X.env.locals h' m) (N' : News X.base X.env.locals h' ((D, PySem.W.listOf its.toArray 0) :: allNews X.base s.heap X.env.locals))
    (lt : ∀ p ∈ allNews X.base s.heap X.env.locals, p.1 < D) (r : Vals ys its) (hz : ys.length ≤ sizeLine) : H D = none ∧ Inv X pins σ (upd H D (.lst ys)) { s with heap := h', toks := tk } := by
  obtain ⟨hD, nL, nb⟩ := N' (D, PySem.W.listOf its.toArray 0) List.mem_cons_self
  have fresh : s.heap.get? D = none := by
    cases q : s.heap.get? D with
    | none => rfl
    | some o => exact absurd (lt (D, o) (mem_allNews nL nb q)) (Nat.lt_irrefl _)
  have nH : H D = none := by
    cases q : H D with
    | none => rfl
    | some o =>
      obtain ⟨u, e⟩ := objok_there (I.hok D o q)
      rw [fresh] at e
      cases e
  have keep : ∀ b o, b ≠ X.env.locals → s.heap.get? b = some o → h'.get? b = some o := by
    intro b o hb e
    cases q : X.base.get? b with
    | some u =>
      have := F.keep b u q
      rw [e] at this
      cases this
      exact F'.keep b _ q
    | none => exact (N' (b, o) (List.mem_cons_of_mem _ (mem_allNews hb q e))).1
  have ns : ∀ m', s.heap.Ns X.env.locals m' → h'.Ns X.env.locals m' := fun m' hm => by rw [ns_one hm F.ns]; exact F'.ns
  refine ⟨nH, ?_⟩
  have sD : ∀ b o, s.heap.get? b = some o → b ≠ D := fun b o e z => by rw [z, fresh] at e; cases e
  apply I.step (g' := s.gens) (d' := s.drawn) (ch := [])
  · exact fun _ z => nomatch z
  · exact fun b o hb _ _ e _ => keep b o hb e
  · exact fun b o hb _ _ e _ => ⟨o.slots, keep b o hb e⟩
  · exact fun b o _ e n => by rw [upd_ne (sD b o e)]; exact n
  · intro b o _ e
    by_cases hb : b = X.env.locals
    · subst hb
      obtain ⟨o', _, _, e', _⟩ := F'.ns
      exact ⟨o', e'⟩
    · exact ⟨o, keep b o hb e⟩
  · exact fun b xs e => by rw [upd_ne (ne_of_none e nH)]; exact e
  · exact fun b o u e => by rw [upd_ne (ne_of_none e nH)]; exact e
  · exact fun b ps e => ⟨#[], by rw [upd_ne (ne_of_none e nH), e]; simp⟩
  · exact ns
  · intro b u e
    by_cases hb : b = D
    · subst hb
      rw [upd_same] at e
      cases e
      exact ⟨hz, its, 0, r, hD⟩
    · rw [upd_ne hb] at e
      refine (I.hok b u e).stay (fun c v hc q => keep c v ?_ q) (fun c q => by rw [upd_ne (ne_of_none q nH)]; exact q) fun c xs q => by rw [upd_ne (ne_of_none q nH)]; exact q
      rcases hc with rfl | hc
      · intro z; rw [z, I.free] at e; cases e
      · intro z; rw [z, I.free] at hc; cases hc
  · exact I.bare
end
def gStarV (K : PySem.W.Frag) (n : Nat) (t : TGs) : TG := fun v σ H Q => ∃ a xs, v = .ref a ∧ SqT K H a xs ∧ n ≤ xs.length ∧ xs.length ≤ 16384 ∧ ∀ D, H D = none → t (xs.take n ++ [.ref D]) σ (upd H D (.lst (xs.drop n))) Q
section
variable {X : Cx} {G : GT} {W : WX} {e t : Expr} {es : List Expr} {pos p : Pos} {g : MG} {gs : MGs} {S T : List Nat}
theorem pgs_star {tg : TG} {u : TGs} (h1 : PG X t tg) (h2 : PGs X es u) (hs : (assignEach (.Starred t p :: es) X.env).map (·.2) = assign t X.env :: (assignEach es X.env).map (·.2) := by rfl) : PGs X (.Starred t p :: es) (gCons tg u) := by
  constructor
  intro pins s σ H vs us Q I r h
  obtain ⟨v, vr, rfl, h⟩ := h
  cases r with
  | cons r rr =>
    rw [hs]
    apply assignInOrder_cons
    apply thn (h1.run pins s σ H _ _ _ I r h)
    rintro _ s1 ⟨σ1, H1, I1, q1⟩
    exact h2.run pins s1 σ1 H1 _ _ Q I1 rr q1
theorem pg_star {k n : Nat} {u : TGs} (hc : X.calm = true) (h : PGs X es u) (hn : (assignEach es X.env).length = n + 1 := by rfl) (hst : (assignEach es X.env).findIdx? (·.1) = some n := by rfl) : PG X (.Tuple es k pos) (gStarV X.K n u) := by
  constructor
  intro pins s σ H v uu Q I r hw
  obtain ⟨a, xs, rfl, hq, hl, h16, hw⟩ := hw
  cases r
  obtain ⟨its, rv, ht, hz⟩ := I.tuple hq
  obtain ⟨m, F⟩ := I.fr
  have hlen := rv.length
  refine PySem.W.kun_assignT (i := n) (n := n + 1) (first := its.take n) (mids := its.drop n) (lasts := []) F news_all ht (I.ok.hd hc) hn hst (Nat.lt_succ_self _) ?_ ?_ ?_ ?_ ?_ ?_
  · rw [List.size_toArray]; omega
  · rw [List.size_toArray]; omega
  · rfl
  · show (its.drop n).take (its.toArray.size + 1 - (n + 1)) = its.drop n
    rw [List.take_of_length_le]
    rw [List.length_drop, List.size_toArray]
    omega
  · show (its.drop n).drop (its.toArray.size + 1 - (n + 1)) = []
    rw [List.drop_of_length_le]
    rw [List.length_drop, List.size_toArray]
    omega
  · intro D h' tk F' N' lt
    obtain ⟨nH, I'⟩ := Inv.led (tk := tk) I F F' N' lt (rv.drop n) (by rw [List.length_drop]; omega)
    rw [List.append_nil]
    exact h.run pins _ σ _ _ _ Q I' ((rv.take n).append (Paired.cons (show L2.RelV (V.ref D) (Value.ref D) from rfl) .nil)) (hw D nH)
def gStar (n : Nat) (g : MGs) : MG := fun b ρ μ => match b with
  | .d (.tuple ds) => if n ≤ ds.length ∧ ds.length ≤ 16384 then g ((ds.take n).map .d ++ [.d (.list (ds.drop n))]) ρ μ else .bad
  | _ => .bad
theorem gcons_imp : ∀ vs σ H Q, tGs G (S ++ T) (gsCons g gs) vs σ H Q → gCons (tG G S g) (tGs G T gs) vs σ H Q := by
  rintro vs σ H Q ⟨w, μ, ρ, bs, hl, he, r, p⟩
  cases r with
  | nil => exact p.elim
  | @cons v b vs bs rv rr =>
    refine ⟨v, vs, rfl, w, μ, ρ, b, hl, he, rv, ?_⟩
    have p : PstG G w (S ++ T) σ ((g b ρ μ).bind fun ρ μ => gs bs ρ μ) Q := p
    cases q : g b ρ μ with
    | bad => rw [q] at p; exact p.elim
    | ex _ _ => rw [q] at p; exact p.elim
    | ok ρ1 μ1 =>
      rw [q] at p
      have p : PstG G w (S ++ T) σ (gs bs ρ1 μ1) Q := p
      refine fun w1 σ1 H1 l1 lay1 en1 ag => ⟨w1, μ1, ρ1, bs, lay1, en1, Rvs.mono l1 rr, ?_⟩
      cases q2 : gs bs ρ1 μ1 with
      | bad => rw [q2] at p; exact p.elim
      | ex _ _ => rw [q2] at p; exact p.elim
      | ok ρ2 μ2 =>
        rw [q2] at p
        exact fun w2 σ2 H2 l2 lay2 en2 ag2 => p w2 σ2 H2 (l1.trans l2) lay2 en2 (ag.trans ag2)
theorem dgs_star (h1 : DG X G S t g) (h2 : DGs X G T es gs) (hs : (assignEach (.Starred t p :: es) X.env).map (·.2) = assign t X.env :: (assignEach es X.env).map (·.2) := by rfl) : DGs X G (S ++ T) (.Starred t p :: es) (gsCons g gs) := PGs.imp (pgs_star h1 h2 hs) gcons_imp
theorem dg_star {k n : Nat} (hc : X.calm = true) (hK : X.K = G.K) (h : DGs X G S es gs) (hn : (assignEach es X.env).length = n + 1 := by rfl) (hst : (assignEach es X.env).findIdx? (·.1) = some n := by rfl) : DG X G S (.Tuple es k pos) (gStar n gs) := by
  refine PG.imp (pg_star hc h hn hst) ?_
  rintro v σ H Q ⟨w, μ, ρ, b, hl, he, r, p⟩
  unfold gStar at p
  split at p
  · rename_i ds
    split at p
    · rename_i hh
      obtain ⟨a, xs, rfl, h1, h2⟩ := rv_tup r
      refine ⟨a, xs, rfl, by rw [hK]; exact seqT hl.same h1, by rw [h2.length]; exact hh.1, by rw [h2.length]; exact hh.2, fun D nD => ?_⟩
      obtain ⟨le, l2⟩ := hl.new nD (.lst (xs.drop n))
      refine ⟨_, μ, ρ, _, l2, he.mono le, ?_, PstG.mono le p⟩
      have r1 : Rvs G (w.put D (.lst (xs.drop n))) (xs.take n) ((ds.take n).map .d) := Rvs_of_RpA (RpA.mono le.1 _ _ (h2.take n))
      have r2 : Rv G (w.put D (.lst (xs.drop n))) (.ref D) (.d (.list (ds.drop n))) := .lst (SqL.of upd_same) (RpA.mono le.1 _ _ (h2.drop n))
      exact Paired.rec (motive := fun l m _ => Rvs G (w.put D (.lst (xs.drop n))) (l ++ [.ref D]) (m ++ [.d (.list (ds.drop n))])) (.cons r2 .nil) (fun r _ ih => .cons r ih) r1
    · exact p.elim
  · exact p.elim
end

/-! ### x[i] = v of a cell -/
section
variable {G : GT} {w : Wd} {μ : Store} {H : Hp}
theorem get_nodup {l : List Addr} (h : l.Nodup) {i j : Nat} {a : Addr} (hi : l[i]? = some a) (hj : l[j]? = some a) : i = j := by
  obtain ⟨h1, e1⟩ := List.getElem?_eq_some_iff.mp hi
  obtain ⟨h2, e2⟩ := List.getElem?_eq_some_iff.mp hj
  exact (List.getElem_inj h).mp (e1.trans e2.symm)
/-- a cell is written -/
theorem Lay.write (l : Lay G w μ H) {n : Nat} {a : Addr} {c : Cell} {o : HO} (ha : w.α[n]? = some a) (nI : w.I a = none) (hc : ∀ H', H' a = some o → CellAt G w H' a c) : Lay G w (μ.set n c) (upd H a o) := by
  have nF := l.fd a (List.mem_of_getElem? ha)
  refine ⟨fun b u e => ?_, by rw [List.length_set]; exact l.len, l.nd, fun b hb => ?_, fun b u e => ?_, l.fd, l.di, fun m c' b e q => ?_⟩
  · rw [upd_ne (fun z => by rw [z, nI] at e; cases e)]; exact l.same b u e
  · by_cases z : b = a
    · subst z; exact ⟨o, upd_same⟩
    · rw [upd_ne z]; exact l.lv b hb
  · rw [upd_ne (fun z => by rw [z, nF] at e; cases e)]; exact l.fr b u e
  · by_cases z : n = m
    · subst z
      rw [ha] at q
      cases q
      have hn : n < μ.length := by rw [← l.len]; exact (List.getElem?_eq_some_iff.mp ha).1
      rw [List.getElem?_set_self hn] at e
      cases e
      exact hc _ upd_same
    · rw [List.getElem?_set_ne z] at e
      have ne : b ≠ a := fun y => z (get_nodup l.nd ha (y ▸ q))
      exact (l.at_ m c' b e q).cong (fun z => z) ⟨Same.refl _, List.prefix_refl _⟩ (upd_ne ne)
end
def dSetIx (x i v : Dv) (μ : Store) : Option Store := match x, i with
  | .c n, .d (.int k) => match μ[n]? with
    | some (.lst xs) => match ixN xs.length k with
      | some j => some (μ.set n (.lst (xs.set j v)))
      | none => none
    | _ => none
  | _, _ => none
def optN : Option Store → DEnv → Out Fl
  | some μ, ρ => .ok (.nx ρ) μ
  | none, _ => .bad
def sSetIx (m mo mi : ME) : MS := fun ρ μ => (m ρ μ).bind fun v μ => (mo ρ μ).bind fun x μ => (mi ρ μ).bind fun i μ => optN (dSetIx x i v μ) ρ
section
variable {X : Cx} {G : GT} {W : WX} {a b c e o tg : Expr} {es : List Expr} {m mo mi : ME} {mas : MA} {pos p : Pos} {S : List Nat}
theorem Rvs.set {w : Wd} {vs : List V} {bs : List Dv} (r : Rvs G w vs bs) {v : V} {b : Dv} (q : Rv G w v b) : ∀ j, Rvs G w (vs.set j v) (bs.set j b) := by
  induction r with
  | nil => intro j; exact .nil
  | cons r t ih =>
    intro j
    cases j with
    | zero => exact .cons q t
    | succ j => exact .cons r (ih j)
theorem ds_setIx {i : Expr} {pos' : Pos} (hv : DE X G W e m) (ho : DE X G W o mo) (hi : DE X G W i mi) (hs : swapsWithSole [.Subscript o i pos'] e pos.line X.env = pure false := by rfl) (hw : swappedStores [.Subscript o i pos'] e X.env = pure none := by rfl)
    (h1 : (assignEach [.Subscript o i pos'] X.env).map (·.2) = [assign (.Subscript o i pos') X.env] := by rfl)
    (ha : ∀ v, assign (.Subscript o i pos') X.env v = (do
      let ov ← holding [v] (eval o X.env)
      let iv ← holding [v, ov] (eval i X.env)
      standAt pos'
      holding [v, ov, iv] (setItem ov iv v)
      release [v, ov, iv] []) := by intro _; rfl) : DS X G W (.Assign [.Subscript o i pos'] e pos) (sSetIx m mo mi) := by
  refine PS.imp (ps_asg hv (pg_sub ho hi set_list ha) hs hw h1) ?_
  rintro D σ H ⟨w, μ, ρ, hl, he, p⟩
  refine tD.seqS (k := fun ρ v μ => (mo ρ μ).bind fun x μ => (mi ρ μ).bind fun i μ => optN (dSetIx x i v μ) ρ) hl he p fun w1 μ1 H1 v v' l1 lay1 en1 r1 p1 => ?_
  refine tD.seqS (k := fun ρ x μ => (mi ρ μ).bind fun i μ => optN (dSetIx x i v' μ) ρ) lay1 en1 p1 fun w2 μ2 H2 x x' l2 lay2 en2 r2 p2 => ?_
  refine tD.seqS (k := fun ρ i μ => optN (dSetIx x' i v' μ) ρ) lay2 en2 p2 fun w3 μ3 H3 y y' l3 lay3 en3 r3 p3 => ?_
  have r1 := (r1.mono l2).mono l3
  have r2 := r2.mono l3
  cases x' with
  | d _ => exact p3.elim
  | f _ => exact p3.elim
  | c n =>
    cases y' with
    | c _ => exact p3.elim
    | f _ => exact p3.elim
    | d yy =>
      cases yy with
      | int k =>
        unfold dSetIx at p3
        simp only at p3
        cases e : μ3[n]? with
        | none => simp only [e] at p3; exact p3.elim
        | some cl =>
          cases cl with
          | lst xs =>
            simp only [e] at p3
            cases q : ixN xs.length k with
            | none => simp only [q] at p3; exact p3.elim
            | some j =>
              simp only [q] at p3
              obtain ⟨a, g1, rfl⟩ := r2
              obtain ⟨nI, vs, g2, g3⟩ := lay3.at_ n _ a e g1
              refine ⟨a, vs, k, j, rfl, rv_int r3, g2, by rw [Paired.length g3]; exact q, ?_⟩
              exact p3 w3 σ _ w3.le_refl (lay3.write g1 nI fun H' e => ⟨nI, _, e, g3.set r1 j⟩) en3
          | _ => simp only [e] at p3; exact p3.elim
      | _ => exact p3.elim

/-! ### name = [.. for ..] -/
theorem ds_setLc {i : Nat} {y : Str} {py : Pos} {elt tg iter : Expr} {ifs : List Expr} {scope : Scope} (own : List (Str × Nat)) {lpos spos : Pos} {mi : MI} {g : MG} {tt : MT} {te : ME} {fin : OpN} (hf : OkFin G fin) (hc : X.calm = true) (hN : X.N.Nodup)
    (hi : DI X G W tg iter mi) (ok : BlkOk X.N X.env.scope scope own)
    (hg : ∀ (s : Shared) (H : Hp) (C : Addr) (cl : List (Str × Addr)) (fp : List Addr), DG (X.blk s H scope (compEnvC scope cl C X.env) fp) G S tg g) (ht : ∀ (s : Shared) (H : Hp) (C : Addr) (cl : List (Str × Addr)) (fp : List Addr), PTs (X.blk s H scope (compEnvC scope cl C X.env) fp) ifs (tT G W0 tt))
    (he : ∀ (s : Shared) (H : Hp) (C : Addr) (cl : List (Str × Addr)) (fp : List Addr), DE (X.blk s H scope (compEnvC scope cl C X.env) fp) G W0 elt te)
    (hy : X.N[i]? = some y := by rfl) (hyl : X.env.scope.names.lookup y = some .local := by rfl) (hsw : swapsWith (.ListComp elt [⟨tg, iter, ifs, 0⟩] scope lpos) (some (.Name y py)) spos.line X.env = pure true := by exact sw_true rfl rfl rfl (by decide +kernel))
    (hS : ∀ i ∈ S, i ∈ own.map (·.2) := by decide) (hs : ∀ x, foldedSetIterable iter X.env x = pure x := by intro _; rfl) :
    DS X G W (.Assign [.Name y py] (.ListComp elt [⟨tg, iter, ifs, 0⟩] scope lpos) spos) (sSet i (eLc fin mi g tt te (own.map (·.2)))) := by
  refine PS.imp (ps_setLc hc hN hy hyl hsw hi ok hg ht he hs) ?_
  rintro D σ H ⟨w, μ, ρ, hl, he, p⟩
  apply lc_imp hf hS
  exact tD.seqS (k := fun ρ b μ => .ok (.nx (ρ.set i (some b))) μ) hl he p fun w1 μ1 H1 v b l1 lay1 en1 r1 p1 => p1 w1 _ H1 w1.le_refl lay1 (en1.set i r1)
end

/-! ### calls with keywords -/
def pickL {α : Type} (d : α) (ix : List Nat) (l : List α) : List α := ix.map fun i => l.getD i d
def eCallK (n m : Nat) (ix : List Nat) (F : OpN) (a k : MA) : ME := fun ρ μ => (a ρ μ).bind fun bs μ => (k ρ μ).bind fun cs μ => if cs.length = m then fCall n F (pickL (.d .none) ix (bs ++ cs)) μ else .bad
abbrev DK (X : Cx) (G : GT) (W : WX) (ks : List Keyword) (m : MA) : Prop := PK X ks (tA G W m)
section
variable {X : Cx} {G : GT} {W : WX} {e : Expr} {es : List Expr} {kws : List Keyword} {ma : ME} {mas mks : MA} {pos p kpos : Pos} {x : Str} {nm : Option Str} {k n : Nat} {f : Addr} {fd : FuncData} {ps ks : List Str} {F : OpN} {ix : List Nat}
theorem PK.imp {t t' : TA} (h : PK X kws t) (i : ∀ σ H Q, t' σ H Q → t σ H Q) : PK X kws t' := ⟨fun po p s σ H Q I hw => h.run po p s σ H Q I (i _ _ _ hw)⟩
theorem dk_nil : DK X G W [] aNil := by
  refine PK.imp pk_nil ?_
  rintro σ H Q ⟨w, μ, ρ, hl, he, p⟩
  exact p w [] H w.le_refl hl .nil
theorem dk_cons (ha : DE X G W e ma) (hr : DK X G W kws mks) : DK X G W (⟨nm, e, kpos⟩ :: kws) (aCons ma mks) := PK.imp (pk_cons ha hr) acons_imp
theorem pick_vals {vs : List V} {us : List Value} (r : Vals vs us) : ∀ ix : List Nat, Vals (pickL .non ix vs) (pickL .none ix us)
  | [] => .nil
  | i :: ix => by
    refine .cons ?_ (pick_vals r ix)
    cases e : vs[i]? with
    | none =>
      have e2 := r.none_of e
      simp only [List.getD, e, e2]
      rfl
    | some v =>
      obtain ⟨u, e2, q⟩ := r.get e
      simp only [List.getD, e, e2]
      exact q
theorem pick_rvs {w : Wd} {vs : List V} {bs : List Dv} (r : Rvs G w vs bs) : ∀ ix : List Nat, Rvs G w (pickL .non ix vs) (pickL (.d .none) ix bs)
  | [] => .nil
  | i :: ix => by
    refine .cons ?_ (pick_rvs r ix)
    have hl := Paired.length r
    cases e : bs[i]? with
    | none =>
      have e2 : vs[i]? = none := List.getElem?_eq_none (by have := List.getElem?_eq_none_iff.mp e; omega)
      simp only [List.getD, e, e2]
      exact .non
    | some b =>
      obtain ⟨v, e2, q⟩ := r.at e
      simp only [List.getD, e, e2]
      exact q
/-- f(k = v, ..), keywords alone -/
theorem de_callK0 (hF : FnG X.prog X.w X.K X.mg X.base k f fd ps (spD G n F)) (g : X.A.guards = some []) (hr : Room k X.A) (hg : Gl X x) (hm : X.mg x = some (.ref f)) (hk : PySem.W.keepIn X.K (.ref f) = true)
    (hb : ∀ (s : Shared) (ws : List Value), ws.length = ks.length → BindsTo s fd ⟨[] ++ [], ks.zip ws⟩ (ps.zip (pickL .none ix ws))) (tk : Takes X W)
    (hkw : DK X G W kws mks) (hall : (backToKw pos (keywordEach kws X.env)).all (·.1.isSome) = true := by rfl) (hks : (backToKw pos (keywordEach kws X.env)).filterMap (·.1) = ks := by rfl)
    (hdb : (x == ("__debug__" : Str)) = false := by decide) (hpl : ((backTo pos (starEach [] X.env)).any (·.1) || (backToKw pos (keywordEach kws X.env)).any (·.1.isNone)) = false := by rfl) :
    DE X G W (.Call (.Name x p) [] kws pos) (eCallK n ks.length ix F aNil mks) := by
  constructor
  rintro pins s σ H Q I ⟨w, μ, ρ, hl, he, pp⟩
  apply wpAny_Call_Name_kw
  apply ld_glob I hg hm _ hdb
  apply PySem.W.callWith_KW0 (h₀ := X.base) I.ok.mod.kin hk hall _ hpl
  have pp : Pst G W σ (Rv G) w ((mks ρ μ).bind fun cs μ => if cs.length = ks.length then fCall n F (pickL (.d .none) ix ([] ++ cs)) μ else .bad) Q := pp
  apply thn (hkw.run pos pins s σ H (fun zs H2 => zs.length = ks.length ∧ (spD G n F) (pickL .non ix zs) H2 Q (WE W σ)) I (tD.seq (k := fun ρ cs μ => if cs.length = ks.length then fCall n F (pickL (.d .none) ix ([] ++ cs)) μ else .bad) hl he pp fun w1 μ1 H1 vs bs l1 lay1 en1 r1 p1 => ?_))
  · rintro ws s1 ⟨zs, H1, I1, r, hz, q⟩
    refine ⟨I1.kIn, ?_⟩
    rw [hks]
    apply wpAny_call
    apply codeAny_mono (runG hF g hr (fun _ _ _ _ _ I c => passAt tk σ _ _ _ _ _ I c) I1 (hb s1 ws (by rw [← r.length]; exact hz)) (pick_vals r ix) q)
    rintro (e | fl) s' q
    · exact q
    · cases fl with
      | ret u => exact q
      | next => exact q.elim
      | brk => exact q.elim
      | cont => exact q.elim
  · by_cases hb : bs.length = ks.length
    · simp only [if_pos hb, List.nil_append] at p1
      refine ⟨by rw [Paired.length r1]; exact hb, ?_⟩
      unfold fCall at p1
      by_cases q : (pickL (.d .none) ix bs).length = n
      · rw [if_pos q] at p1
        refine ⟨?_, w1, μ1, _, lay1, pick_rvs r1 ix, ?_⟩
        · rw [← q, pickL, pickL, List.length_map, List.length_map]
        · cases z : F (pickL (.d .none) ix bs) μ1 with
          | ok c μ2 => rw [z] at p1; exact p1
          | ex c μ2 => rw [z] at p1; exact p1
          | bad => rw [z] at p1; exact p1
      · rw [if_neg q] at p1
        exact p1.elim
    · simp only [if_neg hb] at p1
      exact p1.elim
end
end DL

/-! The data layer: built-in functions, methods of texts, what is walked. -/
namespace DL
open PySem PySem.Spec PyProof.Rows L2

theorem CallR.or {X : Cx} {f : Value} {r r' : List V → Hp → VK → Prop} (h : CallR X f r) (h' : CallR X f r') : CallR X f (fun xs H Q => r xs H Q ∨ r' xs H Q) := by
  intro pins s σ H xs us Q I rx q
  rcases q with q | q
  · exact h pins s σ H xs us Q I rx q
  · exact h' pins s σ H xs us Q I rx q
theorem MtR.or {X : Cx} {f : String} {r r' : V → List V → Hp → VK → Prop} (h : MtR X f r) (h' : MtR X f r') : MtR X f (fun x xs H Q => r x xs H Q ∨ r' x xs H Q) := by
  intro pins s σ H x xs v us Q I rv rx q
  rcases q with q | q
  · exact h pins s σ H x xs v us Q I rv rx q
  · exact h' pins s σ H x xs v us Q I rv rx q

/-! ### one, two arguments -/
def n1 (f : Dv → Store → Out Dv) : OpN := fun bs μ => match bs with
  | [b] => f b μ
  | _ => .bad
def n2 (f : Dv → Dv → Store → Out Dv) : OpN := fun bs μ => match bs with
  | [b, c] => f b c μ
  | _ => .bad
section
variable {G : GT}
theorem ok_n1 {r : List V → Hp → VK → Prop} {f : Dv → Store → Out Dv} (h : ∀ (W : WX) (σ : L2.St) (w : Wd) (μ : Store) (H : Hp) (x : V) (b : Dv) (Q : VK), Lay G w μ H → Rv G w x b → Pst G W σ (Rv G) w (f b μ) Q → r [x] H Q) : OkN G r (n1 f) := by
  intro W σ w μ H xs bs Q l r p
  match bs, r, p with
  | [b], .cons r .nil, p => exact h W σ w μ H _ b Q l r p
  | [], _, p => exact p.elim
  | _ :: _ :: _, _, p => exact p.elim
theorem ok_n2 {r : List V → Hp → VK → Prop} {f : Dv → Dv → Store → Out Dv} (h : ∀ (W : WX) (σ : L2.St) (w : Wd) (μ : Store) (H : Hp) (x y : V) (b c : Dv) (Q : VK), Lay G w μ H → Rv G w x b → Rv G w y c → Pst G W σ (Rv G) w (f b c μ) Q → r [x, y] H Q) : OkN G r (n2 f) := by
  intro W σ w μ H xs bs Q l r p
  match bs, r, p with
  | [b, c], .cons r (.cons r' .nil), p => exact h W σ w μ H _ _ b c Q l r r' p
  | [], _, p => exact p.elim
  | [_], _, p => exact p.elim
  | _ :: _ :: _ :: _, _, p => exact p.elim

def dLen : OpN := n1 fun b μ => match b with
  | .d (.str z) => if z.length ≤ sizeLine then .ok (.d (.int z.length)) μ else .bad
  | b => match itemsA b μ with
    | some xs => .ok (.d (.int xs.length)) μ
    | none => .bad
theorem ok_len : OkN G (fun xs H Q => ∃ x n, xs = [x] ∧ LenV G.K x H n ∧ Q (.int n) H) dLen := by
  apply ok_n1
  intro W σ w μ H x b Q l r p
  split at p
  · split at p
    · rename_i h
      rw [rv_str r]
      exact ⟨_, _, rfl, ⟨h, rfl⟩, p w _ H w.le_refl l (.int _)⟩
    · exact p.elim
  · split at p
    · rename_i xs h
      obtain ⟨a, vs, rfl, g1, g2⟩ := itemsA_ok l r h
      refine ⟨_, xs.length, rfl, ?_, p w _ H w.le_refl l (.int _)⟩
      rcases g1 with g1 | g1
      · exact .inl ⟨vs, g1, (Paired.length g2).symm⟩
      · exact .inr ⟨vs, g1, (Paired.length g2).symm⟩
    · exact p.elim
def dInt : OpN := n1 fun b μ => match b with
  | .d (.int i) => .ok (.d (.int i)) μ
  | .d (.bool k) => .ok (.d (.int (if k then 1 else 0))) μ
  | .d (.str z) => match PySem.intText? z with
    | some n => if z.length ≤ 640 then .ok (.d (.int n)) μ else .bad
    | none => .bad
  | _ => .bad
def rInt1 : List V → Hp → VK → Prop := fun xs H Q => (∃ i, xs = [.int i] ∧ Q (.int i) H) ∨ ∃ k, xs = [.bl k] ∧ Q (.int (if k then 1 else 0)) H
def rIntS : List V → Hp → VK → Prop := fun xs H Q => ∃ a n, xs = [.str a] ∧ PySem.intText? a = some n ∧ a.length ≤ 640 ∧ Q (.int n) H
theorem call_intA {X : Cx} : CallR X (.type "int") (fun xs H Q => rInt1 xs H Q ∨ rIntS xs H Q) := CallR.or (r := rInt1) (r' := rIntS) call_int1 call_int_str
theorem ok_int : OkN G (fun xs H Q => rInt1 xs H Q ∨ rIntS xs H Q) dInt := by
  apply ok_n1
  intro W σ w μ H x b Q l r p
  split at p
  · rw [rv_int r]; exact .inl (.inl ⟨_, rfl, p w _ H w.le_refl l (.int _)⟩)
  · rw [rv_bl r]; exact .inl (.inr ⟨_, rfl, p w _ H w.le_refl l (.int _)⟩)
  · split at p
    · rename_i h
      split at p
      · rename_i h2
        rw [rv_str r]; exact .inr ⟨_, _, rfl, h, h2, p w _ H w.le_refl l (.int _)⟩
      · exact p.elim
    · exact p.elim
  · exact p.elim
def dStr : OpN := n1 fun b μ => match b with
  | .d (.int i) => if i.natAbs.log2 < 1920 then .ok (.d (.str (toString i))) μ else .bad
  | .d (.str z) => .ok (.d (.str z)) μ
  | _ => .bad
def rStrI : List V → Hp → VK → Prop := fun xs H Q => ∃ i, xs = [.int i] ∧ i.natAbs.log2 < 1920 ∧ Q (.str (toString i)) H
def rStrS : List V → Hp → VK → Prop := fun xs H Q => ∃ a, xs = [.str a] ∧ Q (.str a) H
theorem call_strA {X : Cx} : CallR X (.type "str") (fun xs H Q => rStrI xs H Q ∨ rStrS xs H Q) := CallR.or (r := rStrI) (r' := rStrS) call_str_int SkE.call_str_str
theorem ok_str : OkN G (fun xs H Q => rStrI xs H Q ∨ rStrS xs H Q) dStr := by
  apply ok_n1
  intro W σ w μ H x b Q l r p
  split at p
  · split at p
    · rename_i h
      rw [rv_int r]; exact .inl ⟨_, rfl, h, p w _ H w.le_refl l (.str _)⟩
    · exact p.elim
  · rw [rv_str r]; exact .inr ⟨_, rfl, p w _ H w.le_refl l (.str _)⟩
  · exact p.elim
def dAbs : OpN := n1 fun b μ => match b with
  | .d (.int i) => .ok (.d (.int (if i < 0 then -i else i))) μ
  | _ => .bad
theorem ok_abs : OkN G (fun xs H Q => ∃ i, xs = [.int i] ∧ Q (.int (if i < 0 then -i else i)) H) dAbs := by
  apply ok_n1
  intro W σ w μ H x b Q l r p
  split at p
  · rw [rv_int r]; exact ⟨_, rfl, p w _ H w.le_refl l (.int _)⟩
  · exact p.elim
def dMax : OpN := n2 fun b c μ => match b, c with
  | .d (.int i), .d (.int j) => .ok (.d (.int (if j > i then j else i))) μ
  | _, _ => .bad
theorem ok_max : OkN G (fun xs H Q => ∃ i j, xs = [.int i, .int j] ∧ Q (.int (if j > i then j else i)) H) dMax := by
  apply ok_n2
  intro W σ w μ H x y b c Q l r r' p
  split at p
  · rw [rv_int r, rv_int r']; exact ⟨_, _, rfl, p w _ H w.le_refl l (.int _)⟩
  · exact p.elim
def dMin : OpN := n2 fun b c μ => match b, c with
  | .d (.int i), .d (.int j) => .ok (.d (.int (if j < i then j else i))) μ
  | _, _ => .bad
theorem ok_min : OkN G (fun xs H Q => ∃ i j, xs = [.int i, .int j] ∧ Q (.int (if j < i then j else i)) H) dMin := by
  apply ok_n2
  intro W σ w μ H x y b c Q l r r' p
  split at p
  · rw [rv_int r, rv_int r']; exact ⟨_, _, rfl, p w _ H w.le_refl l (.int _)⟩
  · exact p.elim
def allB : List Dv → Option (List Bool)
  | [] => some []
  | .d (.bool k) :: r => match allB r with
    | some ks => some (k :: ks)
    | none => none
  | _ => none
theorem allB_map : ∀ ks : List Bool, allB (ks.map fun k => .d (.bool k)) = some ks
  | [] => rfl
  | k :: ks => by rw [List.map_cons, allB, allB_map ks]
theorem allB_eq : ∀ {bs : List Dv} {ks : List Bool}, allB bs = some ks → bs = (ks.map PyData.bool).map Dv.d
  | [], _, h => by cases h; rfl
  | .d (.bool k) :: r, _, h => by
    unfold allB at h
    cases q : allB r with
    | none => rw [q] at h; cases h
    | some xs => rw [q] at h; cases h; rw [allB_eq q]; rfl
def dAll (f : List Bool → Bool) : OpN := n1 fun b μ => match items b μ with
  | some bs => match allB bs with
    | some ks => .ok (.d (.bool (f ks))) μ
    | none => .bad
  | none => .bad
theorem bools_ok {w : Wd} {μ : Store} {H : Hp} {x : V} {b : Dv} {bs : List Dv} {ks : List Bool} (l : Lay G w μ H) (r : Rv G w x b) (h : items b μ = some bs) (h2 : allB bs = some ks) : ∃ a, x = .ref a ∧ SqL G.K H a (ks.map V.bl) := by
  obtain ⟨a, vs, rfl, g1, g2⟩ := items_ok l r h
  rw [allB_eq h2] at g2
  rw [rv_bls (RpA_of_Rvs g2)] at g1
  exact ⟨a, rfl, g1⟩
theorem ok_all : OkN G (rAll G.K) (dAll fun ks => ks.all id) := by
  apply ok_n1
  intro W σ w μ H x b Q l r p
  split at p
  · rename_i bs h
    split at p
    · rename_i ks h2
      obtain ⟨a, rfl, g⟩ := bools_ok l r h h2
      exact ⟨a, ks, rfl, g, p w _ H w.le_refl l (.bl _)⟩
    · exact p.elim
  · exact p.elim
theorem ok_any : OkN G (rAny G.K) (dAll fun ks => ks.any id) := by
  apply ok_n1
  intro W σ w μ H x b Q l r p
  split at p
  · rename_i bs h
    split at p
    · rename_i ks h2
      obtain ⟨a, rfl, g⟩ := bools_ok l r h h2
      exact ⟨a, ks, rfl, g, p w _ H w.le_refl l (.bl _)⟩
    · exact p.elim
  · exact p.elim
def allI : List Dv → Option (List Int)
  | [] => some []
  | .d (.int k) :: r => match allI r with
    | some ks => some (k :: ks)
    | none => none
  | _ => none
theorem allI_map : ∀ ks : List Int, allI (ks.map fun k => .d (.int k)) = some ks
  | [] => rfl
  | k :: ks => by rw [List.map_cons, allI, allI_map ks]
theorem allI_eq : ∀ {bs : List Dv} {ks : List Int}, allI bs = some ks → bs = (ks.map PyData.int).map Dv.d
  | [], _, h => by cases h; rfl
  | .d (.int k) :: r, _, h => by
    unfold allI at h
    cases q : allI r with
    | none => rw [q] at h; cases h
    | some xs => rw [q] at h; cases h; rw [allI_eq q]; rfl
def dSum : OpN := n1 fun b μ => match items b μ with
  | some bs => match allI bs with
    | some ks => .ok (.d (.int ks.sum)) μ
    | none => .bad
  | none => .bad
theorem ok_sum : OkN G (rSum G.K) dSum := by
  apply ok_n1
  intro W σ w μ H x b Q l r p
  split at p
  · rename_i bs h
    split at p
    · rename_i ks h2
      obtain ⟨a, vs, rfl, g1, g2⟩ := items_ok l r h
      rw [allI_eq h2] at g2
      rw [rv_ints (RpA_of_Rvs g2)] at g1
      exact ⟨a, ks, rfl, g1, p w _ H w.le_refl l (.int _)⟩
    · exact p.elim
  · exact p.elim

/-! ### repr -/
def rRepr (K : PySem.W.Frag) : List V → Hp → VK → Prop := fun xs H Q => ∃ x d, xs = [x] ∧ Dp K H x d ∧ d.showable = true ∧ d.hasDict = false ∧ d.depth ≤ 40 ∧ d.shown.length ≤ sizeLine ∧ Q (.str d.shown) H
theorem call_reprA {X : Cx} (g : X.A.guards = some []) (hu : X.A.units + 64 < cLine) : CallR X (.builtin "repr") (rRepr X.K) := by
  intro pins s σ H xs us Q I r h
  obtain ⟨x, d, rfl, dp, sh, nd, dep, sz, q⟩ := h
  obtain ⟨u, rfl, r1⟩ := vals1 r
  obtain ⟨as, rd⟩ := Dp.reads I d x u dp r1
  have fin : ∀ h' u tk, (∀ b o, s.heap.get? b = some o → h'.get? b = some o) → EP X pins σ Q (.str d.shown u) { s with heap := h', toks := tk } := fun h' u tk hk => ⟨.str d.shown, H, I.kept hk, ⟨u, rfl⟩, q⟩
  have go : isDisplay d = true → wpAny (model X.prog X.w) X.A (call (.builtin "repr") [u]) (EP X pins σ Q) X.xe s := fun hd => by
    obtain ⟨a, rfl⟩ := isRef_of_reads rd hd
    exact repr_of_reads' rd sh (PyData.noDict_hsm nd) g (by omega) (fun _ _ e => e) fin sz
  cases d with
  | none => cases rd; exact PySem.P.repr_of_none (fin s.heap _ _ fun _ _ e => e)
  | bool b => cases rd; exact PySem.P.repr_of_bool (fin s.heap _ _ fun _ _ e => e)
  | int i => cases rd; exact PySem.P.repr_of_int (by simpa [PyData.showable] using sh) (fin s.heap _ _ fun _ _ e => e)
  | str z => cases rd; exact PySem.P.repr_of_str (fin s.heap _ _ fun _ _ e => e) (hsz := by simpa [PyData.shown] using sz)
  | list ds => exact go rfl
  | tuple ds => exact go rfl
  | dict ds => cases dp
def dRepr : OpN := n1 fun b μ => match view b μ with
  | some d => if (d.showable && nodict d && !d.hasDict && decide (d.depth ≤ 40) && decide (d.shown.length ≤ sizeLine)) = true then .ok (.d (.str d.shown)) μ else .bad
  | none => .bad
theorem ok_repr : OkN G (rRepr G.K) dRepr := by
  apply ok_n1
  intro W σ w μ H x b Q l r p
  split at p
  · rename_i d h
    split at p
    · rename_i h2
      simp only [Bool.and_eq_true, decide_eq_true_eq, Bool.not_eq_true'] at h2
      exact ⟨x, d, rfl, Rp.dp _ _ h2.1.1.1.2 (view_ok l r h), h2.1.1.1.1, h2.1.1.2, h2.1.2, h2.2, p w _ H w.le_refl l (.str _)⟩
    · exact p.elim
  · exact p.elim
end
end DL

/-! The data layer: what is walked, methods of texts, cells frozen. -/
namespace DL
open PySem PySem.Spec PyProof.Rows L2

/-! ### what is walked -/
def signs (z : Str) : List Dv := z.cps.toList.map fun c => .d (.str ⟨#[c]⟩)
/-- a frozen list, a tuple, a text -/
def walkD : Dv → Store → Out (List Dv)
  | .d (.str z), μ => .ok (signs z) μ
  | .d (.list ds), μ => .ok (ds.map .d) μ
  | .d (.tuple ds), μ => .ok (ds.map .d) μ
  | _, _ => .bad
def iSeq (a : ME) : MI := fun ρ μ => (a ρ μ).bind walkD
section
variable {G : GT} {w : Wd}
theorem it_tup {a : Addr} {vs : List V} {bs : List Dv} (hs : SqT G.K w.I a vs) (r : Rvs G w vs bs) : ItR G w (Itt G.K a) bs where
  go := fun i w' μ H hi l lay => ⟨vs, vs[i]'(by rw [Paired.length r]; exact hi), seqT (Same.trans l.1 lay.same) hs, by simp⟩
  yld := fun i b w' μ H x H' e l lay y => by
    obtain ⟨rfl, y⟩ := y
    obtain ⟨v, e1, q⟩ := r.at e
    have := y vs (seqT (Same.trans l.1 lay.same) hs)
    rw [e1] at this
    cases this
    exact ⟨w', w'.le_refl, lay, q.mono l⟩
  stop := fun i w' μ H hi l lay => ⟨vs, seqT (Same.trans l.1 lay.same) hs, by rw [Paired.length r]; exact hi⟩
theorem it_str (z : Str) : ItR G w (Its z) (signs z) where
  go := fun i w' μ H hi l lay => by
    have hi : i < z.cps.toList.length := by simpa [signs] using hi
    show i < z.cps.size
    simpa using hi
  yld := fun i b w' μ H x H' e l lay y => by
    obtain ⟨rfl, c, e1, rfl⟩ := y
    unfold signs at e
    rw [List.getElem?_map, Array.getElem?_toList, e1] at e
    cases e
    exact ⟨w', w'.le_refl, lay, .str _⟩
  stop := fun i w' μ H hi l lay => by
    have hi : z.cps.toList.length ≤ i := by simpa [signs] using hi
    show z.cps.size ≤ i
    simpa using hi
theorem it_range (lo : Int) (n : Nat) : ItR G w (Itr lo n) ((List.range n).map fun (i : Nat) => Dv.d (.int (lo + (i : Int)))) where
  go := fun i w' μ H hi l lay => by
    rw [List.length_map, List.length_range] at hi
    exact hi
  yld := fun i b w' μ H x H' e l lay y => by
    obtain ⟨rfl, rfl⟩ := y
    rw [List.getElem?_map] at e
    cases q : (List.range n)[i]? with
    | none => rw [q] at e; cases e
    | some j =>
      rw [q] at e
      cases e
      obtain ⟨h1, h2⟩ := List.getElem?_eq_some_iff.mp q
      rw [List.getElem_range] at h2
      subst h2
      exact ⟨w', w'.le_refl, lay, .int _⟩
  stop := fun i w' μ H hi l lay => by
    rw [List.length_map, List.length_range] at hi
    exact hi
end
def iAny (K : PySem.W.Frag) (te : TE) : TI := fun σ H R => te σ H fun x H1 => (∃ a, x = .ref a ∧ (∃ xs, SqL K H1 a xs) ∧ R (Itl K a) H1) ∨ (∃ a, x = .ref a ∧ (∃ xs, SqT K H1 a xs) ∧ R (Itt K a) H1) ∨ ∃ z, x = .str z ∧ R (Its z) H1
section
variable {X : Cx} {G : GT} {W : WX} {tg e : Expr} {es : List Expr} {m : ME} {mas : MA} {pos p : Pos}
theorem pi_any {te : TE} (he : PE X e te) : PI X tg e (iAny X.K te) := by
  constructor
  intro pins s σ H R I h
  apply thn (he.run pins s σ H _ I h)
  rintro v s1 ⟨x, H1, I1, r1, ⟨a, rfl, ⟨xs, hq⟩, q⟩ | ⟨a, rfl, ⟨xs, hq⟩, q⟩ | ⟨z, rfl, q⟩⟩
  · cases r1
    obtain ⟨its, rv, pl, _⟩ := I1.list hq
    apply wpAny_pyIter_list pl.isList
    exact pi_one (tk := s1.toks) I1 _ (turn_list a _) ⟨_, Heap.get?_push_size _ rfl, rfl, rfl⟩ q
  · cases r1
    obtain ⟨its, rv, pt, _⟩ := I1.tuple hq
    apply wpAny_pyIter_tuple (show s1.heap.IsTuple a its.toArray from pt)
    exact pi_one (tk := s1.toks) I1 _ (turn_tuple a _) ⟨_, Heap.get?_push_size _ rfl, rfl, rfl⟩ q
  · obtain ⟨t, rfl⟩ := r1
    by_cases ha : z.cps.all (· < 128) = true
    · exact wpAny_pyIter_ascii ha (pi_one (tk := s1.toks) I1 _ (turn_str _ z t "str_ascii_iterator" (Or.inl rfl)) ⟨_, Heap.get?_push_size _ rfl, rfl, rfl⟩ q)
    · exact wpAny_pyIter_wide (by simpa using ha) (pi_one (tk := s1.toks) I1 _ (turn_str _ z t "str_iterator" (Or.inr rfl)) ⟨_, Heap.get?_push_size _ rfl, rfl, rfl⟩ q)
theorem it_listX {w : Wd} {a : Addr} {vs : List V} {bs : List Dv} (hs : SqL G.K w.I a vs) (r : Rvs G w vs bs) : ItR G w (Itl G.K a) bs where
  go := fun i w' μ H hi l lay => ⟨vs, vs[i]'(by rw [Paired.length r]; exact hi), seqL (Same.trans l.1 lay.same) hs, by simp⟩
  yld := fun i b w' μ H x H' e l lay y => by
    obtain ⟨rfl, y⟩ := y
    obtain ⟨v, e1, q⟩ := r.at e
    have := y vs (seqL (Same.trans l.1 lay.same) hs)
    rw [e1] at this
    cases this
    exact ⟨w', w'.le_refl, lay, q.mono l⟩
  stop := fun i w' μ H hi l lay => ⟨vs, seqL (Same.trans l.1 lay.same) hs, by rw [Paired.length r]; exact hi⟩
theorem di_seq (hK : X.K = G.K) (he : DE X G W e m) : DI X G W tg e (iSeq m) := by
  refine PI.imp (pi_any he) ?_
  rintro σ H Q ⟨w, μ, ρ, hl, he, p⟩
  refine tD.seq (k := fun ρ x μ => walkD x μ) hl he p fun w1 μ1 H1 v b l1 lay1 en1 r1 p1 => ?_
  unfold walkD at p1
  split at p1
  · rename_i z
    rw [rv_str r1]
    exact .inr (.inr ⟨z, rfl, p1 w1 _ H1 w1.le_refl lay1 (it_str z)⟩)
  · obtain ⟨a, vs, rfl, g1, g2⟩ := rv_lst r1
    exact .inl ⟨a, rfl, ⟨vs, by rw [hK]; exact seqL lay1.same g1⟩, p1 w1 _ H1 w1.le_refl lay1 (by rw [hK]; exact it_listX g1 (Rvs_of_RpA g2))⟩
  · obtain ⟨a, vs, rfl, g1, g2⟩ := rv_tup r1
    exact .inr (.inl ⟨a, rfl, ⟨vs, by rw [hK]; exact seqT lay1.same g1⟩, p1 w1 _ H1 w1.le_refl lay1 (by rw [hK]; exact it_tup g1 (Rvs_of_RpA g2))⟩)
  · exact p1.elim
def okR (i : Int) : Bool := decide (-(2 ^ 62) ≤ i) && decide (i < 2 ^ 62)
def rng1 : List Dv → Store → Out (List Dv)
  | [.d (.int j)], μ => if okR j = true then .ok ((List.range j.toNat).map fun (i : Nat) => Dv.d (.int i)) μ else .bad
  | _, _ => .bad
def rng2 : List Dv → Store → Out (List Dv)
  | [.d (.int i), .d (.int j)], μ => if (okR i && okR j) = true then .ok ((List.range (j - i).toNat).map fun (k : Nat) => Dv.d (.int (i + k))) μ else .bad
  | _, _ => .bad
def iRng (f : List Dv → Store → Out (List Dv)) (a : MA) : MI := fun ρ μ => (a ρ μ).bind f
theorem di_range1 {a : Expr} (hg : Gl X "range") (hm : X.mg "range" = none) (ha : DA X G W [a] mas) (hs : starEach [a] X.env = [(false, eval a X.env)] := by rfl) : DI X G W tg (.Call (.Name "range" p) [a] [] pos) (iRng rng1 mas) := by
  refine PI.imp (pi_range1 hg hm ha hs) ?_
  rintro σ H Q ⟨w, μ, ρ, hl, he, pp⟩
  refine tD.seq (k := fun ρ xs μ => rng1 xs μ) hl he pp fun w1 μ1 H1 v b l1 lay1 en1 r1 p1 => ?_
  unfold rng1 at p1
  split at p1
  · rename_i j
    split at p1
    · rename_i h
      unfold okR at h
      simp only [Bool.and_eq_true, decide_eq_true_eq] at h
      cases r1 with
      | cons r t =>
        cases t
        rw [rv_int r]
        have z := it_range (G := G) (w := w1) 0 j.toNat
        have : (List.range j.toNat).map (fun (i : Nat) => Dv.d (.int (0 + (i : Int)))) = (List.range j.toNat).map fun (i : Nat) => Dv.d (.int (i : Int)) := by simp only [Int.zero_add]
        rw [this] at z
        exact ⟨j, rfl, h.1, h.2, p1 w1 _ H1 w1.le_refl lay1 z⟩
    · exact p1.elim
  · exact p1.elim
theorem di_range2 {a b : Expr} (hg : Gl X "range") (hm : X.mg "range" = none) (ha : DA X G W [a, b] mas) (hs : starEach [a, b] X.env = [(false, eval a X.env), (false, eval b X.env)] := by rfl) (hs2 : starEach [b] X.env = [(false, eval b X.env)] := by rfl) :
    DI X G W tg (.Call (.Name "range" p) [a, b] [] pos) (iRng rng2 mas) := by
  refine PI.imp (pi_range2 hg hm ha hs hs2) ?_
  rintro σ H Q ⟨w, μ, ρ, hl, he, pp⟩
  refine tD.seq (k := fun ρ xs μ => rng2 xs μ) hl he pp fun w1 μ1 H1 v b l1 lay1 en1 r1 p1 => ?_
  unfold rng2 at p1
  split at p1
  · rename_i i j
    split at p1
    · rename_i h
      unfold okR at h
      simp only [Bool.and_eq_true, decide_eq_true_eq] at h
      cases r1 with
      | cons r t =>
        cases t with
        | cons r' t =>
          cases t
          rw [rv_int r, rv_int r']
          exact ⟨i, j, rfl, ⟨h.1.1, h.1.2, h.2.1, h.2.2⟩, p1 w1 _ H1 w1.le_refl lay1 (it_range i _)⟩
    · exact p1.elim
  · exact p1.elim
end

/-! ### a cell that is changed no more -/
def dFrz : Op1 := fun x μ => match x with
  | .d y => .ok (.d y) μ
  | .c n => match μ[n]? with
    | some (.lst xs) => match allD xs with
      | some ds => .ok (.d (.list ds)) (μ.set n .dead)
      | none => .bad
    | _ => .bad
  | .f _ => .bad
theorem Lay.freeze {G : GT} {w : Wd} {μ : Store} {H : Hp} (l : Lay G w μ H) {n : Nat} {a : Addr} {vs : List V} (ha : w.α[n]? = some a) (nI : w.I a = none) (e : H a = some (.lst vs)) : w.le (w.put a (.lst vs)) ∧ Lay G (w.put a (.lst vs)) (μ.set n .dead) H := by
  have nF := l.fd a (List.mem_of_getElem? ha)
  refine ⟨⟨same_upd nI, List.prefix_refl _, Same.refl _⟩, fun b u q => ?_, by rw [List.length_set]; exact l.len, l.nd, l.lv, l.fr, l.fd, fun b u q => ?_, fun m c b q1 q2 => ?_⟩
  · by_cases z : b = a
    · subst z; have q : upd w.I b (.lst vs) b = some u := q; rw [upd_same] at q; rw [← q]; exact e
    · have q : upd w.I a (.lst vs) b = some u := q; rw [upd_ne z] at q; exact l.same b u q
  · have : b ≠ a := fun z => by rw [z, nF] at q; cases q
    show upd w.I a _ b = none
    rw [upd_ne this]; exact l.di b u q
  · by_cases z : n = m
    · subst z
      have hn : n < μ.length := by rw [← l.len]; exact (List.getElem?_eq_some_iff.mp ha).1
      rw [List.getElem?_set_self hn] at q1
      cases q1
      trivial
    · rw [List.getElem?_set_ne z] at q1
      have ne : b ≠ a := fun y => z (get_nodup l.nd ha (y ▸ q2))
      exact CellAt.cong (w' := w.put a (.lst vs)) (fun z => by show upd w.I a _ b = none; rw [upd_ne ne]; exact z) ⟨same_upd nI, List.prefix_refl _⟩ rfl (l.at_ m c b q1 q2)
section
variable {X : Cx} {G : GT} {W : WX} {e : Expr} {m : ME}
theorem de_frz (he : DE X G W e m) : DE X G W e (e1 dFrz m) := by
  refine PE.imp he ?_
  rintro σ H Q ⟨w, μ, ρ, hl, he, p⟩
  refine ⟨w, μ, ρ, hl, he, ?_⟩
  have p : Pst G W σ (Rv G) w ((m ρ μ).bind fun x μ => dFrz x μ) Q := p
  cases q : m ρ μ with
  | bad => rw [q] at p; exact p.elim
  | ex _ _ => rw [q] at p; exact p
  | ok b μ1 =>
    rw [q] at p
    intro w1 v H1 l1 lay1 r1
    have p1 : Pst G W σ (Rv G) w (dFrz b μ1) Q := p
    have p1 := Pst.mono l1 p1
    cases b with
    | d x => exact p1 w1 v H1 w1.le_refl lay1 r1
    | f n => exact p1.elim
    | c n =>
      unfold dFrz at p1
      simp only at p1
      cases e : μ1[n]? with
      | none => simp only [e] at p1; exact p1.elim
      | some cl =>
        cases cl with
        | lst xs =>
          simp only [e] at p1
          cases q2 : allD xs with
          | none => simp only [q2] at p1; exact p1.elim
          | some ds =>
            simp only [q2] at p1
            obtain ⟨a, g1, rfl⟩ := r1
            obtain ⟨nI, vs, g2, g3⟩ := lay1.at_ n _ a e g1
            obtain ⟨le, l2⟩ := lay1.freeze g1 nI g2
            rw [allD_eq q2] at g3
            exact p1 _ _ H1 le l2 (.lst (SqL.of upd_same) (RpA.mono le.1 _ _ (RpA_of_Rvs g3)))
        | _ => simp only [e] at p1; exact p1.elim
end

/-! ### methods of texts -/
def m0 (f : Str → Store → Out Dv) : Dv → OpN := fun x bs μ => match x, bs with
  | .d (.str a), [] => f a μ
  | _, _ => .bad
def m1 (f : Str → Dv → Store → Out Dv) : Dv → OpN := fun x bs μ => match x, bs with
  | .d (.str a), [b] => f a b μ
  | _, _ => .bad
def m2 (f : Str → Dv → Dv → Store → Out Dv) : Dv → OpN := fun x bs μ => match x, bs with
  | .d (.str a), [b, c] => f a b c μ
  | _, _ => .bad
section
variable {G : GT}
theorem ok_m0 {r : V → List V → Hp → VK → Prop} {f : Str → Store → Out Dv} (h : ∀ (W : WX) (σ : L2.St) (w : Wd) (μ : Store) (H : Hp) (a : Str) (Q : VK), Lay G w μ H → Pst G W σ (Rv G) w (f a μ) Q → r (.str a) [] H Q) : OkM G r (m0 f) := by
  intro W σ w μ H x xs b bs Q l r rr p
  unfold m0 at p
  split at p
  · cases rr; rw [rv_str r]; exact h W σ w μ H _ Q l p
  · exact p.elim
theorem ok_m1 {r : V → List V → Hp → VK → Prop} {f : Str → Dv → Store → Out Dv} (h : ∀ (W : WX) (σ : L2.St) (w : Wd) (μ : Store) (H : Hp) (a : Str) (y : V) (b : Dv) (Q : VK), Lay G w μ H → Rv G w y b → Pst G W σ (Rv G) w (f a b μ) Q → r (.str a) [y] H Q) : OkM G r (m1 f) := by
  intro W σ w μ H x xs b bs Q l r rr p
  unfold m1 at p
  split at p
  · cases rr with
    | cons r1 t => cases t; rw [rv_str r]; exact h W σ w μ H _ _ _ Q l r1 p
  · exact p.elim
theorem ok_m2 {r : V → List V → Hp → VK → Prop} {f : Str → Dv → Dv → Store → Out Dv} (h : ∀ (W : WX) (σ : L2.St) (w : Wd) (μ : Store) (H : Hp) (a : Str) (y z : V) (b c : Dv) (Q : VK), Lay G w μ H → Rv G w y b → Rv G w z c → Pst G W σ (Rv G) w (f a b c μ) Q → r (.str a) [y, z] H Q) : OkM G r (m2 f) := by
  intro W σ w μ H x xs b bs Q l r rr p
  unfold m2 at p
  split at p
  · cases rr with
    | cons r1 t =>
      cases t with
      | cons r2 t => cases t; rw [rv_str r]; exact h W σ w μ H _ _ _ _ _ Q l r1 r2 p
  · exact p.elim
def dPartition : Dv → OpN := m1 fun a b μ => match b with
  | .d (.str b) => if (b.length == 0) = false ∧ a.length ≤ sizeLine then .ok (.d (.tuple [.str (Txt.partition a b).1, .str (Txt.partition a b).2.1, .str (Txt.partition a b).2.2])) μ else .bad
  | _ => .bad
def dSplit : Dv → OpN := m1 fun a b μ => match b with
  | .d (.str b) => if (b.length == 0) = false ∧ a.length + 2 ≤ sizeLine then .ok (.d (.list ((Txt.split a b).map .str))) μ else .bad
  | _ => .bad
theorem ok_split : OkM G (fun x xs H Q => ∃ a b, x = .str a ∧ xs = [.str b] ∧ (b.length == 0) = false ∧ a.length + 2 ≤ sizeLine ∧ rNewStrs (Txt.split a b) H Q) dSplit := by
  apply ok_m1
  intro W σ w μ H a y b Q l r p
  split at p
  · split at p
    · rename_i h
      rw [rv_str r]
      refine ⟨a, _, rfl, rfl, h.1, h.2, fun q nq => ?_⟩
      obtain ⟨le, l2⟩ := l.new nq (.lst ((Txt.split a _).map V.str))
      exact p _ _ _ le l2 (.lst (SqL.of upd_same) (RpA_strs _))
    · exact p.elim
  · exact p.elim
def allS : List Dv → Option (List Str)
  | [] => some []
  | .d (.str k) :: r => match allS r with
    | some ks => some (k :: ks)
    | none => none
  | _ => none
theorem allS_map : ∀ ks : List Str, allS (ks.map fun k => .d (.str k)) = some ks
  | [] => rfl
  | k :: ks => by rw [List.map_cons, allS, allS_map ks]
theorem allS_eq : ∀ {bs : List Dv} {ks : List Str}, allS bs = some ks → bs = (ks.map PyData.str).map Dv.d
  | [], _, h => by cases h; rfl
  | .d (.str k) :: r, _, h => by
    unfold allS at h
    cases q : allS r with
    | none => rw [q] at h; cases h
    | some xs => rw [q] at h; cases h; rw [allS_eq q]; rfl
def dJoin : Dv → OpN := m1 fun a b μ => match itemsA b μ with
  | some bs => match allS bs with
    | some ys => if (ys.map (·.length)).sum + ys.length * a.length ≤ 16777216 then .ok (.d (.str (Txt.join a ys))) μ else .bad
    | none => .bad
  | none => .bad
theorem ok_join : OkM G (fun x xs H Q => ∃ a p, ∃ ys : List Str, x = .str a ∧ xs = [.ref p] ∧ (SqL G.K H p (ys.map V.str) ∨ SqT G.K H p (ys.map V.str)) ∧ (ys.map (·.length)).sum + ys.length * a.length ≤ 16777216 ∧ Q (.str (Txt.join a ys)) H) dJoin := by
  apply ok_m1
  intro W σ w μ H a y b Q l r p
  split at p
  · rename_i bs h
    split at p
    · rename_i ys h2
      split at p
      · rename_i h3
        obtain ⟨q, vs, rfl, g1, g2⟩ := itemsA_ok l r h
        rw [allS_eq h2] at g2
        rw [rv_strs (RpA_of_Rvs g2)] at g1
        exact ⟨a, q, ys, rfl, rfl, g1, h3, p w _ H w.le_refl l (.str _)⟩
      · exact p.elim
    · exact p.elim
  · exact p.elim
def dIndexS : Dv → OpN := m1 fun a b μ => match b with
  | .d (.str b) => match Builtin.Str.occurrences a b 0 a.length 1 with
    | i :: _ => .ok (.d (.int (i : Nat))) μ
    | [] => .bad
  | _ => .bad
theorem ok_indexS : OkM G (fun x xs H Q => ∃ a b i rest, x = .str a ∧ xs = [.str b] ∧ Builtin.Str.occurrences a b 0 a.length 1 = i :: rest ∧ Q (.int (i : Nat)) H) dIndexS := by
  apply ok_m1
  intro W σ w μ H a y b Q l r p
  split at p
  · split at p
    · rename_i i rest h
      rw [rv_str r]
      exact ⟨a, _, i, rest, rfl, rfl, h, p w _ H w.le_refl l (.int _)⟩
    · exact p.elim
  · exact p.elim
end
def rPadF (f : Str → Int → Nat → Str) : V → List V → Hp → VK → Prop := fun x xs H Q => ∃ (a : Str) (i : Int) (z : Str), x = .str a ∧ xs = [.int i, .str z] ∧ PadOk i = true ∧ z.length = 1 ∧ Q (.str (f a i (z.cps.getD 0 0))) H
theorem mt_ljustF {X : Cx} : MtR X "str.ljust" (rPadF Txt.ljustF) := by
  intro pins s σ H x xs v us Q I rx rs h
  obtain ⟨a, i, z, rfl, rfl, h1, h2, q⟩ := h
  obtain ⟨t, rfl⟩ := rx
  obtain ⟨u1, u2, rfl, ⟨t1, rfl⟩, ⟨t2, rfl⟩⟩ := vals2 rs
  exact ljust_fill h1 h2 fun t' k => ⟨.str _, H, I.tok k, ⟨t', rfl⟩, q⟩
theorem mt_rjustF {X : Cx} : MtR X "str.rjust" (rPadF Txt.rjustF) := by
  intro pins s σ H x xs v us Q I rx rs h
  obtain ⟨a, i, z, rfl, rfl, h1, h2, q⟩ := h
  obtain ⟨t, rfl⟩ := rx
  obtain ⟨u1, u2, rfl, ⟨t1, rfl⟩, ⟨t2, rfl⟩⟩ := vals2 rs
  exact rjust_fill h1 h2 fun t' k => ⟨.str _, H, I.tok k, ⟨t', rfl⟩, q⟩
def dPadF (f : Str → Int → Nat → Str) : Dv → OpN := m2 fun a b c μ => match b, c with
  | .d (.int i), .d (.str z) => if PadOk i = true ∧ z.length = 1 then .ok (.d (.str (f a i (z.cps.getD 0 0)))) μ else .bad
  | _, _ => .bad
theorem ok_padF {G : GT} {f : Str → Int → Nat → Str} : OkM G (rPadF f) (dPadF f) := by
  apply ok_m2
  intro W σ w μ H a y z b c Q l r r' p
  split at p
  · split at p
    · rename_i h
      rw [rv_int r, rv_str r']
      exact ⟨a, _, _, rfl, rfl, h.1, h.2, p w _ H w.le_refl l (.str _)⟩
    · exact p.elim
  · exact p.elim

/-! ### a text times a number -/
def dMulA : Op2 := fun x y μ => match x, y with
  | .d (.str z), .d (.int i) => if (decide (-(2 ^ 31) ≤ i) && decide (i < 2 ^ 31) && decide (z.length * i.toNat ≤ sizeLine) && decide (i < 1 ∨ (z.length : Int) ≤ (2 ^ 63 - 1) / i)) = true then .ok (.d (.str (Txt.mul z i))) μ else .bad
  | x, y => dMul x y μ
theorem ok_mulA {G : GT} : Ok2 G (fun x y H Q => rI CMulX (fun i j => .int (i * j)) x y H Q ∨ rMulS x y H Q) dMulA := by
  intro W σ w μ H x y b c Q l rx ry p
  unfold dMulA at p
  split at p
  · split at p
    · rename_i z i h
      simp only [Bool.and_eq_true, decide_eq_true_eq] at h
      refine .inr ⟨z, i, rv_str rx, rv_int ry, ⟨?_, fun h1 _ => ?_, fun h1 _ => ?_⟩, p w _ H w.le_refl l (.str _)⟩
      · simp only [Bool.or_eq_false_iff, decide_eq_false_iff_not]
        omega
      · have := h.2
        omega
      · have h2 := h.1.2
        unfold Builtin.Str.tooLong
        exact decide_eq_false (by omega)
    · exact p.elim
  · exact .inl (ok_mul W σ w μ H x y _ _ Q l rx ry p)
theorem op_mulA {X : Cx} : OpR X (binaryOp .Mult) (fun x y H Q => rI CMulX (fun i j => .int (i * j)) x y H Q ∨ rMulS x y H Q) := op_mulX.or op_mulS
end DL

/-! Defs of a text as callees. -/
namespace DL
open PySem PySem.Spec PyProof.Rows L2
/-- a text of these signs -/
def T (l : List Nat) : Str := ⟨l.toArray⟩
/-- the def called x: its promise over data, how it is found, how its arguments bind -/
structure Cal (P : Program) (w : World) (G : GT) (mg : Str → Option Value) (base : Heap) (x : Str) (k : Nat) (ps : List Str) (kb : List (List Str × List Nat)) (F : OpN) : Prop where
  ex : ∃ (f : Addr) (fd : FuncData), FnG P w G.K mg base k f fd ps (spD G ps.length F) ∧ mg x = some (.ref f) ∧ PySem.W.keepIn G.K (.ref f) = true ∧ Binds G.K fd ps [] ∧
    ∀ q ∈ kb, ∀ (s : Shared) (ws : List Value), ws.length = q.1.length → BindsTo s fd ⟨[] ++ [], q.1.zip ws⟩ (ps.zip (pickL .none q.2 ws))
section
variable {X : Cx} {G : GT} {W : WX} {e : Expr} {es : List Expr} {kws : List Keyword} {mas mks : MA} {pos p : Pos} {x : Str} {k : Nat} {ps ks : List Str} {kb : List (List Str × List Nat)} {F : OpN} {ix : List Nat} {n m : Nat}
theorem de_calC (hK : X.K = G.K) (C : Cal X.prog X.w G X.mg X.base x k ps kb F) (g : X.A.guards = some []) (hr : Room k X.A) (tk : Takes X W) (hg : Gl X x) (ha : DA X G W (e :: es) mas) (hdb : (x == ("__debug__" : Str)) = false := by decide)
    (he : starEach (e :: es) X.env = (false, eval e X.env) :: starEach es X.env := by rfl) (hpl : (backTo pos (starEach es X.env)).any (·.1) = false := by rfl) (hn : ps.length = n := by rfl) : DE X G W (.Call (.Name x p) (e :: es) [] pos) (eN (fCall n F) mas) := by
  subst hn
  obtain ⟨f, fd, h1, h2, h3, h4, _⟩ := C.ex
  rw [← hK] at h1 h3 h4
  exact de_callG h1 g hr hg h2 h3 h4 tk ha hdb he hpl
theorem de_calK (ks : List Str) (ix : List Nat) (hK : X.K = G.K) (C : Cal X.prog X.w G X.mg X.base x k ps kb F) (g : X.A.guards = some []) (hr : Room k X.A) (tk : Takes X W) (hg : Gl X x) (hkw : DK X G W kws mks) (hm : (ks, ix) ∈ kb)
    (hall : (backToKw pos (keywordEach kws X.env)).all (·.1.isSome) = true := by rfl) (hks : (backToKw pos (keywordEach kws X.env)).filterMap (·.1) = ks := by rfl)
    (hdb : (x == ("__debug__" : Str)) = false := by decide) (hpl : ((backTo pos (starEach [] X.env)).any (·.1) || (backToKw pos (keywordEach kws X.env)).any (·.1.isNone)) = false := by rfl) (hn : ps.length = n := by rfl) (hl : ks.length = m := by rfl) : DE X G W (.Call (.Name x p) [] kws pos) (eCallK n m ix F aNil mks) := by
  subst hn hl
  obtain ⟨f, fd, h1, h2, h3, h4, h5⟩ := C.ex
  rw [← hK] at h1 h3
  exact de_callK0 h1 g hr hg h2 h3 (fun s ws hl => h5 (ks, ix) hm s ws hl) tk hkw hall hks hdb hpl
end
end DL

/-! Running the data forms: equations for simp, texts as lists of signs, a law's hand of drawn numbers. -/
namespace DL
open PySem PySem.Spec PyProof.Rows L2

/-! ### texts as lists -/
theorem T_tl (x : Str) : T x.cps.toList = x := rfl
theorem tl_T (l : List Nat) : (T l).cps.toList = l := rfl
theorem T_len (l : List Nat) : (T l).length = l.length := by simp [T, Str.length]
theorem T_inj {l m : List Nat} : T l = T m ↔ l = m := ⟨fun h => by have := congrArg (fun x : Str => x.cps.toList) h; exact this, fun h => by rw [h]⟩
theorem T_app (l m : List Nat) : T l ++ T m = T (l ++ m) := TL.ext_tl (by rw [TL.tl_append]; rfl)
theorem T_one (c : Nat) : (⟨#[c]⟩ : Str) = T [c] := rfl
theorem ofS (s : String) : Str.ofString s = T (s.toList.map Char.toNat) := TL.ext_tl (TL.tl_ofString s)
theorem eqv_T (l m : List Nat) : PyData.eqv (.str (T l)) (.str (T m)) = decide (l = m) := by
  show (T l == T m) = _
  rw [Bool.eq_iff_iff]
  simp [T_inj]
theorem cutS_T (l : List Nat) (lo hi : Option Int) : cutS (T l) lo hi = T (cutL l lo hi) := by
  unfold cutS cutL
  rw [tl_T, T_len]
  rfl
theorem sub1_T (c : Nat) (l : List Nat) : sub1 (T [c]) (T l) = decide (c ∈ l) := rfl
theorem signs_T (l : List Nat) : signs (T l) = l.map fun c => .d (.str (T [c])) := rfl
theorem line_big : 16000000 ≤ sizeLine := by rw [sizeLine_eq]; decide
theorem join_T (l : List Nat) (ps : List (List Nat)) : Txt.join (T l) (ps.map T) = T (TL.joinL l ps) := by
  apply TL.ext_tl
  rw [TL.join_eq, TL.tl_join, List.map_map]
  show TL.joinL l (ps.map fun p => (T p).cps.toList) = _
  simp [tl_T]
theorem joinL_nil (ps : List (List Nat)) : TL.joinL [] ps = ps.flatten := by
  induction ps with
  | nil => rfl
  | cons p ps ih =>
    cases ps with
    | nil => simp [TL.joinL]
    | cons q qs =>
      rw [TL.joinL, ih]
      simp
theorem part_T (l : List Nat) (s : Nat) : Txt.partition (T l) (T [s]) = match TL.par [s] [] l with
    | some (a, b) => (T a, T [s], T b)
    | none => (T l, T [], T []) := by
  rw [TL.partition_par _ _ (by simp [TL.tl, tl_T])]
  show (match TL.par [s] [] l with | some (a, b) => _ | none => _) = _
  cases TL.par [s] [] l <;> rfl
theorem split_T (l : List Nat) (s : Nat) (h : s < 256) : Txt.split (T l) (T [s]) = (TL.spl [s] 0 [] l).map T := by
  apply TL.map_tl_inj
  rw [TL.split_spl _ _ (by simp [TL.tl, tl_T]) (TL.kind_ok (by simp [T, h])), List.map_map]
  show TL.spl [s] 0 [] l = _
  simp [TL.tl, tl_T, Function.comp_def]
/-- a text cut at its first s -/
theorem par_one (s : Nat) (acc l : List Nat) : TL.par [s] acc l = if s ∈ l then some (acc ++ l.takeWhile (· != s), (l.dropWhile (· != s)).drop 1) else none := by
  induction l generalizing acc with
  | nil => rfl
  | cons c r ih =>
    by_cases h : c = s
    · subst h
      rw [TL.par_hit (by simp [TL.pre])]
      simp
    · rw [TL.par_miss (TL.pre_of_head _ _ h), ih]
      have h' : (c != s) = true := by simp [h]
      have hs : (s ∈ c :: r) = (s ∈ r) := by simp [Ne.symm h]
      simp only [hs, List.takeWhile_cons, List.dropWhile_cons, h', if_true]
      split <;> simp
def splitL (s : Nat) : List Nat → List Nat → List (List Nat)
  | acc, [] => [acc]
  | acc, c :: r => if c = s then acc :: splitL s [] r else splitL s (acc ++ [c]) r
theorem spl_one (s : Nat) (acc l : List Nat) : TL.spl [s] 0 acc l = splitL s acc l := by
  induction l generalizing acc with
  | nil => rfl
  | cons c r ih =>
    by_cases h : c = s
    · subst h
      rw [TL.spl_hit (by simp [TL.pre]), splitL, if_pos rfl, ← ih]
      rfl
    · rw [TL.spl_miss (TL.pre_of_head _ _ h), splitL, if_neg h, ih]

/-! ### simp's words: what each form comes to when it is run -/
def finB : Out Fl → Out Dv
  | .ok (.nx _) μ' => .ok (.d .none) μ'
  | .ok (.rt b) μ' => .ok b μ'
  | .ok _ _ => .bad
  | .ex e μ' => .ex e μ'
  | .bad => .bad
theorem runB_eq (n : Nat) (B : MS) (bs : List Dv) (μ : Store) : runB n B bs μ = finB (B (bs.map some ++ List.replicate (n - bs.length) none) μ) := by
  unfold runB
  cases h : B (bs.map some ++ List.replicate (n - bs.length) none) μ with
  | ok f μ' => cases f <;> rfl
  | ex e μ' => rfl
  | bad => rfl
section
variable {ρ : DEnv} {μ : Store} {b : Dv} {a c : ME} {t u : MS} {i : Nat}
@[simp] theorem finB_nx : finB (.ok (.nx ρ) μ) = .ok (.d .none) μ := id rfl
@[simp] theorem finB_rt : finB (.ok (.rt b) μ) = .ok b μ := id rfl
@[simp] theorem finB_ex {e : Ex} : finB (.ex e μ) = .ex e μ := id rfl
@[simp] theorem finB_bad : finB .bad = .bad := id rfl
@[simp] theorem seqF_nx : seqF u (.nx ρ) μ = u ρ μ := id rfl
@[simp] theorem seqF_rt : seqF u (.rt b) μ = .ok (.rt b) μ := id rfl
@[simp] theorem seqF_bk : seqF u (.bk ρ) μ = .ok (.bk ρ) μ := id rfl
@[simp] theorem seqF_ct : seqF u (.ct ρ) μ = .ok (.ct ρ) μ := id rfl
@[simp] theorem sSeq_r : sSeq t u ρ μ = (t ρ μ).bind (seqF u) := id rfl
@[simp] theorem sNext_r : sNext ρ μ = .ok (.nx ρ) μ := id rfl
@[simp] theorem sBreak_r : sBreak ρ μ = .ok (.bk ρ) μ := id rfl
@[simp] theorem sCont_r : sCont ρ μ = .ok (.ct ρ) μ := id rfl
@[simp] theorem sRetN_r : sRetN ρ μ = .ok (.rt (.d .none)) μ := id rfl
@[simp] theorem sRet_r : sRet a ρ μ = (a ρ μ).bind fun b μ => .ok (.rt b) μ := id rfl
@[simp] theorem sDrop_r : sDrop a ρ μ = (a ρ μ).bind fun _ μ => .ok (.nx ρ) μ := id rfl
@[simp] theorem sSet_r : sSet i a ρ μ = (a ρ μ).bind fun b μ => .ok (.nx (ρ.set i (some b))) μ := id rfl
@[simp] theorem sIf_r {k : MT} : sIf k t u ρ μ = (k ρ μ).bind fun x μ => if x = true then t ρ μ else u ρ μ := id rfl
@[simp] theorem sPar_r {j : Nat} {m : MA} : sPar i j m ρ μ = (m ρ μ).bind (parF i j ρ) := id rfl
@[simp] theorem parF_r {j : Nat} {d : Dv} : parF i j ρ [b, d] μ = .ok (.nx ((ρ.set i (some b)).set j (some d))) μ := id rfl
@[simp] theorem sAsg_r {g : MG} : sAsg a g ρ μ = (a ρ μ).bind fun b μ => (g b ρ μ).gb fun ρ μ => .ok (.nx ρ) μ := id rfl
@[simp] theorem sSetIx_r {o j : ME} : sSetIx a o j ρ μ = (a ρ μ).bind fun v μ => (o ρ μ).bind fun x μ => (j ρ μ).bind fun i μ => optN (dSetIx x i v μ) ρ := id rfl
@[simp] theorem optN_r : optN (some μ) ρ = .ok (.nx ρ) μ := id rfl
@[simp] theorem sFor_r {mi : MI} {g : MG} {mb : MS} : sFor mi g mb ρ μ = (mi ρ μ).bind fun bs μ => forL g mb bs ρ μ := id rfl
@[simp] theorem gN_r : gN i b ρ μ = .ok (ρ.set i (some b)) μ := id rfl
@[simp] theorem gT_r {n : Nat} {g : MGs} {ds : List D} : gT n g (.d (.tuple ds)) ρ μ = if ds.length = n then g (ds.map .d) ρ μ else .bad := id rfl
@[simp] theorem gsNil_r : gsNil [] ρ μ = .ok ρ μ := id rfl
@[simp] theorem gsCons_r {g : MG} {r : MGs} {bs : List Dv} : gsCons g r (b :: bs) ρ μ = (g b ρ μ).bind fun ρ μ => r bs ρ μ := id rfl
@[simp] theorem gStar_r {n : Nat} {g : MGs} {ds : List D} : gStar n g (.d (.tuple ds)) ρ μ = if n ≤ ds.length ∧ ds.length ≤ 16384 then g ((ds.take n).map .d ++ [.d (.list (ds.drop n))]) ρ μ else .bad := id rfl
@[simp] theorem eVar_r : eVar i ρ μ = match ρ[i]? with
  | some (some b) => .ok b μ
  | _ => .bad := id rfl
@[simp] theorem eC_r : eC b ρ μ = .ok b μ := id rfl
@[simp] theorem e1_r {f : Op1} : e1 f a ρ μ = (a ρ μ).bind fun x μ => f x μ := id rfl
@[simp] theorem e2_r {f : Op2} : e2 f a c ρ μ = (a ρ μ).bind fun x μ => (c ρ μ).bind fun y μ => f x y μ := id rfl
@[simp] theorem tV_r : tV a ρ μ = (a ρ μ).bind asBool := id rfl
@[simp] theorem asBool_r {k : Bool} : asBool (.d (.bool k)) μ = .ok k μ := id rfl
@[simp] theorem bind_asBool {k : Bool} : (Out.ok (Dv.d (.bool k)) μ).bind asBool = .ok k μ := id rfl
@[simp] theorem tAndM_r {x y : MT} : tAndM x y ρ μ = (x ρ μ).bind fun k μ => if k = true then y ρ μ else .ok false μ := id rfl
@[simp] theorem tOrM_r {x y : MT} : tOrM x y ρ μ = (x ρ μ).bind fun k μ => if k = true then .ok true μ else y ρ μ := id rfl
@[simp] theorem tNotM_r {x : MT} : tNotM x ρ μ = (x ρ μ).bind fun k μ => .ok (!k) μ := id rfl
@[simp] theorem eAnd_r : eAnd a c ρ μ = (a ρ μ).bind fun x μ => (asBool x μ).bind fun k μ => if k = true then c ρ μ else .ok (.d (.bool false)) μ := id rfl
@[simp] theorem eOr_r : eOr a c ρ μ = (a ρ μ).bind fun x μ => (asBool x μ).bind fun k μ => if k = true then .ok (.d (.bool true)) μ else c ρ μ := id rfl
@[simp] theorem eNot_r : eNot a ρ μ = (a ρ μ).bind fun x μ => (asBool x μ).bind fun k μ => .ok (.d (.bool (!k))) μ := id rfl
@[simp] theorem eIf_r {k : MT} : eIf k a c ρ μ = (k ρ μ).bind fun x μ => if x = true then a ρ μ else c ρ μ := id rfl
@[simp] theorem eChain_r {f g : Op2} {d : ME} : eChain f g a c d ρ μ = (a ρ μ).bind fun x μ => (c ρ μ).bind fun y μ => (f x y μ).bind fun z μ => (asBool z μ).bind fun k μ => if k = true then (d ρ μ).bind fun u μ => g y u μ else .ok (.d (.bool false)) μ := id rfl
@[simp] theorem aNil_r : aNil ρ μ = .ok [] μ := id rfl
@[simp] theorem aCons_r {r : MA} : aCons a r ρ μ = (a ρ μ).bind fun x μ => (r ρ μ).bind fun xs μ => .ok (x :: xs) μ := id rfl
@[simp] theorem eN_r {f : OpN} {m : MA} : eN f m ρ μ = (m ρ μ).bind fun xs μ => f xs μ := id rfl
@[simp] theorem fCall_r {n : Nat} {F : OpN} {bs : List Dv} : fCall n F bs μ = if bs.length = n then F bs μ else .bad := id rfl
@[simp] theorem eCallK_r {n m : Nat} {ix : List Nat} {F : OpN} {x y : MA} : eCallK n m ix F x y ρ μ = (x ρ μ).bind fun bs μ => (y ρ μ).bind fun cs μ => if cs.length = m then fCall n F (pickL (.d .none) ix (bs ++ cs)) μ else .bad := id rfl
@[simp] theorem eM_r {k : Dv → Store → Bool} {f : Dv → OpN} {m : MA} : eM k f a m ρ μ = (a ρ μ).bind fun x μ => if k x μ = true then (m ρ μ).bind fun xs μ => f x xs μ else .bad := id rfl
@[simp] theorem isStr_r {z : Str} : isStr (.d (.str z)) μ = true := id rfl
@[simp] theorem eSl_r {l h : MO} : eSl a l h ρ μ = (a ρ μ).bind fun x μ => (l ρ μ).bind fun i μ => (h ρ μ).bind fun j μ => dSl x i j μ := id rfl
@[simp] theorem oNone_r : oNone ρ μ = .ok none μ := id rfl
@[simp] theorem oSome_r : oSome a ρ μ = (a ρ μ).bind asInt := id rfl
@[simp] theorem asInt_r {k : Int} : asInt (.d (.int k)) μ = .ok (some k) μ := id rfl
@[simp] theorem bind_asInt {k : Int} : (Out.ok (Dv.d (.int k)) μ).bind asInt = .ok (some k) μ := id rfl
@[simp] theorem eIsN_r {n : Bool} : eIsN n a ρ μ = (a ρ μ).bind fun x μ => dIsN n x (.d .none) μ := id rfl
@[simp] theorem dIsN_r {n : Bool} {x : D} {y : Dv} : dIsN n (.d x) y μ = .ok (.d (.bool (if n then !isNone x else isNone x))) μ := id rfl
@[simp] theorem eLc_r {f : OpN} {mi : MI} {g : MG} {tt : MT} {vs : List Nat} : eLc f mi g tt a vs ρ μ = (mi ρ μ).bind fun bs μ => lcF f g tt a vs ρ bs μ := id rfl
@[simp] theorem iSeq_r : iSeq a ρ μ = (a ρ μ).bind walkD := id rfl
@[simp] theorem bind_walkD {x : Dv} : (Out.ok x μ).bind walkD = walkD x μ := id rfl
@[simp] theorem iRng_r {f : List Dv → Store → Out (List Dv)} {m : MA} : iRng f m ρ μ = (m ρ μ).bind f := id rfl
-- operations
@[simp] theorem dAdd_ii {x y : Int} : dAdd (.d (.int x)) (.d (.int y)) μ = .ok (.d (.int (x + y))) μ := id rfl
@[simp] theorem dSub_ii {x y : Int} : dInt2 (fun i j => .int (i - j)) (.d (.int x)) (.d (.int y)) μ = .ok (.d (.int (x - y))) μ := id rfl
@[simp] theorem dNum_ii {C : Int → Int → Bool} {g : Int → Int → Int} {x y : Int} (h : C x y = true) : dNum C g (.d (.int x)) (.d (.int y)) μ = .ok (.d (.int (g x y))) μ := by
  show (if C x y = true then _ else _) = _
  rw [if_pos h]
@[simp] theorem dMulA_ii {x y : Int} (h : cMul x y = true) : dMulA (.d (.int x)) (.d (.int y)) μ = .ok (.d (.int (x * y))) μ := by
  show (if cMul x y = true then _ else _) = _
  rw [if_pos h]
@[simp] theorem dNeg_i {x : Int} : dNeg (.d (.int x)) μ = .ok (.d (.int (-x))) μ := id rfl
@[simp] theorem dCmp_ii {g : Int → Int → Bool} {h : List Nat → List Nat → Bool} {x y : Int} : dCmp g h (.d (.int x)) (.d (.int y)) μ = .ok (.d (.bool (g x y))) μ := id rfl
@[simp] theorem dAdd_ss {l m : List Nat} (h : l.length + m.length ≤ 16000000) : dAdd (.d (.str (T l))) (.d (.str (T m))) μ = .ok (.d (.str (T (l ++ m)))) μ := by
  show (if (T l).length + (T m).length ≤ sizeLine then _ else _) = _
  rw [T_len, T_len, T_app, if_pos (Nat.le_trans h line_big)]
theorem dEq_dd {n : Bool} {x y : D} (h : (scalD x y || (SeqAt.shaped x && SeqAt.shaped y)) = true) : dEq n (.d x) (.d y) μ = .ok (.d (.bool (if n then !PyData.eqv x y else PyData.eqv x y))) μ := by
  unfold dEq
  show (match eqD x y with | some k => _ | none => _) = _
  have : eqD x y = some (PyData.eqv x y) := by
    unfold eqD
    by_cases h1 : scalD x y = true
    · rw [if_pos h1]
    · rw [if_neg h1]
      simp only [h1, Bool.false_or] at h
      rw [if_pos h]
  rw [this]
@[simp] theorem dEq_ii {n : Bool} {x y : Int} : dEq n (.d (.int x)) (.d (.int y)) μ = .ok (.d (.bool (if n then !decide (x = y) else decide (x = y)))) μ := by
  rw [dEq_dd rfl]
  have : PyData.eqv (.int x) (.int y) = decide (x = y) := by
    show (x == y) = _
    rw [Bool.eq_iff_iff]; simp
  rw [this]
@[simp] theorem dEq_ss {n : Bool} {x y : List Nat} : dEq n (.d (.str (T x))) (.d (.str (T y))) μ = .ok (.d (.bool (if n then !decide (x = y) else decide (x = y)))) μ := by
  rw [dEq_dd rfl, eqv_T]
@[simp] theorem dIn_ss {n : Bool} {x : Nat} {y : List Nat} : dIn n (.d (.str (T [x]))) (.d (.str (T y))) μ = .ok (.d (.bool (if n then !decide (x ∈ y) else decide (x ∈ y)))) μ := id rfl
@[simp] theorem items_l {ds : List D} : items (.d (.list ds)) μ = some (ds.map .d) := id rfl
@[simp] theorem itemsA_l {ds : List D} : itemsA (.d (.list ds)) μ = some (ds.map .d) := id rfl
@[simp] theorem itemsA_t {ds : List D} : itemsA (.d (.tuple ds)) μ = some (ds.map .d) := id rfl
theorem dIx_l {ds : List D} {k : Int} {x : D} (h : L2.atI ds k = some x) : dIx (.d (.list ds)) (.d (.int k)) μ = .ok (.d x) μ := by
  have : L2.atI (ds.map Dv.d) k = some (.d x) := by
    unfold L2.atI at h ⊢
    rw [List.length_map]
    cases q : ixN ds.length k with
    | none => rw [q] at h; cases h
    | some j =>
      rw [q] at h
      show (ds.map Dv.d)[j]? = _
      have h : ds[j]? = some x := h
      rw [List.getElem?_map, h]
      rfl
  show (match L2.atI (ds.map Dv.d) k with | some b => Out.ok b μ | none => Out.bad) = _
  rw [this]
theorem dIx_t {ds : List D} {k : Int} {x : D} (h : L2.atI ds k = some x) : dIx (.d (.tuple ds)) (.d (.int k)) μ = .ok (.d x) μ := dIx_l h
theorem dIx_s {l : List Nat} {k : Int} {c : Nat} (hl : l.length ≤ 16000000) (h : L2.atI l k = some c) : dIx (.d (.str (T l))) (.d (.int k)) μ = .ok (.d (.str (T [c]))) μ := by
  show (if (T l).length ≤ sizeLine then (match L2.atI (T l).cps.toList k with | some c => _ | none => _) else _) = _
  rw [T_len, if_pos (Nat.le_trans hl line_big), tl_T, h]
  rfl
theorem dIx_c {n : Nat} {xs : List Dv} {k : Int} {x : Dv} (e : μ[n]? = some (.lst xs)) (h : L2.atI xs k = some x) : dIx (.c n) (.d (.int k)) μ = .ok x μ := by
  have : itemsA (.c n) μ = some xs := by
    unfold itemsA itemsT items
    simp only [e]
  show (match itemsA (.c n) μ with | some bs => (match L2.atI bs k with | some b => Out.ok b μ | none => Out.bad) | none => Out.bad) = _
  rw [this]
  show (match L2.atI xs k with | some b => Out.ok b μ | none => Out.bad) = _
  rw [h]
theorem atI_nn {α : Type} {xs : List α} {k : Nat} {x : α} (h : xs[k]? = some x) : L2.atI xs (k : Int) = some x := by
  have hl := (List.getElem?_eq_some_iff.mp h).1
  unfold L2.atI L2.ixN
  rw [if_pos (by omega), if_pos (by omega)]
  simpa using h
theorem dSetIx_c {n : Nat} {xs : List Dv} {k : Int} {j : Nat} {x : Dv} (e : μ[n]? = some (.lst xs)) (h : L2.ixN xs.length k = some j) : dSetIx (.c n) (.d (.int k)) x μ = some (μ.set n (.lst (xs.set j x))) := by
  unfold dSetIx
  simp only [e, h]
@[simp] theorem dLen_s {l : List Nat} (h : l.length ≤ 16000000) : dLen [.d (.str (T l))] μ = .ok (.d (.int l.length)) μ := by
  show (if (T l).length ≤ sizeLine then _ else _) = _
  rw [T_len, if_pos (Nat.le_trans h line_big)]
@[simp] theorem dLen_l {ds : List D} : dLen [.d (.list ds)] μ = .ok (.d (.int ds.length)) μ := by
  show Out.ok (Dv.d (.int ((ds.map Dv.d).length : Nat))) μ = _
  rw [List.length_map]
@[simp] theorem dLen_t {ds : List D} : dLen [.d (.tuple ds)] μ = .ok (.d (.int ds.length)) μ := by
  show Out.ok (Dv.d (.int ((ds.map Dv.d).length : Nat))) μ = _
  rw [List.length_map]
@[simp] theorem allD_cons {x : D} {r : List Dv} : allD (.d x :: r) = (allD r).map (x :: ·) := by
  show (match allD r with | some xs => _ | none => _) = _
  cases allD r <;> rfl
@[simp] theorem allD_nil : allD [] = some [] := id rfl
theorem dList_d {ds : List D} (h : ds.length ≤ sizeLine) : dList (ds.map .d) μ = .ok (.d (.list ds)) μ := by
  unfold dList
  rw [allD_map]
  show (if ds.length ≤ sizeLine then _ else _) = _
  rw [if_pos h]
@[simp] theorem dTup_l {ds : List D} (h : ds.length ≤ 16000000) : dTup (ds.map .d) μ = .ok (.d (.tuple ds)) μ := by
  unfold dTup
  rw [allD_map]
  show (if ds.length ≤ sizeLine then _ else _) = _
  rw [if_pos (Nat.le_trans h line_big)]
@[simp] theorem dList_1 {a : D} : dList [.d a] μ = .ok (.d (.list [a])) μ := dList_d (ds := [a]) (Nat.le_trans (by show 1 ≤ 16000000; decide) line_big)
@[simp] theorem dList_2 {a b : D} : dList [.d a, .d b] μ = .ok (.d (.list [a, b])) μ := dList_d (ds := [a, b]) (Nat.le_trans (by show 2 ≤ 16000000; decide) line_big)
@[simp] theorem dTup_1 {a : D} : dTup [.d a] μ = .ok (.d (.tuple [a])) μ := dTup_l (ds := [a]) (by show 1 ≤ 16000000; decide)
@[simp] theorem dTup_2 {a b : D} : dTup [.d a, .d b] μ = .ok (.d (.tuple [a, b])) μ := dTup_l (ds := [a, b]) (by show 2 ≤ 16000000; decide)
@[simp] theorem dTup_3 {a b c : D} : dTup [.d a, .d b, .d c] μ = .ok (.d (.tuple [a, b, c])) μ := dTup_l (ds := [a, b, c]) (by show 3 ≤ 16000000; decide)
@[simp] theorem dTup_4 {a b c d : D} : dTup [.d a, .d b, .d c, .d d] μ = .ok (.d (.tuple [a, b, c, d])) μ := dTup_l (ds := [a, b, c, d]) (by show 4 ≤ 16000000; decide)
theorem dTup_d {ds : List D} (h : ds.length ≤ sizeLine) : dTup (ds.map .d) μ = .ok (.d (.tuple ds)) μ := by
  unfold dTup
  rw [allD_map]
  show (if ds.length ≤ sizeLine then _ else _) = _
  rw [if_pos h]
@[simp] theorem dSl_s {l : List Nat} {i j : Option Int} (h : l.length ≤ 16000000) : dSl (.d (.str (T l))) i j μ = .ok (.d (.str (T (cutL l i j)))) μ := by
  show (if (T l).length ≤ sizeLine then Out.ok (Dv.d (.str (cutS (T l) i j))) μ else _) = _
  rw [T_len, cutS_T, if_pos (Nat.le_trans h line_big)]
@[simp] theorem dSl_t {ds : List D} {i j : Option Int} : dSl (.d (.tuple ds)) i j μ = .ok (.d (.tuple (cutL ds i j))) μ := id rfl
theorem allS_T (ls : List (List Nat)) : allS ((ls.map fun l => PyData.str (T l)).map Dv.d) = some (ls.map T) := by
  have := allS_map (ls.map T)
  rw [List.map_map] at this
  rw [List.map_map]
  exact this
/-- texts joined -/
theorem dJoin_s {l : List Nat} {ls : List (List Nat)} (h : (ls.map (·.length)).sum + ls.length * l.length ≤ 16777216) : dJoin (.d (.str (T l))) [.d (.list (ls.map fun l => PyData.str (T l)))] μ = .ok (.d (.str (T (TL.joinL l ls)))) μ := by
  show (match allS ((ls.map fun l => PyData.str (T l)).map Dv.d) with | some (ys : List Str) => (if (ys.map Str.length).sum + ys.length * (T l).length ≤ 16777216 then Out.ok (Dv.d (.str (Txt.join (T l) ys))) μ else Out.bad) | none => Out.bad) = _
  rw [allS_T]
  show (if ((ls.map T).map Str.length).sum + (ls.map T).length * (T l).length ≤ 16777216 then _ else _) = _
  have e : (ls.map T).map Str.length = ls.map (·.length) := by
    rw [List.map_map]
    apply List.map_congr_left
    intro x _
    exact T_len x
  rw [e, List.length_map, T_len, if_pos h, join_T]
end
theorem ite_bind {β γ : Type} (c : Prop) [Decidable c] (a b : Out β) (k : β → Store → Out γ) : (if c then a else b).bind k = if c then a.bind k else b.bind k := by split <;> rfl

/-! ### the hand -/
/-- a cell of three numbers, in bounds; m: how many draws at most so far -/
def Hnd (h m : Nat) (μ : Store) : Prop := ∃ a b c : Int, μ[h]? = some (.lst [.d (.int a), .d (.int b), .d (.int c)]) ∧ 0 ≤ a ∧ a.natAbs < 2 ^ 700 ∧ 0 ≤ b ∧ b < 2 ^ 62 ∧ 0 ≤ c ∧ c ≤ m
theorem Hnd.mono {h m n : Nat} {μ : Store} (x : Hnd h m μ) (l : m ≤ n) : Hnd h n μ := by
  obtain ⟨a, b, c, e, h1, h2, h3, h4, h5, h6⟩ := x
  exact ⟨a, b, c, e, h1, h2, h3, h4, h5, by omega⟩
/-- nothing but the cell h is otherwise -/
def Oth (h : Nat) (μ μ' : Store) : Prop := μ'.length = μ.length ∧ ∀ i, i ≠ h → μ'[i]? = μ[i]?
theorem Oth.refl (h : Nat) (μ : Store) : Oth h μ μ := ⟨rfl, fun _ _ => rfl⟩
theorem Oth.trans {h : Nat} {a b c : Store} (x : Oth h a b) (y : Oth h b c) : Oth h a c := ⟨y.1.trans x.1, fun i hi => (y.2 i hi).trans (x.2 i hi)⟩
theorem Oth.set (h : Nat) (μ : Store) (c : Cell) : Oth h μ (μ.set h c) := ⟨List.length_set, fun i hi => List.getElem?_set_ne (Ne.symm hi)⟩
theorem lt_of_get {h : Nat} {μ : Store} {c : Cell} (e : μ[h]? = some c) : h < μ.length := (List.getElem?_eq_some_iff.mp e).1
theorem log2_lt {i : Int} {n : Nat} (h : i.natAbs < 2 ^ n) (hn : 0 < n) : i.natAbs.log2 < n := PySem.Flt.log2_lt_of hn h
theorem cMul_ok {i j : Int} {a b : Nat} (ha : i.natAbs < 2 ^ a) (hb : j.natAbs < 2 ^ b) (h0 : 0 < a) (h1 : 0 < b) (h : a + b ≤ 1000000) : cMul i j = true := by
  unfold cMul
  exact decide_eq_true (mulx_ok ha hb (by omega))
theorem cMod_of {x k : Int} (h : 0 < k) : cMod x k = true := decide_eq_true h
end DL

/-! Loops and comprehensions run: lemmas over the data forms. -/
namespace DL
open PySem PySem.Spec PyProof.Rows L2
/-- a comprehension whose turn changes nothing and gives f of its item -/
theorem lcM_map {g : MG} {te : ME} {ρ : DEnv} {μ : Store} {f : Dv → Dv} : ∀ {bs : List Dv}, (∀ b ∈ bs, ∃ ρ', g b ρ μ = .ok ρ' μ ∧ te ρ' μ = .ok (f b) μ) → lcM g tYesM te ρ bs μ = .ok (bs.map f) μ
  | [], _ => rfl
  | b :: bs, h => by
    obtain ⟨ρ', h1, h2⟩ := h b List.mem_cons_self
    have ih := lcM_map (g := g) (te := te) (ρ := ρ) (μ := μ) (f := f) (bs := bs) fun x hx => h x (List.mem_cons_of_mem _ hx)
    unfold lcM
    rw [h1]
    simp only [gb_ok, tYesM, if_true]
    rw [h2]
    simp only [gb_ok]
    rw [ih]
    rfl
/-- .. with a test -/
theorem lcM_filter {g : MG} {tt : MT} {te : ME} {ρ : DEnv} {μ : Store} {p : Dv → Bool} {f : Dv → Dv} : ∀ {bs : List Dv}, (∀ b ∈ bs, ∃ ρ', g b ρ μ = .ok ρ' μ ∧ tt ρ' μ = .ok (p b) μ ∧ (p b = true → te ρ' μ = .ok (f b) μ)) → lcM g tt te ρ bs μ = .ok ((bs.filter p).map f) μ
  | [], _ => rfl
  | b :: bs, h => by
    obtain ⟨ρ', h1, h2, h3⟩ := h b List.mem_cons_self
    have ih := lcM_filter (g := g) (tt := tt) (te := te) (ρ := ρ) (μ := μ) (p := p) (f := f) (bs := bs) fun x hx => h x (List.mem_cons_of_mem _ hx)
    unfold lcM
    rw [h1]
    simp only [gb_ok]
    rw [h2]
    simp only [gb_ok]
    by_cases hp : p b = true
    · rw [if_pos hp, h3 hp, List.filter_cons_of_pos hp]
      simp only [gb_ok]
      rw [ih]
      rfl
    · rw [if_neg hp, ih, List.filter_cons_of_neg hp]
theorem lcF_list {g : MG} {tt : MT} {te : ME} {vs : List Nat} {ρ : DEnv} {bs : List Dv} {μ μ' : Store} {ds : List D} (h : lcM g tt te (wipeD ρ vs) bs μ = .ok (ds.map .d) μ') (hb : bs.length ≤ sizeLine) (hd : ds.length ≤ sizeLine) : lcF dList g tt te vs ρ bs μ = .ok (.d (.list ds)) μ' := by
  unfold lcF
  rw [if_pos hb, h]
  exact dList_d hd
/-- a for that goes on -/
theorem forL_cons {g : MG} {mb : MS} {b : Dv} {bs : List Dv} {ρ ρ1 ρ2 : DEnv} {μ μ1 μ2 : Store} (h1 : g b ρ μ = .ok ρ1 μ1) (h2 : mb ρ1 μ1 = .ok (.nx ρ2) μ2) : forL g mb (b :: bs) ρ μ = forL g mb bs ρ2 μ2 := by
  conv => lhs; unfold forL
  rw [h1]
  simp only [gb_ok]
  rw [h2]
  rfl
theorem forL_ret {g : MG} {mb : MS} {b v : Dv} {bs : List Dv} {ρ ρ1 : DEnv} {μ μ1 μ2 : Store} (h1 : g b ρ μ = .ok ρ1 μ1) (h2 : mb ρ1 μ1 = .ok (.rt v) μ2) : forL g mb (b :: bs) ρ μ = .ok (.rt v) μ2 := by
  conv => lhs; unfold forL
  rw [h1]
  simp only [gb_ok]
  rw [h2]
  rfl
/-- a for by an invariant -/
theorem forL_inv {g : MG} {mb : MS} (Pv : Nat → DEnv → Store → Prop) : ∀ {bs : List Dv} {i : Nat} {ρ : DEnv} {μ : Store}, Pv i ρ μ → (∀ k b ρ μ, i ≤ k → bs[k - i]? = some b → Pv k ρ μ → ∃ ρ1 μ1 ρ2 μ2, g b ρ μ = .ok ρ1 μ1 ∧ mb ρ1 μ1 = .ok (.nx ρ2) μ2 ∧ Pv (k + 1) ρ2 μ2) →
    ∃ ρ' μ', forL g mb bs ρ μ = .ok (.nx ρ') μ' ∧ Pv (i + bs.length) ρ' μ'
  | [], i, ρ, μ, h0, _ => ⟨ρ, μ, rfl, h0⟩
  | b :: bs, i, ρ, μ, h0, h => by
    obtain ⟨ρ1, μ1, ρ2, μ2, h1, h2, h3⟩ := h i b ρ μ (Nat.le_refl _) (by simp) h0
    obtain ⟨ρ', μ', e, q⟩ := forL_inv Pv (bs := bs) (i := i + 1) h3 fun k c ρ μ hk hc => h k c ρ μ (by omega) (by
      have : k - i = (k - (i + 1)) + 1 := by omega
      rw [this, List.getElem?_cons_succ]
      exact hc)
    refine ⟨ρ', μ', ?_, ?_⟩
    · rw [forL_cons h1 h2, e]
    · rw [List.length_cons]
      have : i + 1 + bs.length = i + (bs.length + 1) := by omega
      rw [← this]
      exact q
theorem whileL_go {c : MT} {mb : MS} {n : Nat} {ρ ρ1 : DEnv} {μ μ1 μ2 : Store} (h1 : c ρ μ = .ok true μ1) (h2 : mb ρ μ1 = .ok (.nx ρ1) μ2) : whileL c mb (n + 1) ρ μ = whileL c mb n ρ1 μ2 := by
  conv => lhs; unfold whileL
  rw [h1]
  simp only [bind_ok, if_true]
  rw [h2]
  rfl
theorem whileL_end {c : MT} {mb : MS} {n : Nat} {ρ : DEnv} {μ μ1 : Store} (h1 : c ρ μ = .ok false μ1) : whileL c mb (n + 1) ρ μ = .ok (.nx ρ) μ1 := by
  conv => lhs; unfold whileL
  rw [h1]
  rfl

/-- signs joined -/
theorem dJoin_one {l : List Nat} {μ : Store} (h : l.length ≤ 16000000) : dJoin (.d (.str (T []))) [.d (.list (l.map fun c => PyData.str (T [c])))] μ = .ok (.d (.str (T l))) μ := by
  have e1 : ∀ l : List Nat, ((l.map fun c => [c]).map (·.length)).sum = l.length := fun l => by
    induction l with
    | nil => rfl
    | cons c l ih =>
      simp only [List.map_cons, List.sum_cons, List.length_cons, List.length_nil]
      rw [ih]
      omega
  have e2 : ∀ l : List Nat, (l.map fun c => [c]).flatten = l := fun l => by
    induction l with
    | nil => rfl
    | cons c l ih => rw [List.map_cons, List.flatten_cons, ih]; rfl
  have := dJoin_s (μ := μ) (l := []) (ls := l.map fun c => [c]) (by rw [e1]; show l.length + (l.map fun c => [c]).length * 0 ≤ _; omega)
  rw [List.map_map, joinL_nil, e2] at this
  exact this
/-! ### slices -/
theorem cut_to {α : Type} (l : List α) {k : Int} (h : 0 ≤ k) : cutL l none (some k) = l.take k.toNat := by
  have e : HT.sIx l.length l.length (some k) = min k.toNat l.length := by
    show (if k < 0 then _ else _) = _
    rw [if_neg (by omega)]
  unfold cutL
  rw [e]
  show (l.drop 0).take (min k.toNat l.length - 0) = _
  rw [List.drop_zero, Nat.sub_zero, List.take_eq_take_iff]
  omega
theorem cut_from {α : Type} (l : List α) {k : Int} (h : 0 ≤ k) : cutL l (some k) none = l.drop k.toNat := by
  have e : HT.sIx l.length 0 (some k) = min k.toNat l.length := by
    show (if k < 0 then _ else _) = _
    rw [if_neg (by omega)]
  unfold cutL
  rw [e]
  show (l.drop (min k.toNat l.length)).take (l.length - min k.toNat l.length) = _
  rw [List.take_of_length_le (by rw [List.length_drop]; omega)]
  by_cases hk : k.toNat ≤ l.length
  · rw [Nat.min_eq_left hk]
  · rw [Nat.min_eq_right (by omega), List.drop_of_length_le (Nat.le_refl _), List.drop_of_length_le (by omega)]
theorem cut_toN {α : Type} (l : List α) {k : Int} (h : k < 0) : cutL l none (some k) = l.take (l.length - (-k).toNat) := by
  have e : HT.sIx l.length l.length (some k) = (k + (l.length : Int)).toNat := by
    show (if k < 0 then _ else _) = _
    rw [if_pos h]
  unfold cutL
  rw [e]
  show (l.drop 0).take ((k + (l.length : Int)).toNat - 0) = _
  rw [List.drop_zero, Nat.sub_zero]
  congr 1
  omega
theorem cut_fromN {α : Type} (l : List α) {k : Int} (h : k < 0) : cutL l (some k) none = l.drop (l.length - (-k).toNat) := by
  have e : HT.sIx l.length 0 (some k) = (k + (l.length : Int)).toNat := by
    show (if k < 0 then _ else _) = _
    rw [if_pos h]
  unfold cutL
  rw [e]
  show (l.drop (k + (l.length : Int)).toNat).take (l.length - (k + (l.length : Int)).toNat) = _
  rw [List.take_of_length_le (by rw [List.length_drop]; omega)]
  congr 1
  omega
end DL

/-! More words for simp: walks, tests of signs, numbers in texts. -/
namespace DL
open PySem PySem.Spec PyProof.Rows L2
section
variable {μ : Store} {ρ : DEnv}
@[simp] theorem walkD_s {z : List Nat} : walkD (.d (.str (T z))) μ = .ok (z.map fun c => .d (.str (T [c]))) μ := id rfl
@[simp] theorem walkD_l {ds : List D} : walkD (.d (.list ds)) μ = .ok (ds.map .d) μ := id rfl
@[simp] theorem walkD_t {ds : List D} : walkD (.d (.tuple ds)) μ = .ok (ds.map .d) μ := id rfl
@[simp] theorem rng1_r {j : Int} (h : okR j = true) : rng1 [.d (.int j)] μ = .ok ((List.range j.toNat).map fun (i : Nat) => Dv.d (.int i)) μ := by
  show (if okR j = true then _ else _) = _
  rw [if_pos h]
@[simp] theorem dAll_b {f : List Bool → Bool} {ks : List Bool} : dAll f [.d (.list (ks.map PyData.bool))] μ = .ok (.d (.bool (f ks))) μ := by
  show (match allB ((ks.map PyData.bool).map Dv.d) with | some ks => Out.ok (Dv.d (.bool (f ks))) μ | none => Out.bad) = _
  have := allB_map ks
  rw [List.map_map]
  have e : (Dv.d ∘ PyData.bool) = fun k => Dv.d (.bool k) := rfl
  rw [e, this]
@[simp] theorem dAbs_i {i : Int} : dAbs [.d (.int i)] μ = .ok (.d (.int (if i < 0 then -i else i))) μ := id rfl
@[simp] theorem dMax_i {i j : Int} : dMax [.d (.int i), .d (.int j)] μ = .ok (.d (.int (if j > i then j else i))) μ := id rfl
@[simp] theorem dMin_i {i j : Int} : dMin [.d (.int i), .d (.int j)] μ = .ok (.d (.int (if j < i then j else i))) μ := id rfl
@[simp] theorem dInt_b {k : Bool} : dInt [.d (.bool k)] μ = .ok (.d (.int (if k then 1 else 0))) μ := id rfl
@[simp] theorem dInt_i {k : Int} : dInt [.d (.int k)] μ = .ok (.d (.int k)) μ := id rfl
def isDig (c : Nat) : Bool := decide (48 ≤ c ∧ c ≤ 57)
theorem isDig_iff {c : Nat} : isDig c = true ↔ 48 ≤ c ∧ c ≤ 57 := by simp [isDig]
theorem dig_mem (c : Nat) : (c ∈ [48, 49, 50, 51, 52, 53, 54, 55, 56, 57]) = (isDig c = true) := by
  unfold isDig
  simp only [List.mem_cons, List.not_mem_nil, or_false, decide_eq_true_eq, eq_iff_iff]
  omega
def dval (l : List Nat) : Nat := NumText.digitsVal l
theorem dval_app (l m : List Nat) (k : Nat) : dval (l ++ m) = m.foldl (fun acc c => acc * 10 + (c - 48)) (dval l) := by
  unfold dval NumText.digitsVal
  rw [List.foldl_append]
theorem all_dig {l : List Nat} (h : l.all isDig = true) : NumText.AllDigits l := fun c hc => by
  have := List.all_eq_true.mp h c hc
  exact isDig_iff.mp this
theorem dInt_s {l : List Nat} (h : l.all isDig = true) (h0 : l ≠ []) (h1 : l.length ≤ 640) : dInt [.d (.str (T l))] μ = .ok (.d (.int (dval l))) μ := by
  have e := intText_digits (x := T l) (by rw [tl_T]; exact all_dig h) (by rw [tl_T]; exact h0) (by rw [T_len]; omega)
  rw [tl_T] at e
  show (match PySem.intText? (T l) with | some n => if (T l).length ≤ 640 then Out.ok (Dv.d (.int n)) μ else .bad | none => .bad) = _
  rw [e, T_len]
  show (if l.length ≤ 640 then _ else _) = _
  rw [if_pos h1]
  rfl
def showI (i : Int) : List Nat := if i < 0 then 45 :: TL.numL i.natAbs else TL.numL i.natAbs
theorem dStr_n {n : Nat} (h : n.log2 < 1920) : dStr [.d (.int (n : Int))] μ = .ok (.d (.str (T (TL.numL n)))) μ := by
  show (if (n : Int).natAbs.log2 < 1920 then Out.ok (Dv.d (.str (toString (n : Int)))) μ else Out.bad) = _
  rw [if_pos (by simpa using h)]
  have : (toString (n : Int) : String) = toString (n : Int) := rfl
  have e := TL.tl_num n
  have : Str.ofString (toString (n : Int)) = T (TL.numL n) := TL.ext_tl (by rw [e]; rfl)
  exact congrArg (fun x => Out.ok (Dv.d (.str x)) μ) this
theorem toString_neg (n : Nat) (h : 0 < n) : toString (-(n : Int)) = "-" ++ toString (n : Int) := by
  obtain ⟨m, rfl⟩ : ∃ m, n = m + 1 := ⟨n - 1, by omega⟩
  rfl
theorem dStr_m {n : Nat} (h0 : 0 < n) (h : n.log2 < 1920) : dStr [.d (.int (-(n : Int)))] μ = .ok (.d (.str (T (45 :: TL.numL n)))) μ := by
  show (if (-(n : Int)).natAbs.log2 < 1920 then Out.ok (Dv.d (.str (toString (-(n : Int))))) μ else Out.bad) = _
  rw [if_pos (by simpa using h), toString_neg n h0]
  have e := TL.tl_num n
  have : Str.ofString ("-" ++ toString (n : Int)) = T (45 :: TL.numL n) := TL.ext_tl (by
    rw [TL.tl_ofString, String.toList_append, List.map_append]
    have e2 := TL.tl_ofString (toString (n : Int))
    rw [e] at e2
    rw [← e2]
    rfl)
  exact congrArg (fun x => Out.ok (Dv.d (.str x)) μ) this
@[simp] theorem dIn_t2 {n : Bool} {x a b : List Nat} : dIn n (.d (.str (T x))) (.d (.tuple [.str (T a), .str (T b)])) μ = .ok (.d (.bool (if n then !(decide (a = x) || decide (b = x)) else (decide (a = x) || decide (b = x))))) μ := by
  show (match allFlat ([PyData.str (T a), PyData.str (T b)].map Dv.d) with
      | some (ds : List D) => (if flatD (.str (T x)) = true then Out.ok (Dv.d (PyData.bool (if n then !(ds.any fun y => PyData.eqv y (.str (T x))) else ds.any fun y => PyData.eqv y (.str (T x))))) μ else Out.bad)
      | none => .bad) = _
  rw [allFlat_map (by intro d hd; simp at hd; rcases hd with rfl | rfl <;> rfl)]
  show Out.ok (Dv.d (PyData.bool (if n then !([PyData.str (T a), PyData.str (T b)].any fun y => PyData.eqv y (.str (T x))) else [PyData.str (T a), PyData.str (T b)].any fun y => PyData.eqv y (.str (T x))))) μ = _
  simp [eqv_T]
theorem ljustF_T (l : List Nat) (n c : Nat) : Txt.ljustF (T l) (n : Int) c = T (l ++ List.replicate (n - l.length) c) := by
  unfold Txt.ljustF
  rw [T_len]
  split
  · rename_i h
    have : n - l.length = 0 := by omega
    rw [this]
    show T l = T (l ++ [])
    rw [List.append_nil]
  · apply TL.ext_tl
    show (Array.replicate 0 c ++ (T l).cps ++ Array.replicate ((n : Int).toNat - l.length) c).toList = (T _).cps.toList
    rw [tl_T, Array.toList_append, Array.toList_append, tl_T, Array.toList_replicate, Array.toList_replicate]
    rfl
theorem rjustF_T (l : List Nat) (n c : Nat) : Txt.rjustF (T l) (n : Int) c = T (List.replicate (n - l.length) c ++ l) := by
  unfold Txt.rjustF
  rw [T_len]
  split
  · rename_i h
    have : n - l.length = 0 := by omega
    rw [this]
    rfl
  · apply TL.ext_tl
    show (Array.replicate ((n : Int).toNat - l.length) c ++ (T l).cps ++ Array.replicate 0 c).toList = (T _).cps.toList
    rw [tl_T, Array.toList_append, Array.toList_append, tl_T, Array.toList_replicate, Array.toList_replicate]
    simp
theorem padOk {k : Nat} (h : k ≤ 16000000) : PadOk (k : Int) = true := by
  have hb := line_big
  unfold PadOk fitsSsize Builtin.Str.tooLong
  simp
  omega
theorem dLjust {l : List Nat} {k c : Nat} (h : k ≤ 16000000) : dPadF Txt.ljustF (.d (.str (T l))) [.d (.int k), .d (.str (T [c]))] μ = .ok (.d (.str (T (l ++ List.replicate (k - l.length) c)))) μ := by
  show (if PadOk (k : Int) = true ∧ (T [c]).length = 1 then Out.ok (Dv.d (.str (Txt.ljustF (T l) k c))) μ else Out.bad) = _
  rw [if_pos ⟨padOk h, rfl⟩, ljustF_T]
theorem dRjust {l : List Nat} {k c : Nat} (h : k ≤ 16000000) : dPadF Txt.rjustF (.d (.str (T l))) [.d (.int k), .d (.str (T [c]))] μ = .ok (.d (.str (T (List.replicate (k - l.length) c ++ l)))) μ := by
  show (if PadOk (k : Int) = true ∧ (T [c]).length = 1 then Out.ok (Dv.d (.str (Txt.rjustF (T l) k c))) μ else Out.bad) = _
  rw [if_pos ⟨padOk h, rfl⟩, rjustF_T]
theorem tw_self {s : Nat} : ∀ {l : List Nat}, s ∉ l → l.takeWhile (· != s) = l
  | [], _ => rfl
  | c :: l, h => by
    have h1 : (c != s) = true := by simp; exact fun q => h (q ▸ List.mem_cons_self)
    rw [List.takeWhile_cons, h1, if_pos rfl, tw_self fun q => h (List.mem_cons_of_mem _ q)]
theorem dw_nil {s : Nat} : ∀ {l : List Nat}, s ∉ l → l.dropWhile (· != s) = []
  | [], _ => rfl
  | c :: l, h => by
    have h1 : (c != s) = true := by simp; exact fun q => h (q ▸ List.mem_cons_self)
    rw [List.dropWhile_cons, h1, if_pos rfl, dw_nil fun q => h (List.mem_cons_of_mem _ q)]
theorem dPart_one {l : List Nat} {s : Nat} (h : l.length ≤ 16000000) : dPartition (.d (.str (T l))) [.d (.str (T [s]))] μ = .ok (.d (.tuple [.str (T (l.takeWhile (· != s))), .str (T (if s ∈ l then [s] else [])), .str (T ((l.dropWhile (· != s)).drop 1))])) μ := by
  show (if ((T [s]).length == 0) = false ∧ (T l).length ≤ sizeLine then Out.ok (Dv.d (PyData.tuple [.str (Txt.partition (T l) (T [s])).1, .str (Txt.partition (T l) (T [s])).2.1, .str (Txt.partition (T l) (T [s])).2.2])) μ else Out.bad) = _
  have hb := line_big
  rw [if_pos ⟨rfl, by rw [T_len]; omega⟩, part_T, par_one]
  by_cases q : s ∈ l
  · rw [if_pos q, if_pos q]
    rfl
  · rw [if_neg q, if_neg q]
    have e1 := tw_self q
    have e2 := dw_nil q
    rw [e1, e2]
    rfl
def zs (n : Nat) : List Nat := List.replicate n 48
theorem dAdd_ll {xs ys : List D} (h : xs.length + ys.length ≤ 16000000) : dAdd (.d (.list xs)) (.d (.list ys)) μ = .ok (.d (.list (xs ++ ys))) μ := by
  show dList (xs.map Dv.d ++ ys.map Dv.d) μ = _
  rw [← List.map_append]
  exact dList_d (by rw [List.length_append]; exact Nat.le_trans h line_big)
theorem dSplit_one {l : List Nat} {s : Nat} (hs : s < 256) (h : l.length ≤ 15000000) : dSplit (.d (.str (T l))) [.d (.str (T [s]))] μ = .ok (.d (.list ((splitL s [] l).map fun p => .str (T p)))) μ := by
  have hb := line_big
  show (if ((T [s]).length == 0) = false ∧ (T l).length + 2 ≤ sizeLine then Out.ok (Dv.d (.list ((Txt.split (T l) (T [s])).map .str))) μ else Out.bad) = _
  rw [if_pos ⟨rfl, by rw [T_len]; omega⟩, split_T _ _ hs, spl_one, List.map_map]
  rfl
theorem splitL_no {s : Nat} : ∀ {l acc : List Nat}, s ∉ l → splitL s acc l = [acc ++ l]
  | [], acc, _ => by rw [List.append_nil]; rfl
  | c :: l, acc, h => by
    have h1 : ¬ c = s := fun q => h (q ▸ List.mem_cons_self)
    rw [splitL, if_neg h1, splitL_no fun q => h (List.mem_cons_of_mem _ q)]
    simp
theorem splitL_app {s : Nat} : ∀ {a acc r : List Nat}, s ∉ a → splitL s acc (a ++ s :: r) = (acc ++ a) :: splitL s [] r
  | [], acc, r, _ => by
    rw [List.nil_append, splitL, if_pos rfl, List.append_nil]
  | c :: a, acc, r, h => by
    have h1 : ¬ c = s := fun q => h (q ▸ List.mem_cons_self)
    rw [List.cons_append, splitL, if_neg h1, splitL_app fun q => h (List.mem_cons_of_mem _ q)]
    simp
theorem splitL_ne {s : Nat} : ∀ {l acc : List Nat}, splitL s acc l ≠ []
  | [], acc => by unfold splitL; simp
  | c :: l, acc => by
    unfold splitL
    split
    · simp
    · exact splitL_ne
theorem cut_at {s : Nat} : ∀ {l : List Nat}, s ∈ l → ∃ a r, l = a ++ s :: r ∧ s ∉ a
  | c :: l, h => by
    by_cases hc : c = s
    · exact ⟨[], l, by rw [hc]; rfl, by simp⟩
    · obtain ⟨a, r, e, n⟩ := cut_at (l := l) (by
        rcases List.mem_cons.mp h with h | h
        · exact absurd h.symm hc
        · exact h)
      exact ⟨c :: a, r, by rw [e]; rfl, by simp; exact ⟨fun q => hc q.symm, n⟩⟩
theorem tw_app {s : Nat} : ∀ {a r : List Nat}, s ∉ a → (a ++ s :: r).takeWhile (· != s) = a
  | [], r, _ => by simp
  | c :: a, r, h => by
    have h1 : (c != s) = true := by simp; exact fun q => h (q ▸ List.mem_cons_self)
    rw [List.cons_append, List.takeWhile_cons, h1, if_pos rfl, tw_app fun q => h (List.mem_cons_of_mem _ q)]
theorem dw_app {s : Nat} : ∀ {a r : List Nat}, s ∉ a → ((a ++ s :: r).dropWhile (· != s)).drop 1 = r
  | [], r, _ => by simp
  | c :: a, r, h => by
    have h1 : (c != s) = true := by simp; exact fun q => h (q ▸ List.mem_cons_self)
    rw [List.cons_append, List.dropWhile_cons, h1, if_pos rfl, dw_app fun q => h (List.mem_cons_of_mem _ q)]
/-- a comprehension over the signs of a text -/
theorem lcF_signs {i : Nat} {te : ME} {vs : List Nat} {l : List Nat} {f : Nat → D} (hl : l.length ≤ 16000000) (h : ∀ c ∈ l, te ((wipeD ρ vs).set i (some (.d (.str (T [c]))))) μ = .ok (.d (f c)) μ) :
    lcF dList (gN i) tYesM te vs ρ (l.map fun c => .d (.str (T [c]))) μ = .ok (.d (.list (l.map f))) μ := by
  have hb := line_big
  refine lcF_list ?_ (by rw [List.length_map]; omega) (by rw [List.length_map]; omega)
  have := lcM_map (g := gN i) (te := te) (ρ := wipeD ρ vs) (μ := μ) (f := fun b => match b with | .d (.str z) => .d (f (z.cps.toList.headD 0)) | b => b) (bs := l.map fun c => .d (.str (T [c]))) (by
    intro b hb
    obtain ⟨c, hc, rfl⟩ := List.mem_map.mp hb
    exact ⟨_, rfl, h c hc⟩)
  rw [this, List.map_map, List.map_map]
  rfl
end
end DL

/-! repr of small data, a sign times a number. -/
namespace DL
open PySem PySem.Spec PyProof.Rows L2
section
variable {μ : Store} {ρ : DEnv}
theorem str_len_app (x y : Str) : (x ++ y).length = x.length + y.length := by
  rw [← T_tl x, ← T_tl y, T_app, T_len, T_len, T_len, List.length_append]
theorem dMulA_s1 {z : List Nat} (h : z.length ≤ 1000) : dMulA (.d (.str (T z))) (.d (.int 1)) μ = .ok (.d (.str (T z))) μ := by
  have hb := line_big
  show (if (decide (-(2 ^ 31) ≤ (1 : Int)) && decide ((1 : Int) < 2 ^ 31) && decide ((T z).length * (1 : Int).toNat ≤ sizeLine) && decide ((1 : Int) < 1 ∨ ((T z).length : Int) ≤ (2 ^ 63 - 1) / 1)) = true then Out.ok (Dv.d (.str (Txt.mul (T z) 1))) μ else .bad) = _
  rw [if_pos (by
    rw [T_len]
    simp only [Bool.and_eq_true, decide_eq_true_eq]
    refine ⟨⟨⟨by decide, by decide⟩, ?_⟩, .inr ?_⟩
    · show z.length * 1 ≤ _; omega
    · omega)]
  rfl
theorem dMulA_s0 {z : List Nat} : dMulA (.d (.str (T z))) (.d (.int 0)) μ = .ok (.d (.str (T []))) μ := by
  show (if (decide (-(2 ^ 31) ≤ (0 : Int)) && decide ((0 : Int) < 2 ^ 31) && decide ((T z).length * (0 : Int).toNat ≤ sizeLine) && decide ((0 : Int) < 1 ∨ ((T z).length : Int) ≤ (2 ^ 63 - 1) / 0)) = true then Out.ok (Dv.d (.str (Txt.mul (T z) 0))) μ else .bad) = _
  rw [if_pos (by
    simp only [Bool.and_eq_true, decide_eq_true_eq]
    refine ⟨⟨⟨by decide, by decide⟩, ?_⟩, .inl (by decide)⟩
    show (T z).length * 0 ≤ _; omega)]
  rfl
/-- none or a number of at most 40 figures -/
def smallD : D → Bool
  | .none => true
  | .int i => decide (i.natAbs < 10 ^ 40)
  | _ => false
theorem small_len {x : D} (h : smallD x = true) : x.shown.length ≤ 41 := by
  cases x with
  | none => show Str.length "None" ≤ 41; decide +kernel
  | int i =>
    have h : i.natAbs < 10 ^ 40 := of_decide_eq_true h
    show Str.length (Str.ofString (toString i)) ≤ 41
    rcases Int.le_total 0 i with hi | hi
    · obtain ⟨n, rfl⟩ := Int.eq_ofNat_of_zero_le hi
      have e : Str.ofString (toString (n : Int)) = T (TL.numL n) := TL.ext_tl (by rw [TL.tl_num n]; rfl)
      rw [e, T_len]
      exact Nat.le_trans (TL.numL_len (by decide) (k := 40) (by simpa using h)) (by decide)
    · obtain ⟨n, hn⟩ := Int.eq_ofNat_of_zero_le (a := -i) (by omega)
      have : i = -(n : Int) := by omega
      subst this
      by_cases h0 : 0 < n
      · rw [toString_neg n h0]
        have e : Str.ofString ("-" ++ toString (n : Int)) = T (45 :: TL.numL n) := TL.ext_tl (by
          rw [TL.tl_ofString, String.toList_append, List.map_append]
          have e2 := TL.tl_ofString (toString (n : Int))
          rw [TL.tl_num n] at e2
          rw [← e2]
          rfl)
        rw [e, T_len, List.length_cons]
        have := TL.numL_len (n := n) (by decide) (k := 40) (by simpa using h)
        omega
      · have : n = 0 := by omega
        subst this
        decide +kernel
  | bool b => cases h
  | str z => cases h
  | list ds => cases h
  | tuple ds => cases h
  | dict ds => cases h
theorem small_show {x : D} (h : smallD x = true) : x.showable = true ∧ nodict x = true ∧ x.hasDict = false ∧ x.depth = 0 := by
  cases x with
  | none => exact ⟨rfl, rfl, rfl, rfl⟩
  | int i =>
    refine ⟨?_, rfl, rfl, rfl⟩
    have h : i.natAbs < 10 ^ 40 := of_decide_eq_true h
    show decide (i.natAbs.log2 < 1920) = true
    have h2 : i.natAbs < 2 ^ 200 := Nat.lt_trans h (by decide)
    have := log2_lt (i := i) (n := 200) h2 (by decide)
    exact decide_eq_true (by omega)
  | bool b => cases h
  | str z => cases h
  | list ds => cases h
  | tuple ds => cases h
  | dict ds => cases h
theorem dRepr_1 {x : D} (h : smallD x = true) : dRepr [.d x] μ = .ok (.d (.str x.shown)) μ := by
  have hb := line_big
  have h1 := small_len h
  obtain ⟨a, b, c, d⟩ := small_show h
  show (if (x.showable && nodict x && !x.hasDict && decide (x.depth ≤ 40) && decide (x.shown.length ≤ sizeLine)) = true then Out.ok (Dv.d (.str x.shown)) μ else .bad) = _
  rw [if_pos (by rw [a, b, c, d]; simp; omega)]
theorem dRepr_2 {x : D} (h : smallD x = true) : dRepr [.d (.list [x, x])] μ = .ok (.d (.str (PyData.list [x, x]).shown)) μ := by
  have hb := line_big
  have h1 := small_len h
  obtain ⟨a, b, c, d⟩ := small_show h
  have hl : (PyData.list [x, x]).shown.length ≤ 1000 := by
    show Str.length (listText [x.shown, x.shown]) ≤ 1000
    unfold listText
    simp only [textFrom, str_len_app]
    have e1 : Str.length ("[" : Str) = 1 := by decide +kernel
    have e2 : Str.length ("]" : Str) = 1 := by decide +kernel
    have e3 : Str.length (", " : Str) = 2 := by decide +kernel
    have e4 : Str.length ("" : Str) = 0 := by decide +kernel
    simp [e1, e2, e3, e4]
    omega
  show (if ((x.showable && (x.showable && true)) && nodict (.list [x, x]) && !(x.hasDict || (x.hasDict || false)) && decide (max x.depth (max x.depth 0) + 1 ≤ 40) && decide ((PyData.list [x, x]).shown.length ≤ sizeLine)) = true then Out.ok (Dv.d (.str (PyData.list [x, x]).shown)) μ else .bad) = _
  have hn : nodict (.list [x, x]) = true := by simp [nodict, nodicts, b]
  rw [if_pos (by rw [a, c, d, hn]; simp; omega)]
end
end DL

/-! zip of lists, tuples, texts in any mix. -/
namespace DL
open PySem PySem.Spec PyProof.Rows L2

inductive Sc where
  | li (a : Addr) | tu (a : Addr) | tx (z : Str)
def Sc.v : Sc → V
  | .li a => .ref a
  | .tu a => .ref a
  | .tx z => .str z
def Sc.at (K : PySem.W.Frag) (H : Hp) : Sc → List V → Prop
  | .li a, xs => SqL K H a xs
  | .tu a, xs => SqT K H a xs
  | .tx z, xs => xs = z.cps.toList.map fun c => V.str ⟨#[c]⟩
def Sc.st (it : Addr) (i : Nat) (h : Heap) : Sc → Prop
  | .li a => h.IsListIter it a i
  | .tu a => h.IsTupleIter it a i
  | .tx z => ∃ t, h.IsStrIter it (strIterType z) z t i
def Sc.fp (it : Addr) : Sc → List Addr
  | .li a => [it, a]
  | .tu a => [it, a]
  | .tx _ => [it]
def Sc.apart (it : Addr) : Sc → Prop
  | .li a => a ≠ it
  | .tu a => a ≠ it
  | .tx _ => True
section
variable {X : Cx} {pins : List (Addr × Obj)} {σ : L2.St} {H : Hp} {s : Shared}
theorem Sc.draws (I : Inv X pins σ H s) (hh : X.A.handled = none) {it : Addr} {i : Nat} : ∀ {c : Sc} {xs : List V}, c.at X.K H xs → c.apart it → c.st it i s.heap →
    ∃ (P : Nat → Value → Prop) (St : Nat → Heap → Prop), Draws X.prog X.w X.A.in1 it (c.fp it) xs.length P St ∧ (∀ j h', St j h' → c.st it j h') ∧ St i s.heap ∧ ∀ j v, P j v → ∃ x, xs[j]? = some x ∧ RelV x v
  | .li a, xs, h, hn, st => by
    obtain ⟨its, rv, pl, _⟩ := I.list h
    have D := Draws.list (prog := X.prog) (w := X.w) (A := X.A.in1) hh it a hn its.toArray
    have hl : its.toArray.size = xs.length := by rw [List.size_toArray]; exact rv.length.symm
    rw [hl] at D
    refine ⟨_, _, D, fun j h' q => q.1, ⟨st, pl.isList⟩, fun j v q => ?_⟩
    have q : its[j]? = some v := by simpa using q
    have hj : j < xs.length := by rw [← hl, List.size_toArray]; exact (List.getElem?_eq_some_iff.mp q).1
    obtain ⟨u, h1, h2⟩ := rv.get (show xs[j]? = some xs[j] by simp [hj])
    rw [q] at h1
    cases h1
    exact ⟨_, by simp [hj], h2⟩
  | .tu a, xs, h, hn, st => by
    obtain ⟨its, rv, pl, _⟩ := I.tuple h
    have D := Draws.tuple (prog := X.prog) (w := X.w) (A := X.A.in1) hh it a hn its.toArray
    have hl : its.toArray.size = xs.length := by rw [List.size_toArray]; exact rv.length.symm
    rw [hl] at D
    refine ⟨_, _, D, fun j h' q => q.1, ⟨st, pl⟩, fun j v q => ?_⟩
    have q : its[j]? = some v := by simpa using q
    have hj : j < xs.length := by rw [← hl, List.size_toArray]; exact (List.getElem?_eq_some_iff.mp q).1
    obtain ⟨u, h1, h2⟩ := rv.get (show xs[j]? = some xs[j] by simp [hj])
    rw [q] at h1
    cases h1
    exact ⟨_, by simp [hj], h2⟩
  | .tx z, xs, h, hn, st => by
    obtain ⟨t, st⟩ := st
    have D := Draws.text (prog := X.prog) (w := X.w) (A := X.A.in1) hh it z t
    have h : xs = z.cps.toList.map fun c => V.str ⟨#[c]⟩ := h
    subst h
    have hl : z.cps.size = (z.cps.toList.map fun c => V.str ⟨#[c]⟩).length := by simp
    rw [hl] at D
    refine ⟨_, _, D, fun j h' q => ⟨t, q⟩, st, fun j v q => ?_⟩
    obtain ⟨c, u, q, rfl⟩ := q
    refine ⟨.str ⟨#[c]⟩, ?_, ⟨u, rfl⟩⟩
    rw [List.getElem?_map, Array.getElem?_toList, q]
    rfl
end
def ItzX (K : PySem.W.Frag) (c1 c2 : Sc) (xs ys : List V) : It :=
  ⟨fun i H => c1.at K H xs ∧ c2.at K H ys ∧ i < xs.length ∧ i < ys.length,
    fun i H v H' => ∃ T x y its, v = .ref T ∧ H T = none ∧ H' = upd H T (frT its [x, y]) ∧ xs[i]? = some x ∧ ys[i]? = some y,
    fun i H => c1.at K H xs ∧ c2.at K H ys ∧ min xs.length ys.length ≤ i⟩
theorem Sc.keep {it : Addr} {i : Nat} {h h' : Heap} : ∀ {c : Sc}, c.st it i h → (∀ o, h.get? it = some o → h'.get? it = some o) → c.st it i h'
  | .li a, st, k => st.at fun o e => k o e
  | .tu a, st, k => st.at fun o e => k o e
  | .tx z, ⟨t, o, e, r⟩, k => ⟨t, o, k o e, r⟩
theorem Sc.objs {it : Addr} {i : Nat} {h : Heap} : ∀ {c : Sc}, c.st it i h → ∃ o, h.get? it = some o ∧ ∀ v, o.data ≠ .cell v
  | .li a, ⟨o, e, _, d⟩ => ⟨o, e, fun v q => by rw [d] at q; cases q⟩
  | .tu a, ⟨o, e, _, d⟩ => ⟨o, e, fun v q => by rw [d] at q; cases q⟩
  | .tx z, ⟨t, o, e, _, d⟩ => ⟨o, e, fun v q => by rw [d] at q; cases q⟩
theorem turn_zipX {P : Program} {w : World} {K : PySem.W.Frag} {elts : List Expr} {kk : Nat} {tpos : Pos} {z TI TO i1 i2 : Addr} {c1 c2 : Sc} {xs ys : List V} (S : ZipSep2 z TI TO i1 i2 (c1.fp i1) (c2.fp i2)) (h12 : i1 ≠ i2) (n1 : c1.apart i1) (n2 : c2.apart i2) :
    Turn P w K (.Tuple elts kk tpos) (ItzX K c1 c2 xs ys) [z, TI, TO, i1, i2] z (fun i h => (IsZip h z TI TO .none ∧ IsTupOf2 h TI (.ref i1) (.ref i2) ∧ (∃ x y, IsTupOf2 h TO x y) ∧ c1.st i1 i h ∧ c2.st i2 i h) ∧ i ≤ min xs.length ys.length) where
  mem := by simp
  obj := fun i h st c hc => by
    obtain ⟨⟨hz, hTI, ⟨x, y, hTO⟩, s1, s2⟩, _⟩ := st
    have e' : c = z ∨ c = TI ∨ c = TO ∨ c = i1 ∨ c = i2 := by simpa using hc
    rcases e' with q | q | q | q | q
    · rw [q]; exact ⟨_, hz, fun v q => nomatch q⟩
    · rw [q]; exact ⟨_, hTI, fun v q => nomatch q⟩
    · rw [q]; exact ⟨_, hTO, fun v q => nomatch q⟩
    · rw [q]; exact Sc.objs s1
    · rw [q]; exact Sc.objs s2
  keep := fun i h h' st k => by
    obtain ⟨⟨hz, hTI, ⟨x, y, hTO⟩, s1, s2⟩, hi⟩ := st
    exact ⟨⟨k z (by simp) _ hz, k TI (by simp) _ hTI, ⟨x, y, k TO (by simp) _ hTO⟩, Sc.keep s1 fun o q => k i1 (by simp) o q, Sc.keep s2 fun o q => k i2 (by simp) o q⟩, hi⟩
  item := by
    intro X hP hw hK hc i pins s σ H E I hf st hg
    subst hP hw hK
    obtain ⟨⟨hz, hTI, ⟨x0, y0, hTO⟩, s1, s2⟩, _⟩ := st
    obtain ⟨a1, a2, l1, l2⟩ := hg
    obtain ⟨P1, St1, D1, k1, t1, r1⟩ := Sc.draws I (I.ok.hd hc) a1 n1 s1
    obtain ⟨P2, St2, D2, k2, t2, r2⟩ := Sc.draws I (I.ok.hd hc) a2 n2 s2
    have hzl : z < s.heap.objs.size := Heap.lt_size hz
    have hTIl : TI < s.heap.objs.size := Heap.lt_size hTI
    have hTOl : TO < s.heap.objs.size := Heap.lt_size hTO
    have hi1l : i1 < s.heap.objs.size := by obtain ⟨_, e, _⟩ := Sc.objs s1; exact Heap.lt_size e
    have hi2l : i2 < s.heap.objs.size := by obtain ⟨_, e, _⟩ := Sc.objs s2; exact Heap.lt_size e
    refine wpAny_pyNext_zipD2_item S D1 D2 hz hTI hTO t1 t2 l1 l2 fun u u2 h' tk p1 p2 z' TO' s1' s2' hT hsz hk => ?_
    obtain ⟨x, hx, ru⟩ := r1 _ _ p1
    obtain ⟨y, hy, ru2⟩ := r2 _ _ p2
    refine ⟨_, rfl, wpAny_letOwnedTupleGo_zip (s := { s with heap := h', toks := tk }) z' fun h'' z'' sb => ?_⟩
    have hT2 : h''.get? s.heap.objs.size = some { cls := .type "tuple", data := .seq #[u, u2] } := (sb.2 _ (Nat.ne_of_gt hzl)).trans hT
    have new : ObjOk X.prog X.w (upd H s.heap.objs.size (frT #[u, u2] [x, y])) h'' s.heap.objs.size (frT #[u, u2] [x, y]) :=
      frT_ok (its := [u, u2]) (by show 2 ≤ sizeLine; decide) (.cons ru (.cons ru2 .nil)) hT2
    have I1 : Inv X pins σ (upd H s.heap.objs.size (frT #[u, u2] [x, y])) { s with heap := h'', toks := tk } :=
      I.turnedNew (t' := tk) (ch := [z, TI, TO, i1, i2]) (fun c o hb q => (sb.2 c (fun q' => hb (by simp [q']))).trans (hk c o (fun q' => hb (by simp [q'])) (fun q' => hb (by simp [q'])) (fun q' => hb (by simp [q'])) (fun q' => hb (by simp [q'])) q)) hf (Nat.le_refl _) new
    refine ⟨.ref s.heap.objs.size, _, I1, rfl, ⟨_, x, y, _, rfl, I.hok.fresh (Nat.le_refl _), rfl, hx, hy⟩, ⟨⟨z'', ?_, ⟨u, u2, ?_⟩, ?_, ?_⟩, by omega⟩, fun c hcm => ?_⟩
    · exact (sb.2 _ S.TIz).trans (hk _ _ S.TIz S.TITO S.TIi1 S.TIi2 hTI)
    · exact (sb.2 _ S.TOz).trans TO'
    · exact Sc.keep (k1 _ _ s1') fun o q => (sb.2 _ S.zi1.symm).trans q
    · exact Sc.keep (k2 _ _ s2') fun o q => (sb.2 _ S.zi2.symm).trans q
    · have hlt : c < s.heap.objs.size := by
        have e' : c = z ∨ c = TI ∨ c = TO ∨ c = i1 ∨ c = i2 := by simpa using hcm
        rcases e' with q | q | q | q | q <;> rw [q] <;> assumption
      rw [upd_ne (Nat.ne_of_lt hlt)]
      exact (hf c hcm).1
  done := by
    intro X hP hw hK hc i pins s σ H E I hf st hg
    subst hP hw hK
    obtain ⟨⟨hz, hTI, ⟨x0, y0, hTO⟩, s1, s2⟩, hi⟩ := st
    obtain ⟨a1, a2, hend⟩ := hg
    obtain ⟨P1, St1, D1, k1, t1, r1⟩ := Sc.draws I (I.ok.hd hc) a1 n1 s1
    obtain ⟨P2, St2, D2, k2, t2, r2⟩ := Sc.draws I (I.ok.hd hc) a2 n2 s2
    exact wpAny_pyNext_zipD2_end S D1 D2 hz hTI hTO t1 t2 (by omega) (by omega) (by omega) fun h' tk hk => ⟨rfl, I.turnedL (t' := tk) (ch := [z, TI, TO, i1, i2]) (fun c o hb q =>
      hk c o (fun q' => hb (by simp [q'])) (fun q' => hb (by simp [q'])) (fun q' => hb (by simp [q'])) (fun q' => hb (by simp [q'])) q) hf⟩
  self := fun A i s Q E st h => wpAny_pyIter_zip st.1.1 h
/-! ### the walk of zip(a, b) -/
theorem Sc.begins {X : Cx} {pins : List (Addr × Obj)} {σ : L2.St} {H : Hp} {s : Shared} (I : Inv X pins σ H s) : ∀ {c : Sc} {xs : List V} {u : Value}, c.at X.K H xs → RelV c.v u → ∃ (o : Obj) (H1 : Heap → Prop), Begins u o H1 ∧ H1 s.heap ∧ (∀ h it, h.get? it = some o → c.st it 0 h) ∧ ∀ b ∈ c.fp s.heap.objs.size, b < s.heap.objs.size ∨ b = s.heap.objs.size
  | .li a, xs, u, h, r => by
    cases r
    obtain ⟨its, rv, pl, _⟩ := I.list h
    refine ⟨_, _, begins_list a its.toArray, pl.isList, fun h it e => ⟨_, e, rfl, rfl⟩, fun b hb => ?_⟩
    have hb : b = s.heap.objs.size ∨ b = a := by simpa [Sc.fp] using hb
    rcases hb with hb | hb
    · exact .inr hb
    · exact .inl (by rw [hb]; exact pl.lt)
  | .tu a, xs, u, h, r => by
    cases r
    obtain ⟨its, rv, pl, _⟩ := I.tuple h
    refine ⟨_, _, begins_tuple a its.toArray, pl, fun h it e => ⟨_, e, rfl, rfl⟩, fun b hb => ?_⟩
    have hb : b = s.heap.objs.size ∨ b = a := by simpa [Sc.fp] using hb
    rcases hb with hb | hb
    · exact .inr hb
    · obtain ⟨o, e, _⟩ := pl
      exact .inl (by rw [hb]; exact Heap.lt_size e)
  | .tx z, xs, u, h, r => by
    obtain ⟨t, rfl⟩ := r
    refine ⟨_, _, begins_text z t, trivial, fun h it e => ⟨t, _, e, rfl, rfl⟩, fun b hb => ?_⟩
    have hb : b = s.heap.objs.size := by simpa [Sc.fp] using hb
    exact .inr hb
def Sc.src : Sc → Option Addr
  | .li a => some a
  | .tu a => some a
  | .tx _ => none
theorem Sc.fp_mem {c : Sc} {it b : Addr} (h : b ∈ c.fp it) : b = it ∨ c.src = some b := by
  cases c with
  | li a =>
    have hb : b = it ∨ b = a := by simpa [Sc.fp] using h
    rcases hb with h | h
    · exact .inl h
    · exact .inr (by rw [h]; rfl)
  | tu a =>
    have hb : b = it ∨ b = a := by simpa [Sc.fp] using h
    rcases hb with h | h
    · exact .inl h
    · exact .inr (by rw [h]; rfl)
  | tx z => exact .inl (by simpa [Sc.fp] using h)
theorem Sc.mem_fp {c : Sc} {it : Addr} : it ∈ c.fp it := by cases c <;> simp [Sc.fp]
theorem Sc.apart_of {c : Sc} {it : Addr} (h : ∀ a, c.src = some a → a ≠ it) : c.apart it := by
  cases c with
  | li a => exact h a rfl
  | tu a => exact h a rfl
  | tx z => trivial
theorem Sc.src_lt {X : Cx} {pins : List (Addr × Obj)} {σ : L2.St} {H : Hp} {s : Shared} (I : Inv X pins σ H s) : ∀ {c : Sc} {xs : List V} {a : Addr}, c.at X.K H xs → c.src = some a → a < s.heap.objs.size
  | .li a, xs, b, h, e => by
    cases e
    obtain ⟨its, rv, pl, _⟩ := I.list h
    exact pl.lt
  | .tu a, xs, b, h, e => by
    cases e
    obtain ⟨its, rv, ⟨o, e, _⟩, _⟩ := I.tuple h
    exact Heap.lt_size e
  | .tx z, xs, b, h, e => by cases e
def iZipX (K : PySem.W.Frag) (ta : TA) : TI := fun σ H R => ta σ H fun vs H1 => ∃ c1 c2 xs ys, vs = [Sc.v c1, Sc.v c2] ∧ c1.at K H1 xs ∧ c2.at K H1 ys ∧ R (ItzX K c1 c2 xs ys) H1
theorem pi_zipX {X : Cx} {e e2 : Expr} {ta : TA} {p pos tpos : Pos} {elts : List Expr} {kk : Nat} (hg : Gl X "zip") (hm : X.mg "zip" = none) (ha : PA X [e, e2] ta)
    (hs : starEach [e, e2] X.env = (false, eval e X.env) :: starEach [e2] X.env := by rfl) (hpl : (backTo pos (starEach [e2] X.env)).any (·.1) = false := by rfl) :
    PI X (.Tuple elts kk tpos) (.Call (.Name "zip" p) [e, e2] [] pos) (iZipX X.K ta) := by
  refine ⟨fun pins s σ H R I h => ?_⟩
  refine Call_ (ld_blt I hg hm PyProof.Rows.boot_zip (PyProof.Rows.callWith_type1 (thn (ha.run pos pins s σ H _ I h) fun us s1 ⟨vs, H1, I1, r1, q1⟩ => ?_) hs hpl))
  obtain ⟨c1, c2, xs, ys, ex, a1, a2, q⟩ := q1
  subst ex
  cases r1 with
  | cons r rr =>
    cases rr with
    | cons r' rr =>
      cases rr
      obtain ⟨o1, H1', B1, b1, k1, _⟩ := Sc.begins I1 a1 r
      obtain ⟨o2, H2', B2, b2, k2, _⟩ := Sc.begins I1 a2 r'
      have fresh5 : ∀ c, c ∈ [s1.heap.objs.size + 4, s1.heap.objs.size + 2, s1.heap.objs.size + 3, s1.heap.objs.size, s1.heap.objs.size + 1] → FpOk X pins H1 c := fun c hcm => by
        have e' : c = s1.heap.objs.size + 4 ∨ c = s1.heap.objs.size + 2 ∨ c = s1.heap.objs.size + 3 ∨ c = s1.heap.objs.size ∨ c = s1.heap.objs.size + 1 := by simpa using hcm
        have hle : s1.heap.objs.size ≤ c := by
          rcases e' with z | z | z | z | z
          · rw [z]; exact Nat.le_add_right _ _
          · rw [z]; exact Nat.le_add_right _ _
          · rw [z]; exact Nat.le_add_right _ _
          · rw [z]; exact Nat.le_refl _
          · rw [z]; exact Nat.le_add_right _ _
        exact I1.fpOk hle (I1.hok.fresh hle)
      have lt1 : ∀ a, c1.src = some a → a < s1.heap.objs.size := fun a e => Sc.src_lt I1 a1 e
      have lt2 : ∀ a, c2.src = some a → a < s1.heap.objs.size := fun a e => Sc.src_lt I1 a2 e
      refine zip_begins2 B1 B2 b1 b2 fun h' hz hTI hTO h1 h2 hsz hk => wpAny_pyIter_zip hz ?_
      have I2 : Inv X pins σ H1 { s1 with heap := h' } := I1.kept (t' := s1.toks) hk
      have g1 : ∀ b, s1.heap.objs.size < b → b ∉ c1.fp s1.heap.objs.size := fun b hb hm => by
        rcases Sc.fp_mem hm with e | e
        · exact absurd e (Nat.ne_of_gt hb)
        · exact absurd (lt1 b e) (Nat.not_lt_of_gt hb)
      have g2 : ∀ b, s1.heap.objs.size ≤ b → b ≠ s1.heap.objs.size + 1 → b ∉ c2.fp (s1.heap.objs.size + 1) := fun b hb hne hm => by
        rcases Sc.fp_mem hm with e | e
        · exact absurd e hne
        · exact absurd (lt2 b e) (Nat.not_lt_of_ge hb)
      have S : ZipSep2 (s1.heap.objs.size + 4) (s1.heap.objs.size + 2) (s1.heap.objs.size + 3) s1.heap.objs.size (s1.heap.objs.size + 1) (c1.fp s1.heap.objs.size) (c2.fp (s1.heap.objs.size + 1)) := by
        generalize s1.heap.objs.size = n at *
        exact ⟨by simp, by simp, by simp, by simp, Sc.mem_fp, g1 _ (by omega), g1 _ (by omega), by simp, Sc.mem_fp, g2 _ (by omega) (by simp), g2 _ (by omega) (by simp), g2 _ (Nat.le_refl _) (by simp), g1 _ (by omega)⟩
      exact ⟨s1.heap.objs.size + 4, [s1.heap.objs.size + 4, s1.heap.objs.size + 2, s1.heap.objs.size + 3, s1.heap.objs.size, s1.heap.objs.size + 1], _, _, H1, rfl, I2,
        turn_zipX S (by simp) (Sc.apart_of fun a e => Nat.ne_of_lt (lt1 a e)) (Sc.apart_of fun a e => Nat.ne_of_lt (Nat.lt_succ_of_lt (lt2 a e))), ⟨⟨hz, hTI, ⟨_, _, hTO⟩, k1 _ _ h1, k2 _ _ h2⟩, Nat.zero_le _⟩, fresh5, q⟩

/-! ### zip as data -/
def srcD : Dv → Option (List D)
  | .d (.list ds) => some ds
  | .d (.tuple ds) => some ds
  | .d (.str z) => some (z.cps.toList.map fun c => .str ⟨#[c]⟩)
  | _ => none
def zipD : List Dv → Store → Out (List Dv)
  | [x, y], μ => match srcD x, srcD y with
    | some ds, some es => .ok ((ds.zip es).map fun p => .d (.tuple [p.1, p.2])) μ
    | _, _ => .bad
  | _, _ => .bad
section
variable {G : GT} {w : Wd}
theorem RpA_signs {K : PySem.W.Frag} {I : Hp} : ∀ l : List Nat, RpA K I (l.map fun c => V.str ⟨#[c]⟩) (l.map fun c => PyData.str ⟨#[c]⟩)
  | [] => .nil
  | c :: l => .cons (.str _) (RpA_signs l)
theorem src_ok {v : V} {b : Dv} {ds : List D} (r : Rv G w v b) (h : srcD b = some ds) : ∃ c xs, v = Sc.v c ∧ c.at G.K w.I xs ∧ RpA G.K w.I xs ds := by
  unfold srcD at h
  split at h
  · cases h
    obtain ⟨a, xs, rfl, h1, h2⟩ := rv_lst r
    exact ⟨.li a, xs, rfl, h1, h2⟩
  · cases h
    obtain ⟨a, xs, rfl, h1, h2⟩ := rv_tup r
    exact ⟨.tu a, xs, rfl, h1, h2⟩
  · rename_i z
    cases h
    rw [rv_str r]
    exact ⟨.tx z, _, rfl, rfl, RpA_signs _⟩
  · cases h
theorem Sc.mono {K : PySem.W.Frag} {H H' : Hp} (e : Same H H') : ∀ {c : Sc} {xs : List V}, c.at K H xs → c.at K H' xs
  | .li a, _, h => seqL e h
  | .tu a, _, h => seqT e h
  | .tx z, _, h => h
theorem it_zip {c1 c2 : Sc} {xs ys : List V} {ds es : List D} (h1 : c1.at G.K w.I xs) (h2 : c2.at G.K w.I ys) (r1 : RpA G.K w.I xs ds) (r2 : RpA G.K w.I ys es) :
    ItR G w (ItzX G.K c1 c2 xs ys) ((ds.zip es).map fun p => .d (.tuple [p.1, p.2])) where
  go := fun i w' μ H hi l lay => by
    rw [List.length_map, List.length_zip] at hi
    have a := r1.length
    have b := r2.length
    exact ⟨Sc.mono (Same.trans l.1 lay.same) h1, Sc.mono (Same.trans l.1 lay.same) h2, by omega, by omega⟩
  yld := fun i b w' μ H x H' e l lay y => by
    obtain ⟨T, u, v, its, rfl, hT, rfl, hx, hy⟩ := y
    obtain ⟨d, hd, rd⟩ := r1.get hx
    obtain ⟨f, hf, rf⟩ := r2.get hy
    rw [List.getElem?_map] at e
    have ez : (ds.zip es)[i]? = some (d, f) := by rw [List.getElem?_zip_eq_some]; exact ⟨hd, hf⟩
    rw [ez] at e
    cases e
    obtain ⟨le, l2⟩ := lay.new hT (frT its [u, v])
    refine ⟨_, le, l2, ?_⟩
    exact .tup (SqS.of upd_same) (RpA.mono (Same.trans l.1 le.1) _ _ (.cons rd (.cons rf .nil)))
  stop := fun i w' μ H hi l lay => by
    rw [List.length_map, List.length_zip] at hi
    have a := r1.length
    have b := r2.length
    exact ⟨Sc.mono (Same.trans l.1 lay.same) h1, Sc.mono (Same.trans l.1 lay.same) h2, by omega⟩
end
theorem di_zip {X : Cx} {G : GT} {W : WX} {mas : MA} {a b : Expr} {p pos tpos : Pos} {elts : List Expr} {kk : Nat} (hK : X.K = G.K) (hg : Gl X "zip") (hm : X.mg "zip" = none) (ha : DA X G W [a, b] mas)
    (hs : starEach [a, b] X.env = (false, eval a X.env) :: starEach [b] X.env := by rfl) (hpl : (backTo pos (starEach [b] X.env)).any (·.1) = false := by rfl) :
    DI X G W (.Tuple elts kk tpos) (.Call (.Name "zip" p) [a, b] [] pos) (iRng zipD mas) := by
  refine PI.imp (pi_zipX hg hm ha hs hpl) ?_
  rintro σ H Q ⟨w, μ, ρ, hl, he, pp⟩
  refine tD.seq (k := fun ρ xs μ => zipD xs μ) hl he pp fun w1 μ1 H1 v bs l1 lay1 en1 r1 p1 => ?_
  unfold zipD at p1
  split at p1
  · split at p1
    · rename_i e1 e2
      cases r1 with
      | cons r t =>
        cases t with
        | cons r' t =>
          cases t
          obtain ⟨c1, xs, rfl, h1, q1⟩ := src_ok r e1
          obtain ⟨c2, ys, rfl, h2, q2⟩ := src_ok r' e2
          refine ⟨c1, c2, xs, ys, rfl, ?_, ?_, ?_⟩
          · rw [hK]; exact Sc.mono lay1.same h1
          · rw [hK]; exact Sc.mono lay1.same h2
          · rw [hK]; exact p1 w1 _ H1 w1.le_refl lay1 (it_zip h1 h2 q1 q2)
    · exact p1.elim
  · exact p1.elim
end DL

/-! dicts that stay as they were made: displays, d[k]. -/
namespace DL
open PySem PySem.Spec PyProof.Rows L2

def keyOf : D → Option Key
  | .int i => some (.inl i)
  | .str z => some (.inr z)
  | _ => none
theorem keyOf_eq {d : D} {k : Key} (h : keyOf d = some k) : d = kD k := by
  cases d <;> first | (cases h; rfl) | cases h
theorem keyOf_kD (k : Key) : keyOf (kD k) = some k := by cases k <;> rfl
theorem rp_key {K : PySem.W.Frag} {I : Hp} {v : V} {k : Key} (r : Rp K I v (kD k)) : v = kV k := by
  cases k with
  | inl i => cases r; rfl
  | inr z => cases r; rfl
abbrev ML := List (ME × ME)
def prsM : ML → DEnv → Store → Out (List (Dv × Dv))
  | [], _, μ => .ok [] μ
  | (a, b) :: r, ρ, μ => (a ρ μ).bind fun x μ => (b ρ μ).bind fun y μ => (prsM r ρ μ).bind fun ps μ => .ok ((x, y) :: ps) μ
/-- the pairs as keys and data -/
def allP : List (Dv × Dv) → Option (List (Key × D))
  | [] => some []
  | (.d k, .d x) :: r => match keyOf k, allP r with
    | some k, some ps => some ((k, x) :: ps)
    | _, _ => none
  | _ :: _ => none
def dicOf (ps : List (Key × D)) : D := .dict (ps.map fun p => (kD p.1, p.2))
def dDicF (ps : List (Dv × Dv)) (μ : Store) : Out Dv := match allP ps with
  | some kvs => if (kvs.map Prod.fst).Nodup ∧ kvs.length ≤ 15 then .ok (.d (dicOf kvs)) μ else .bad
  | none => .bad
def eDic (l : ML) : ME := fun ρ μ => (prsM l ρ μ).bind dDicF
abbrev Rpp (G : GT) (w : Wd) : List (V × V) → List (Dv × Dv) → Prop := Paired fun p q => Rv G w p.1 q.1 ∧ Rv G w p.2 q.2
theorem Rpp.mono {G : GT} {w w' : Wd} (l : w.le w') {a : List (V × V)} {b : List (Dv × Dv)} (r : Rpp G w a b) : Rpp G w' a b := Paired.imp (fun _ _ z => ⟨z.1.mono l, z.2.mono l⟩) r
theorem Lay.stayO {G : GT} {w : Wd} {μ : Store} {H : Hp} {a : Addr} {o : HO} (l : Lay G w μ H) (h1 : w.I a = none) (h2 : a ∉ w.α) (h3 : w.F a = none) (e : H a = some o) : w.le (w.put a o) ∧ Lay G (w.put a o) μ H := by
  refine ⟨⟨same_upd h1, List.prefix_refl _, Same.refl _⟩, fun b u q => ?_, l.len, l.nd, l.lv, l.fr, l.fd, fun b u q => ?_, fun n c b q1 q2 => ?_⟩
  · by_cases z : b = a
    · subst z; have q : upd w.I b o b = some u := q; rw [upd_same] at q; rw [← q]; exact e
    · have q : upd w.I a o b = some u := q; rw [upd_ne z] at q; exact l.same b u q
  · have : b ≠ a := fun z => by rw [z, h3] at q; cases q
    show upd w.I a _ b = none
    rw [upd_ne this]; exact l.di b u q
  · have ap : b ≠ a := ne_get q2 h2
    exact CellAt.cong (w' := w.put a o) (fun z => by show upd w.I a _ b = none; rw [upd_ne ap]; exact z) ⟨same_upd h1, List.prefix_refl _⟩ rfl (l.at_ n c b q1 q2)
section
variable {G : GT} {W : WX}
theorem prs_imp : ∀ (l : ML) σ H Q, tD G W (Rpp G) (prsM l) σ H Q → tPairs (l.map fun p => (tE G W p.1, tE G W p.2)) σ H Q
  | [], σ, H, Q, ⟨w, μ, ρ, hl, he, p⟩ => p w [] H w.le_refl hl .nil
  | (a, b) :: r, σ, H, Q, ⟨w, μ, ρ, hl, he, p⟩ => by
    refine tD.seq (k := fun ρ x μ => (b ρ μ).bind fun y μ => (prsM r ρ μ).bind fun ps μ => .ok ((x, y) :: ps) μ) hl he p fun w1 μ1 H1 v x l1 lay1 en1 r1 p1 => ?_
    refine tD.seq (k := fun ρ y μ => (prsM r ρ μ).bind fun ps μ => .ok ((x, y) :: ps) μ) lay1 en1 p1 fun w2 μ2 H2 u y l2 lay2 en2 r2 p2 => ?_
    refine prs_imp r σ H2 _ (tD.seq (k := fun ρ ps μ => .ok ((x, y) :: ps) μ) lay2 en2 p2 fun w3 μ3 H3 vs ps l3 lay3 en3 r3 p3 => ?_)
    exact p3 w3 _ H3 w3.le_refl lay3 (.cons ⟨r1.mono (l2.trans l3), r2.mono l3⟩ r3)
theorem allP_ok {w : Wd} : ∀ {bs : List (Dv × Dv)} {kvs : List (Key × D)} {vs : List (V × V)}, allP bs = some kvs → Rpp G w vs bs → ∃ xs : List V, vs = (((kvs.map Prod.fst).zip xs).map fun kv => (kV kv.1, kv.2)) ∧ xs.length = kvs.length ∧ RpA G.K w.I xs (kvs.map Prod.snd)
  | [], _, _, h, r => by cases h; cases r; exact ⟨[], rfl, rfl, .nil⟩
  | (.d k, .d x) :: bs, kvs, _, h, r => by
    unfold allP at h
    cases hk : keyOf k with
    | none => rw [hk] at h; cases h
    | some k' =>
      cases hr : allP bs with
      | none => rw [hk, hr] at h; cases h
      | some ps =>
        rw [hk, hr] at h
        cases h
        cases r with
        | @cons v _ vs _ a t =>
          obtain ⟨xs, e, hl, ra⟩ := allP_ok hr t
          obtain ⟨v1, v2⟩ := v
          have a1 : Rp G.K w.I v1 k := a.1
          rw [keyOf_eq hk] at a1
          have := rp_key a1
          subst this
          refine ⟨v2 :: xs, by rw [e]; rfl, by simp [hl], .cons a.2 ra⟩
  | (.c _, _) :: _, _, _, h, _ => by cases h
  | (.f _, _) :: _, _, _, h, _ => by cases h
  | (.d _, .c _) :: _, _, _, h, _ => by cases h
  | (.d _, .f _) :: _, _, _, h, _ => by cases h
theorem mergeK_new : ∀ (more kvs : List (Key × V)), ((kvs ++ more).map Prod.fst).Nodup → mergeK kvs more = kvs ++ more
  | [], kvs, _ => by rw [List.append_nil]; rfl
  | p :: r, kvs, h => by
    have hn : (kvs.any fun kv => decide (kv.1 = p.1)) = false := by
      rw [List.any_eq_false]
      intro q hq
      simp only [decide_eq_true_eq]
      intro e
      rw [List.map_append, List.nodup_append] at h
      exact h.2.2 _ (List.mem_map_of_mem hq) _ (by rw [List.map_cons]; exact List.mem_cons_self) e
    have : putK kvs p.1 p.2 = kvs ++ [p] := by
      unfold putK
      rw [if_neg (by rw [hn]; simp)]
    show mergeK (putK kvs p.1 p.2) r = _
    rw [this, mergeK_new r (kvs ++ [p]) (by rw [List.append_assoc]; exact h), List.append_assoc]
    rfl
theorem RpK_of {K : PySem.W.Frag} {I : Hp} : ∀ {kvs : List (Key × D)} {xs : List V}, RpA K I xs (kvs.map Prod.snd) → RpK K I ((kvs.map Prod.fst).zip xs) (kvs.map fun p => (kD p.1, p.2))
  | [], _, h => by cases h; exact .nil
  | p :: kvs, _, h => by
    cases h with
    | cons a t => exact .cons a (RpK_of t)
theorem dic_imp {l : ML} : ∀ σ H Q, tE G W (eDic l) σ H Q → tDisp (l.map fun p => (tE G W p.1, tE G W p.2)) σ H Q := by
  rintro σ H Q ⟨w, μ, ρ, hl, he, p⟩
  intro a na
  obtain ⟨n1, n2, n3⟩ := hl.na na
  have lay0 := hl.other n1 n2 n3 (.dK [])
  obtain ⟨lp, layp⟩ := lay0.priv n1 n2 n3 upd_same
  refine prs_imp l σ _ _ ⟨w.priv a (.dK []), μ, ρ, layp, he.mono lp, ?_⟩
  unfold eDic at p
  cases e : prsM l ρ μ with
  | bad => rw [e] at p; exact p.elim
  | ex x μ1 => rw [e] at p; exact fun w' c d H' l' lay' r' => p w' c d H' (lp.trans l') lay' r'
  | ok ps μ1 =>
    rw [e] at p
    intro w1 vs H1 l1 lay1 r1
    have p : Pst G W σ (Rv G) w (dDicF ps μ1) Q := p
    unfold dDicF at p
    cases ea : allP ps with
    | none => rw [ea] at p; exact p.elim
    | some kvs =>
      rw [ea] at p
      have p : Pst G W σ (Rv G) w (if (kvs.map Prod.fst).Nodup ∧ kvs.length ≤ 15 then .ok (.d (dicOf kvs)) μ1 else .bad) Q := p
      by_cases hz : (kvs.map Prod.fst).Nodup ∧ kvs.length ≤ 15
      · rw [if_pos hz] at p
        obtain ⟨xs, ev, hlx, ra⟩ := allP_ok ea r1
        have hm : mergeK [] ((kvs.map Prod.fst).zip xs) = (kvs.map Prod.fst).zip xs := by
          refine mergeK_new _ [] ?_
          rw [List.nil_append, List.map_fst_zip (by rw [List.length_map]; omega)]
          exact hz.1
        obtain ⟨le2, lay2, e2, i2, a2⟩ := lay1.unp l1 n3 (.dK (mergeK [] ((kvs.map Prod.fst).zip xs)))
        obtain ⟨le3, lay3⟩ := lay2.stayO i2 a2 (if_pos rfl) upd_same
        refine ⟨e2, (kvs.map Prod.fst).zip xs, ev, by rw [List.length_zip, List.length_map]; omega, ?_⟩
        refine p _ (.ref a) _ (le2.trans le3) lay3 ?_
        refine .dic (kvs := (kvs.map Prod.fst).zip xs) ?_ (RpK.mono le3.1 _ _ (RpK_of ra))
        rw [hm]
        exact upd_same
      · rw [if_neg hz] at p; exact p.elim
end
/-- the written dict's parts -/
abbrev DPs (X : Cx) (G : GT) (W : WX) (pos : Pos) (ks : List (Option Expr)) (vs : List Expr) (l : ML) : Prop := PPs X pos ks vs (l.map fun p => (tE G W p.1, tE G W p.2))
section
variable {X : Cx} {G : GT} {W : WX} {pos : Pos}
theorem dp_nil : DPs X G W pos [] [] [] := pps_nil
theorem dp_cons {k v : Expr} {ks : List (Option Expr)} {vs : List Expr} {mk mv : ME} {l : ML} (hk : DE X G W k mk) (hv : DE X G W v mv) (hr : DPs X G W pos ks vs l) : DPs X G W pos (some k :: ks) (v :: vs) ((mk, mv) :: l) := pps_cons hk hv hr
theorem de_dic {ks : List (Option Expr)} {vs : List Expr} {l : ML} (h : DPs X G W pos ks vs l) (hall : ks.all (·.isSome) = true := by rfl) (hl : ks.length = vs.length := by rfl) (h0 : ks ≠ [] := by intro z; cases z) (h15 : ks.length ≤ 15 := by decide) : DE X G W (.Dict ks vs pos) (eDic l) := PE.imp (pe_disp h hall hl h0 h15) dic_imp
end
/-! ### d[k] -/
def findD : List (D × D) → Key → Option D
  | [], _ => none
  | (a, v) :: r, k => if keyOf a = some k then some v else findD r k
def dDGet : Op2 := fun x y μ => match x, y with
  | .d (.dict ps), .d k => match keyOf k with
    | some k => match findD ps k with
      | some v => .ok (.d v) μ
      | none => .bad
    | none => .bad
  | _, _ => .bad
theorem findD_ok {K : PySem.W.Frag} {I : Hp} {k : Key} {d : D} : ∀ {ps : List (D × D)} {kvs : List (Key × V)}, RpK K I kvs ps → findD ps k = some d → ∃ v, valV kvs k = some v ∧ Rp K I v d
  | [], _, r, h => by cases h
  | (a, e) :: ps, _, r, h => by
    cases r with
    | @cons k' v kvs _ _ a1 t =>
      unfold findD at h
      rw [keyOf_kD] at h
      by_cases hk : k' = k
      · rw [if_pos (by rw [hk])] at h
        cases h
        exact ⟨v, valV_pos hk, a1⟩
      · rw [if_neg (by intro q; cases q; exact hk rfl)] at h
        obtain ⟨u, h1, h2⟩ := findD_ok t h
        exact ⟨u, by rw [valV_neg hk]; exact h1, h2⟩
theorem de_dget {X : Cx} {G : GT} {W : WX} {o i : Expr} {mo mi : ME} {pos : Pos} (hu : X.A.units + 64 < cLine) (ho : DE X G W o mo) (hi : DE X G W i mi) (hs : NoSl i := by exact fun _ _ => rfl) : DE X G W (.Subscript o i pos) (e2 dDGet mo mi) := by
  refine PE.imp (pe_dget (by omega) ho hi hs) ?_
  rintro σ H Q ⟨w, μ, ρ, hl, he, p⟩
  refine tD.seq (k := fun ρ x μ => (mi ρ μ).bind fun y μ => dDGet x y μ) hl he p fun w1 μ1 H1 v b l1 lay1 en1 r1 p1 => ?_
  refine tD.seq (k := fun ρ y μ => dDGet b y μ) lay1 en1 p1 fun w2 μ2 H2 u c l2 lay2 en2 r2 p2 => ?_
  unfold dDGet at p2
  split at p2
  · rename_i ps k
    split at p2
    · rename_i k' hk
      split at p2
      · rename_i d hd
        have r1 : Rp G.K w1.I v (.dict ps) := r1
        have r2 : Rp G.K w2.I u k := r2
        rw [keyOf_eq hk] at r2
        rw [rp_key r2]
        cases r1 with
        | @dic a kvs _ e1 rk =>
          obtain ⟨x, h1, h2⟩ := findD_ok (RpK.mono l2.1 _ _ rk) hd
          refine ⟨a, x, rfl, ?_, p2 w2 _ H2 w2.le_refl lay2 h2⟩
          rw [← h1]
          exact DGet.k (lay2.same _ _ (l2.1 _ _ e1))
      · exact p2.elim
    · exact p2.elim
  · exact p2.elim
end DL

/-! dict comprehensions -/
namespace DL
open PySem PySem.Spec PyProof.Rows L2
def dcM (g : MG) (tt : MT) (tk tv : ME) (ρ : DEnv) : List (Key × D) → List Dv → Store → Out (List (Key × D))
  | acc, [], μ => .ok acc μ
  | acc, b :: bs, μ => (g b ρ μ).gb fun ρ' μ => (tt ρ' μ).gb fun k μ => if k = true then (tk ρ' μ).gb fun x μ => (tv ρ' μ).gb fun y μ => match x, y with
      | .d xk, .d y => match keyOf xk with
        | some k => if (acc.any fun p => decide (p.1 = k)) = true then .bad else dcM g tt tk tv ρ (acc ++ [(k, y)]) bs μ
        | none => .bad
      | _, _ => .bad
    else dcM g tt tk tv ρ acc bs μ
def eDc (mi : MI) (g : MG) (tt : MT) (tk tv : ME) (vs : List Nat) : ME := fun ρ μ => (mi ρ μ).bind fun bs μ => if bs.length ≤ sizeLine then (dcM g tt tk tv (wipeD ρ vs) [] bs μ).gb fun kvs μ => .ok (.d (dicOf kvs)) μ else .bad
def zK (acc : List (Key × D)) (us : List V) : List (Key × V) := (acc.map Prod.fst).zip us
theorem putK_zK {acc : List (Key × D)} {us : List V} {k : Key} {d : D} {v : V} (hl : us.length = acc.length) (hn : k ∉ acc.map Prod.fst) : putK (zK acc us) k v = zK (acc ++ [(k, d)]) (us ++ [v]) := by
  have hn' : ((zK acc us).any fun kv => decide (kv.1 = k)) = false := by
    rw [List.any_eq_false]
    intro q hq
    simp only [decide_eq_true_eq]
    intro e
    have := (List.of_mem_zip (a := q.1) (b := q.2) hq).1
    rw [e] at this
    exact hn this
  unfold putK
  rw [if_neg (by rw [hn']; simp)]
  unfold zK
  rw [List.map_append, List.zip_append (by rw [List.length_map]; exact hl.symm)]
  rfl
theorem RpA_snoc {K : PySem.W.Frag} {I : Hp} {v : V} {d : D} : ∀ {us : List V} {ds : List D}, RpA K I us ds → Rp K I v d → RpA K I (us ++ [v]) (ds ++ [d])
  | _, _, .nil, r => .cons r .nil
  | _, _, .cons a t, r => .cons a (RpA_snoc t r)
section
variable {X : Cx} {G : GT} {W : WX} {mi : MI} {g : MG} {tt : MT} {tk tv : ME} {S vs : List Nat}
theorem dc_imp (hS : ∀ i ∈ S, i ∈ vs) : ∀ σ H Q, tE G W (eDc mi g tt tk tv vs) σ H Q → tDc (tI G W mi) (tG G S g) (tT G W0 tt) (tE G W0 tk) (tE G W0 tv) vs σ H Q := by
  rintro σ H Q ⟨w, μ, ρ, hl, he, p⟩
  refine tD.seq (k := fun ρ bs μ => if bs.length ≤ sizeLine then (dcM g tt tk tv (wipeD ρ vs) [] bs μ).gb fun kvs μ => Out.ok (Dv.d (dicOf kvs)) μ else .bad) hl he p fun w1 μ1 H1 J bs l1 lay1 en1 it p1 => ?_
  intro a na
  by_cases hz : bs.length ≤ sizeLine
  case neg => rw [if_neg hz] at p1; exact p1.elim
  rw [if_pos hz] at p1
  obtain ⟨n1, n2, n3⟩ := lay1.na na
  refine ⟨fun i m H => m = bs.length - i ∧ i ≤ bs.length ∧ ∃ w2 μ2 us acc, w1.le w2 ∧ Lay G w2 μ2 H ∧ H a = some (.dK (zK acc us)) ∧ w2.I a = none ∧ a ∉ w2.α ∧ w2.F a = none ∧ us.length = acc.length ∧ RpA G.K w2.I us (acc.map Prod.snd) ∧ acc.length ≤ i ∧
    Pst G W σ (Rv G) w2 ((dcM g tt tk tv (wipeD ρ vs) acc (bs.drop i) μ2).gb fun kvs μ => Out.ok (Dv.d (dicOf kvs)) μ) Q, ⟨bs.length, by simp, Nat.zero_le _, w1, μ1, [], [], w1.le_refl, lay1.other n1 n2 n3 _, upd_same, n1, n2, n3, rfl, .nil, Nat.le_refl _, p1⟩, ?_⟩
  rintro i m H2 ⟨rfl, hi, w2, μ2, us, acc, l2, lay2, e2, i2, a2, f2, hu, r2, hacc, p2⟩
  by_cases hlt : i < bs.length
  · refine .inr ⟨it.go i w2 μ2 H2 hlt l2 lay2, fun H => ∃ w2 μ2 us acc, w1.le w2 ∧ Lay G w2 μ2 H ∧ H a = some (.dK (zK acc us)) ∧ w2.I a = none ∧ a ∉ w2.α ∧ w2.F a = none ∧ us.length = acc.length ∧ RpA G.K w2.I us (acc.map Prod.snd) ∧ acc.length ≤ i + 1 ∧
      Pst G W σ (Rv G) w2 ((dcM g tt tk tv (wipeD ρ vs) acc (bs.drop (i + 1)) μ2).gb fun kvs μ => Out.ok (Dv.d (dicOf kvs)) μ) Q, fun H' q => ⟨bs.length - (i + 1), by omega, rfl, hlt, q⟩, fun x H' y => ?_⟩
    have eb : bs[i]? = some bs[i] := by simp [hlt]
    obtain ⟨lp, layp⟩ := lay2.priv i2 a2 f2 e2
    obtain ⟨w3, l3, lay3, r3⟩ := it.yld i _ _ μ2 H2 x H' eb (l2.trans lp) layp y
    have en3 : EnvR G w3 (wipe σ vs) (wipeD ρ vs) := (en1.wipe vs).mono ((l2.trans lp).trans l3)
    refine ⟨w3, μ2, wipeD ρ vs, bs[i], lay3, en3, r3, ?_⟩
    rw [List.drop_eq_getElem_cons hlt] at p2
    unfold dcM at p2
    cases q : g bs[i] (wipeD ρ vs) μ2 with
    | bad => rw [q] at p2; exact p2.elim
    | ex _ _ => rw [q] at p2; exact p2.elim
    | ok ρ4 μ4 =>
      rw [q] at p2
      intro w4 σ4 H4 l4 lay4 en4 ag
      refine ⟨wipe_agr ag hS, w4, μ4, ρ4, lay4, en4, ?_⟩
      cases q5 : tt ρ4 μ4 with
      | bad => simp only [gb_ok, q5] at p2; exact p2.elim
      | ex _ _ => simp only [gb_ok, q5] at p2; exact p2.elim
      | ok k μ5 =>
        simp only [gb_ok, q5] at p2
        intro w5 v5 H5 l5 lay5 r5
        have r5 : v5 = k := r5
        subst r5
        have lw5 : (w2.priv a (.dK (zK acc us))).le w5 := (l3.trans l4).trans l5
        cases v5 with
        | false =>
          simp only [Bool.false_eq_true, if_false] at p2
          obtain ⟨le6, lay6, e6, i6, a6⟩ := lay5.unp lw5 f2 (.dK (zK acc us))
          have hH : upd H5 a (.dK (zK acc us)) = H5 := by
            funext b
            by_cases z : b = a
            · subst z; rw [upd_same, e6]
            · rw [upd_ne z]
          rw [hH] at lay6
          exact ⟨w5.unp a, μ5, us, acc, l2.trans le6, lay6, e6, i6, a6, if_pos rfl, hu, RpA.mono le6.1 _ _ r2, by omega, Pst.mono le6 p2⟩
        | true =>
          simp only [if_true] at p2
          refine ⟨w5, μ5, ρ4, lay5, en4.mono l5, ?_⟩
          cases q6 : tk ρ4 μ5 with
          | bad => rw [q6] at p2; exact p2.elim
          | ex _ _ => rw [q6] at p2; exact p2.elim
          | ok y μ6 =>
            rw [q6] at p2
            intro w6 v6 H6 l6 lay6 r6
            refine ⟨w6, μ6, ρ4, lay6, (en4.mono l5).mono l6, ?_⟩
            cases q7 : tv ρ4 μ6 with
            | bad => simp only [gb_ok, q7] at p2; exact p2.elim
            | ex _ _ => simp only [gb_ok, q7] at p2; exact p2.elim
            | ok y2 μ7 =>
              simp only [gb_ok, q7] at p2
              intro w7 v7 H7 l7 lay7 r7
              split at p2
              · rename_i xk y3
                cases hk : keyOf xk with
                | none => simp only [hk] at p2; exact p2.elim
                | some kk =>
                  simp only [hk] at p2
                  by_cases hn' : (acc.any fun p => decide (p.1 = kk)) = true
                  · rw [if_pos hn'] at p2; exact p2.elim
                  · rw [if_neg hn'] at p2
                    have hn : kk ∉ acc.map Prod.fst := fun hm => hn' (by
                      obtain ⟨q, hq, e⟩ := List.mem_map.mp hm
                      exact List.any_eq_true.mpr ⟨q, hq, decide_eq_true e⟩)
                    have r6 : Rp G.K w6.I v6 xk := r6
                    rw [keyOf_eq hk] at r6
                    obtain ⟨le8, lay8, e8, i8, a8⟩ := lay7.unp ((lw5.trans l6).trans l7) f2 (.dK (zK (acc ++ [(kk, y3)]) (us ++ [v7])))
                    refine ⟨zK acc us, kk, rp_key r6, e8, ?_, w7.unp a, μ7, us ++ [v7], acc ++ [(kk, y3)], l2.trans le8, ?_, ?_, i8, a8, if_pos rfl, by simp [hu], ?_, by simp; omega, Pst.mono le8 p2⟩
                    · unfold zK
                      rw [List.length_zip, List.length_map]
                      omega
                    · rw [putK_zK hu hn (d := y3)]; exact lay8
                    · rw [putK_zK hu hn (d := y3)]; exact upd_same
                    · rw [List.map_append]
                      exact RpA_snoc (RpA.mono le8.1 _ _ r2) r7
              · exact p2.elim
  · refine .inl ⟨it.stop i w2 μ2 H2 (by omega) l2 lay2, ?_⟩
    rw [List.drop_of_length_le (by omega)] at p2
    simp only [dcM, gb_ok] at p2
    obtain ⟨le3, lay3⟩ := lay2.stayO i2 a2 f2 e2
    exact p2 _ (.ref a) _ le3 lay3 (.dic (kvs := zK acc us) upd_same (RpK.mono le3.1 _ _ (RpK_of r2)))
theorem de_dc {kx vx tg iter : Expr} {ifs : List Expr} {scope : Scope} (own : List (Str × Nat)) {pos : Pos} (hc : X.calm = true) (hN : X.N.Nodup) (hi : DI X G W tg iter mi) (ok : BlkOk X.N X.env.scope scope own)
    (hg : ∀ (s : Shared) (H : Hp) (C : Addr) (cl : List (Str × Addr)) (fp : List Addr), DG (X.blk s H scope (compEnvC scope cl C X.env) fp) G S tg g) (ht : ∀ (s : Shared) (H : Hp) (C : Addr) (cl : List (Str × Addr)) (fp : List Addr), PTs (X.blk s H scope (compEnvC scope cl C X.env) fp) ifs (tT G W0 tt))
    (hk : ∀ (s : Shared) (H : Hp) (C : Addr) (cl : List (Str × Addr)) (fp : List Addr), DE (X.blk s H scope (compEnvC scope cl C X.env) fp) G W0 kx tk)
    (he : ∀ (s : Shared) (H : Hp) (C : Addr) (cl : List (Str × Addr)) (fp : List Addr), DE (X.blk s H scope (compEnvC scope cl C X.env) fp) G W0 vx tv) (hS : ∀ i ∈ S, i ∈ own.map (·.2) := by decide) (hs : ∀ x, foldedSetIterable iter X.env x = pure x := by intro _; rfl) :
    DE X G W (.DictComp kx vx [⟨tg, iter, ifs, 0⟩] scope pos) (eDc mi g tt tk tv (own.map (·.2))) := PE.imp (pe_dc hc hN hi ok hg ht hk he hs) (dc_imp hS)
end
end DL

/-! name op= e -/
namespace DL
open PySem PySem.Spec PyProof.Rows L2
/-- numbers, texts -/
def dIpAdd : Op2 := fun x y μ => match x, y with
  | .d (.int i), .d (.int j) => .ok (.d (.int (i + j))) μ
  | .d (.str a), .d (.str b) => if a.length + b.length ≤ sizeLine then .ok (.d (.str (a ++ b))) μ else .bad
  | _, _ => .bad
def rIpAdd : TIp := fun x y H Q => ipI (fun i j => i + j) x y H Q ∨ rAddS x y H Q
theorem ip_addA {X : Cx} : PIp X .Add rIpAdd := fun pins s σ H x y v u Q I r1 r2 h => h.elim (fun h => ip_add pins s σ H x y v u Q I r1 r2 h) fun h => in_addS pins s σ H x y v u Q I r1 r2 h
section
variable {X : Cx} {G : GT}
theorem ok_ipadd : OkIp G rIpAdd dIpAdd := by
  intro W σ w μ H x y b c Q l rx ry p
  unfold dIpAdd at p
  split at p
  · exact .inl ⟨_, _, rv_int rx, rv_int ry, p w _ H w.le_refl l (.int _)⟩
  · split at p
    · rename_i h
      exact .inr ⟨_, _, rv_str rx, rv_str ry, h, p w _ H w.le_refl l (.str _)⟩
    · exact p.elim
  · exact p.elim
theorem ok_ipsub : OkIp G (ipI fun i j => i - j) (dInt2 fun i j => .int (i - j)) := by
  intro W σ w μ H x y b c Q l rx ry p
  unfold dInt2 at p
  split at p
  · exact ⟨_, _, rv_int rx, rv_int ry, p w _ H w.le_refl l (.int _)⟩
  · exact p.elim
end
@[simp] theorem sAug_r {i : Nat} {f : Op2} {m : ME} {ρ : DEnv} {μ : Store} : sAug i m f ρ μ = match ρ[i]? with
  | some (some b) => (m ρ μ).bind fun y μ => (f b y μ).bind fun z μ => .ok (.nx (ρ.set i (some z))) μ
  | _ => .bad := id rfl
@[simp] theorem dIpAdd_ii {x y : Int} {μ : Store} : dIpAdd (.d (.int x)) (.d (.int y)) μ = .ok (.d (.int (x + y))) μ := id rfl

/-! ### y = {k: v for ..} -/
theorem ps_setDc {X : Cx} {i : Nat} {y : Str} {py : Pos} {kx vx tg iter : Expr} {ifs : List Expr} {scope : Scope} {own : List (Str × Nat)} {lpos spos : Pos} {wi : TI} {g : TG} {tt : TT} {tk tv : TE} (hc : X.calm = true) (hN : X.N.Nodup) (hy : X.N[i]? = some y) (hyl : X.env.scope.names.lookup y = some .local)
    (hsw : swapsWith (.DictComp kx vx [⟨tg, iter, ifs, 0⟩] scope lpos) (some (.Name y py)) spos.line X.env = pure true) (hi : PI X tg iter wi) (ok : BlkOk X.N X.env.scope scope own)
    (hg : ∀ (s : Shared) (H : Hp) (C : Addr) (cl : List (Str × Addr)) (fp : List Addr), PG (X.blk s H scope (compEnvC scope cl C X.env) fp) tg g) (ht : ∀ (s : Shared) (H : Hp) (C : Addr) (cl : List (Str × Addr)) (fp : List Addr), PTs (X.blk s H scope (compEnvC scope cl C X.env) fp) ifs tt)
    (hk : ∀ (s : Shared) (H : Hp) (C : Addr) (cl : List (Str × Addr)) (fp : List Addr), PE (X.blk s H scope (compEnvC scope cl C X.env) fp) kx tk)
    (he : ∀ (s : Shared) (H : Hp) (C : Addr) (cl : List (Str × Addr)) (fp : List Addr), PE (X.blk s H scope (compEnvC scope cl C X.env) fp) vx tv) (hs : ∀ x, foldedSetIterable iter X.env x = pure x := by intro _; rfl) :
    PS X (.Assign [.Name y py] (.DictComp kx vx [⟨tg, iter, ifs, 0⟩] scope lpos) spos) (tAsg (tDc wi g tt tk tv (own.map (·.2))) (gName i)) := by
  refine ⟨fun pins s σ H D I h => ?_⟩
  rw [exec_Assign_Name_used _ _ _ _ hsw]
  refine wpAny_bind (wpAny_standAt (wpAny_bind ?_))
  show wpAny _ X.A (do let _ ← comprehension (.DictComp kx vx [⟨tg, iter, ifs, 0⟩] scope lpos) scope X.env (firstIterPos [⟨tg, iter, ifs, 0⟩] lpos) newDict false (eval iter X.env) (some (assign (.Name y py) X.env))) _ _ s
  have h : tDc wi g tt tk tv (own.map (·.2)) σ H (fun x H1 => gName i x σ H1 D.nx) := h
  refine wpAny_bind (thn (dc_core (Qf := fun _ s' => SP X pins D .next s') hc hN I hi ok hg ht hk he hs h fun L C s' m H' I' q hn f => ?_) fun _ s' hq => wpAny_pure (wpAny_pure hq))
  show wpAny _ _ (assign (.Name y py) X.env (.ref L)) _ _ _
  refine wpAny_assign_Name (store_ok2 (v := V.ref L) I' hN hy (.inl hyl) rfl (fun s2 I2 ⟨a, sb, ha⟩ => ?_) (.inr hyl))
  obtain ⟨f0, f1, f2, f3, f4, f5⟩ := f
  have haC : C ≠ a := by
    rcases ha with z | z
    · rw [z]; exact f1
    · exact fun e => f4 y a z e.symm
  refine ⟨m, hn.sameBut sb haC, fun h3 sb3 => ?_⟩
  exact ⟨_, H', I2.turned (t' := s2.toks) (fun b o hb e => (sb3.2 b hb).trans e) f0 f1 f3 f4 f5, q⟩
theorem sw_trueD {kx vx : Expr} {gs : List Comprehension} {scope : Scope} {pos py : Pos} {y : Str} {l : Nat} {env : Env} (hk : env.scope.kind = .function) (hy : env.scope.names.lookup y = some .local) (hl : (py.line == pos.line) = true)
    (ha : (scope.names.any fun (n, k) => n == y && (k == .local || k == .cell)) = false) : swapsWith (.DictComp kx vx gs scope pos) (some (.Name y py)) l env = pure true := by
  have ky : env.kindOf y = some .local := hy
  have hb : env.blockKind = .function := by unfold Env.blockKind; rw [hk]; rfl
  unfold swapsWith
  simp only [hb, ky, ha, Expr.pos, hl]
  rfl
theorem ds_setDc {X : Cx} {G : GT} {W : WX} {S : List Nat} {i : Nat} {y : Str} {py : Pos} {kx vx tg iter : Expr} {ifs : List Expr} {scope : Scope} (own : List (Str × Nat)) {lpos spos : Pos} {mi : MI} {g : MG} {tt : MT} {tk tv : ME} (hc : X.calm = true) (hN : X.N.Nodup)
    (hi : DI X G W tg iter mi) (ok : BlkOk X.N X.env.scope scope own)
    (hg : ∀ (s : Shared) (H : Hp) (C : Addr) (cl : List (Str × Addr)) (fp : List Addr), DG (X.blk s H scope (compEnvC scope cl C X.env) fp) G S tg g) (ht : ∀ (s : Shared) (H : Hp) (C : Addr) (cl : List (Str × Addr)) (fp : List Addr), PTs (X.blk s H scope (compEnvC scope cl C X.env) fp) ifs (tT G W0 tt))
    (hk : ∀ (s : Shared) (H : Hp) (C : Addr) (cl : List (Str × Addr)) (fp : List Addr), DE (X.blk s H scope (compEnvC scope cl C X.env) fp) G W0 kx tk)
    (he : ∀ (s : Shared) (H : Hp) (C : Addr) (cl : List (Str × Addr)) (fp : List Addr), DE (X.blk s H scope (compEnvC scope cl C X.env) fp) G W0 vx tv)
    (hy : X.N[i]? = some y := by rfl) (hyl : X.env.scope.names.lookup y = some .local := by rfl) (hsw : swapsWith (.DictComp kx vx [⟨tg, iter, ifs, 0⟩] scope lpos) (some (.Name y py)) spos.line X.env = pure true := by exact sw_trueD rfl rfl rfl (by decide +kernel))
    (hS : ∀ i ∈ S, i ∈ own.map (·.2) := by decide) (hs : ∀ x, foldedSetIterable iter X.env x = pure x := by intro _; rfl) :
    DS X G W (.Assign [.Name y py] (.DictComp kx vx [⟨tg, iter, ifs, 0⟩] scope lpos) spos) (sSet i (eDc mi g tt tk tv (own.map (·.2)))) := by
  refine PS.imp (ps_setDc hc hN hy hyl hsw hi ok hg ht hk he hs) ?_
  rintro D σ H ⟨w, μ, ρ, hl, he, p⟩
  apply dc_imp hS
  exact tD.seqS (k := fun ρ b μ => .ok (.nx (ρ.set i (some b))) μ) hl he p fun w1 μ1 H1 v b l1 lay1 en1 r1 p1 => p1 w1 _ H1 w1.le_refl lay1 (en1.set i r1)
end DL

/-! Lists that change: append, extend, pop. -/
namespace DL
open PySem PySem.Spec PyProof.Rows L2
def isLst : Dv → Store → Bool
  | .c n, μ => match μ[n]? with
    | some (.lst _) => true
    | _ => false
  | _, _ => false
section
variable {G : GT}
theorem cell_lst {w : Wd} {μ : Store} {H : Hp} {n : Nat} {xs : List Dv} {v : V} (l : Lay G w μ H) (r : Rv G w v (.c n)) (e : μ[n]? = some (.lst xs)) : ∃ a vs, v = .ref a ∧ w.α[n]? = some a ∧ w.I a = none ∧ H a = some (.lst vs) ∧ Rvs G w vs xs := by
  obtain ⟨a, ha, rfl⟩ := r
  obtain ⟨h1, vs, h2, h3⟩ := l.at_ n _ a e ha
  exact ⟨a, vs, rfl, ha, h1, h2, h3⟩
theorem ty_lst : OkT G "list" isLst := by
  intro w μ H x b l r h
  unfold isLst at h
  split at h
  · rename_i n
    split at h
    · rename_i xs e
      obtain ⟨a, vs, rfl, _, _, h2, _⟩ := cell_lst l r e
      exact .inl ⟨rfl, vs, SqL.of h2⟩
    · cases h
  · cases h
theorem Rvs_app {w : Wd} : ∀ {vs us : List V} {bs cs : List Dv}, Rvs G w vs bs → Rvs G w us cs → Rvs G w (vs ++ us) (bs ++ cs)
  | _, _, _, _, .nil, h => h
  | _, _, _, _, .cons r t, h => .cons r (Rvs_app t h)
theorem Rvs_take {w : Wd} : ∀ {vs : List V} {bs : List Dv} (k : Nat), Rvs G w vs bs → Rvs G w (vs.take k) (bs.take k)
  | _, _, 0, _ => by simp; exact .nil
  | _, _, k + 1, .nil => .nil
  | _, _, k + 1, .cons r t => .cons r (Rvs_take k t)
def dAppend : Dv → OpN := fun x bs μ => match x, bs with
  | .c n, [b] => match μ[n]? with
    | some (.lst xs) => if xs.length < sizeLine then .ok (.d .none) (μ.set n (.lst (xs ++ [b]))) else .bad
    | _ => .bad
  | _, _ => .bad
theorem ok_append : OkM G rAppend dAppend := by
  intro W σ w μ H x xs b bs Q l r rr p
  unfold dAppend at p
  split at p
  · rename_i n y
    split at p
    · rename_i ys e
      split at p
      · rename_i hz
        obtain ⟨a, vs, rfl, ha, hI, h2, h3⟩ := cell_lst l r e
        cases rr with
        | @cons u _ us _ ru t =>
          cases t
          refine ⟨a, vs, _, rfl, rfl, h2, by rw [Paired.length h3]; exact hz, ?_⟩
          refine p w _ _ w.le_refl (l.write ha hI fun H' e' => ⟨hI, _, e', Rvs_app h3 (.cons ru .nil)⟩) .non
      · exact p.elim
    · exact p.elim
  · exact p.elim
def dPop : Dv → OpN := fun x bs μ => match x, bs with
  | .c n, [] => match μ[n]? with
    | some (.lst xs) => match xs[xs.length - 1]? with
      | some b => .ok b (μ.set n (.lst xs.dropLast))
      | none => .bad
    | _ => .bad
  | _, _ => .bad
theorem ok_pop : OkM G rPop dPop := by
  intro W σ w μ H x xs b bs Q l r rr p
  unfold dPop at p
  split at p
  · rename_i n
    split at p
    · rename_i ys e
      split at p
      · rename_i y hy
        obtain ⟨a, vs, rfl, ha, hI, h2, h3⟩ := cell_lst l r e
        cases rr
        obtain ⟨u, hu, ru⟩ := h3.at hy
        refine ⟨a, vs, u, rfl, rfl, h2, by rw [Paired.length h3]; exact hu, ?_⟩
        refine p w _ _ w.le_refl (l.write ha hI fun H' e' => ⟨hI, _, e', ?_⟩) ru
        rw [List.dropLast_eq_take, List.dropLast_eq_take, Paired.length h3]
        exact Rvs_take _ h3
      · exact p.elim
    · exact p.elim
  · exact p.elim
def dExtend : Dv → OpN := fun x bs μ => match x, bs with
  | .c n, [.c m] => match μ[n]?, μ[m]? with
    | some (.lst xs), some (.lst ys) => if xs.length + ys.length ≤ sizeLine then .ok (.d .none) (μ.set n (.lst (xs ++ ys))) else .bad
    | _, _ => .bad
  | _, _ => .bad
theorem ok_extend : OkM G rExtend dExtend := by
  intro W σ w μ H x xs b bs Q l r rr p
  unfold dExtend at p
  split at p
  · rename_i n m
    split at p
    · rename_i ys zs e1 e2
      split at p
      · rename_i hz
        obtain ⟨a, vs, rfl, ha, hI, h2, h3⟩ := cell_lst l r e1
        cases rr with
        | cons ru t =>
          cases t
          obtain ⟨a2, vs2, rfl, ha2, hI2, h22, h32⟩ := cell_lst l ru e2
          refine ⟨a, a2, vs, vs2, rfl, rfl, h2, h22, by rw [Paired.length h3, Paired.length h32]; exact hz, ?_⟩
          exact p w _ _ w.le_refl (l.write ha hI fun H' e' => ⟨hI, _, e', Rvs_app h3 h32⟩) .non
      · exact p.elim
    · exact p.elim
  · exact p.elim
end
end DL

/-! Walks over list cells, read as they stand at each turn. -/
namespace DL
open PySem PySem.Spec PyProof.Rows L2
def forC (g : MG) (mb : MS) (n : Nat) : Nat → Nat → DEnv → Store → Out Fl
  | 0, _, _, _ => .bad
  | k + 1, i, ρ, μ => match μ[n]? with
    | some (.lst xs) => match xs[i]? with
      | none => .ok (.nx ρ) μ
      | some b => (g b ρ μ).gb fun ρ μ => (mb ρ μ).bind fun f μ => match f with
        | .nx ρ => forC g mb n k (i + 1) ρ μ
        | .ct ρ => forC g mb n k (i + 1) ρ μ
        | .bk ρ => .ok (.nx ρ) μ
        | .rt v => .ok (.rt v) μ
    | _ => .bad
def forCb (g : MG) (mb : MS) (k : Nat) (b : Dv) (ρ : DEnv) (μ : Store) : Out Fl := match b with
  | .c n => forC g mb n k 0 ρ μ
  | _ => .bad
def sForC (mo : ME) (g : MG) (mb : MS) (k : Nat) : MS := fun ρ μ => (mo ρ μ).bind fun b μ => forCb g mb k b ρ μ
section
variable {X : Cx} {G : GT} {W : WX} {tg e : Expr} {body : List Stmt} {mo : ME} {g : MG} {mb : MS} {S : List Nat} {pos : Pos}
theorem forC_imp (hK : X.K = G.K) {k : Nat} : ∀ D σ H, tS G W (sForC mo g mb k) D σ H → tFor (iAny X.K (tE G W mo)) (tG G S g) (tS G W mb) D σ H := by
  rintro D σ H ⟨w, μ, ρ, hl, he, p⟩
  refine tD.seqS (k := fun ρ b μ => forCb g mb k b ρ μ) hl he p fun w1 μ1 H1 v b l1 lay1 en1 r1 p1 => ?_
  unfold forCb at p1
  split at p1
  · rename_i n
    obtain ⟨a, ha, rfl⟩ := r1
    cases k with
    | zero => exact p1.elim
    | succ k =>
      have hc0 : ∃ xs, μ1[n]? = some (.lst xs) := by
        unfold forC at p1
        split at p1
        · rename_i xs e; exact ⟨xs, e⟩
        · exact p1.elim
      obtain ⟨xs0, e0⟩ := hc0
      obtain ⟨h1, vs0, h2, h3⟩ := lay1.at_ n _ a e0 ha
      refine .inl ⟨a, rfl, ⟨vs0, SqL.of h2⟩, ?_⟩
      rw [hK]
      refine ⟨fun i m σ H => ∃ w2 μ2 ρ2 m', m = m' ∧ w1.le w2 ∧ Lay G w2 μ2 H ∧ EnvR G w2 σ ρ2 ∧ PstS G W w2 (forC g mb n m' i ρ2 μ2) D, ⟨k + 1, w1, μ1, ρ, _, rfl, w1.le_refl, lay1, en1, p1⟩, ?_⟩
      rintro i m σ2 H2 ⟨w2, μ2, ρ2, m', rfl, l2, lay2, en2, p2⟩
      cases m with
      | zero => exact p2.elim
      | succ m =>
        unfold forC at p2
        have ha2 : w2.α[n]? = some a := pre_get l2.2.1 ha
        split at p2
        · rename_i xs e2
          obtain ⟨g1, vs, g2, g3⟩ := lay2.at_ n _ a e2 ha2
          split at p2
          · rename_i hx
            have hlen : xs.length ≤ i := List.getElem?_eq_none_iff.mp hx
            refine .inl ⟨⟨vs, SqL.of g2, by rw [Paired.length g3]; exact hlen⟩, ?_⟩
            exact p2 w2 σ2 H2 w2.le_refl lay2 en2
          · rename_i b hb
            obtain ⟨u, hu, ru⟩ := g3.at hb
            refine .inr ⟨⟨vs, u, SqL.of g2, hu⟩, fun σ H => ∃ w3 μ3 ρ3, w1.le w3 ∧ Lay G w3 μ3 H ∧ EnvR G w3 σ ρ3 ∧ PstS G W w3 (forC g mb n m (i + 1) ρ3 μ3) D, fun σ' H' ⟨w3, μ3, ρ3, q1, q2, q3, q4⟩ => ⟨m, Nat.lt_succ_self _, w3, μ3, ρ3, m, rfl, q1, q2, q3, q4⟩, fun x H' y => ?_⟩
            obtain ⟨rfl, y⟩ := y
            have hx := y vs (SqL.of g2)
            rw [hu] at hx
            cases hx
            refine ⟨w2, μ2, ρ2, b, lay2, en2, ru, ?_⟩
            cases q : g b ρ2 μ2 with
            | bad => rw [q] at p2; exact p2.elim
            | ex _ _ => rw [q] at p2; exact p2.elim
            | ok ρ4 μ4 =>
              rw [q] at p2
              intro w4 σ4 H4 l4 lay4 en4 _
              refine ⟨w4, μ4, ρ4, lay4, en4, ?_⟩
              have p4 : PstS G W w4 ((mb ρ4 μ4).bind fun f μ => match f with
                | .nx ρ => forC g mb n m (i + 1) ρ μ
                | .ct ρ => forC g mb n m (i + 1) ρ μ
                | .bk ρ => .ok (.nx ρ) μ
                | .rt v => .ok (.rt v) μ) D := PstS.mono l4 p2
              have l14 : w1.le w4 := l2.trans l4
              cases q5 : mb ρ4 μ4 with
              | bad => rw [q5] at p4; exact p4.elim
              | ex e μ5 => rw [q5] at p4; exact p4
              | ok f μ5 =>
                rw [q5] at p4
                cases f with
                | nx ρ5 => exact fun w5 σ5 H5 l5 lay5 en5 => ⟨w5, μ5, ρ5, l14.trans l5, lay5, en5, PstS.mono l5 p4⟩
                | ct ρ5 => exact fun w5 σ5 H5 l5 lay5 en5 => ⟨w5, μ5, ρ5, l14.trans l5, lay5, en5, PstS.mono l5 p4⟩
                | bk ρ5 => exact p4
                | rt v => exact p4
        · exact p2.elim
  · exact p1.elim
theorem ds_forC (k : Nat) (hp : PassesOwn (model X.prog X.w) X.A X.env X.xe) (hc : X.calm = true) (hK : X.K = G.K) (he : DE X G W e mo) (hg : DG X G S tg g) (hb : DSs X G W body mb)
    (hs : ∀ x, foldedSetIterable e X.env x = pure x := by intro _; rfl) : DS X G W (.For tg e body [] pos) (sForC mo g mb k) := PS.imp (ps_for hp hc (pi_any he) hg hb hs) (forC_imp hK)
end
end DL

/-! Comprehensions over list cells, read as they stand at each turn. -/
namespace DL
open PySem PySem.Spec PyProof.Rows L2
def lcC (g : MG) (tt : MT) (te : ME) (ρ : DEnv) (n : Nat) : Nat → Nat → Store → Out (List Dv)
  | 0, _, _ => .bad
  | k + 1, i, μ => match μ[n]? with
    | some (.lst xs) => match xs[i]? with
      | none => .ok [] μ
      | some b => (g b ρ μ).gb fun ρ' μ => (tt ρ' μ).gb fun t μ => if t = true then (te ρ' μ).gb fun y μ => (lcC g tt te ρ n k (i + 1) μ).gb fun ys μ => .ok (y :: ys) μ else lcC g tt te ρ n k (i + 1) μ
    | _ => .bad
def lcCb (fin : OpN) (g : MG) (tt : MT) (te : ME) (vs : List Nat) (k : Nat) (ρ : DEnv) (b : Dv) (μ : Store) : Out Dv := match b with
  | .c n => if k ≤ sizeLine then (lcC g tt te (wipeD ρ vs) n k 0 μ).gb fin else .bad
  | _ => .bad
def eLcC (fin : OpN) (mo : ME) (g : MG) (tt : MT) (te : ME) (vs : List Nat) (k : Nat) : ME := fun ρ μ => (mo ρ μ).bind fun b μ => lcCb fin g tt te vs k ρ b μ
section
variable {X : Cx} {G : GT} {W : WX} {mo : ME} {g : MG} {tt : MT} {te : ME} {S vs : List Nat} {fin : OpN}
/-- what a comprehension's walk asks -/
def LCK (G : GT) (S : List Nat) (g : MG) (tt : MT) (te : ME) (vs : List Nat) (σ : L2.St) (Q : VK) (J : It) (H1 : Hp) : Prop := ∀ D, H1 D = none → ∃ W : Nat → Nat → Hp → Prop, (∃ m, W 0 m (upd H1 D (.lst []))) ∧ ∀ i m H, W i m H → (J.stop i H ∧ Q (.ref D) H) ∨ (J.go i H ∧ ∃ Nx : Hp → Prop, (∀ H', Nx H' → ∃ m', m' < m ∧ W (i + 1) m' H') ∧
      ∀ x H', J.yld i H x H' → tG G S g x (L2.wipe σ vs) H' fun σ2 H2 => L2.wipe σ2 vs = L2.wipe σ vs ∧ tT G W0 tt σ2 H2 fun b H3 => if b = true then tE G W0 te σ2 H3 fun y H4 => ∃ acc, H4 D = some (.lst acc) ∧ acc.length < sizeLine ∧ Nx (upd H4 D (.lst (acc ++ [y]))) else Nx H3)
theorem lcC_kern (hK : X.K = G.K) (hf : OkFin G fin) (hS : ∀ i ∈ S, i ∈ vs) {k : Nat} {σ : L2.St} {Q : VK} {w1 : Wd} {μ1 : Store} {H1 : Hp} {v : V} {b : Dv} {ρ : DEnv} (lay1 : Lay G w1 μ1 H1) (en1 : EnvR G w1 σ ρ) (r1 : Rv G w1 v b) (p1 : Pst G W σ (Rv G) w1 (lcCb fin g tt te vs k ρ b μ1) Q) :
    (∃ a, v = .ref a ∧ (∃ xs, SqL X.K H1 a xs) ∧ LCK G S g tt te vs σ Q (Itl X.K a) H1) ∨ (∃ a, v = .ref a ∧ (∃ xs, SqT X.K H1 a xs) ∧ LCK G S g tt te vs σ Q (Itt X.K a) H1) ∨ ∃ z, v = .str z ∧ LCK G S g tt te vs σ Q (Its z) H1 := by
  unfold lcCb at p1
  split at p1
  case h_2 => exact p1.elim
  rename_i n
  by_cases hz : k ≤ sizeLine
  case neg => rw [if_neg hz] at p1; exact p1.elim
  rw [if_pos hz] at p1
  obtain ⟨c, hc, rfl⟩ := r1
  cases k with
  | zero => exact p1.elim
  | succ k =>
  have hc0 : ∃ xs, μ1[n]? = some (.lst xs) := by
    unfold lcC at p1
    split at p1
    · rename_i xs e; exact ⟨xs, e⟩
    · exact p1.elim
  obtain ⟨xs0, e0⟩ := hc0
  obtain ⟨h1, vs0, h2, h3⟩ := lay1.at_ n _ c e0 hc
  refine .inl ⟨c, rfl, ⟨vs0, SqL.of h2⟩, ?_⟩
  rw [hK]
  intro a na
  obtain ⟨n1, n2, n3⟩ := lay1.na na
  refine ⟨fun i m H => ∃ m' w2 μ2 us acc, m = m' ∧ i + m' = k + 1 ∧ w1.le w2 ∧ Lay G w2 μ2 H ∧ H a = some (.lst us) ∧ w2.I a = none ∧ a ∉ w2.α ∧ w2.F a = none ∧ Rvs G w2 us acc ∧ acc.length ≤ i ∧
    Pst G W σ (Rv G) w2 ((lcC g tt te (wipeD ρ vs) n m' i μ2).gb fun ys μ => fin (acc ++ ys) μ) Q, ⟨k + 1, _, w1, μ1, [], [], rfl, by omega, w1.le_refl, lay1.other n1 n2 n3 _, upd_same, n1, n2, n3, .nil, Nat.le_refl _, p1⟩, ?_⟩
  rintro i m H2 ⟨m', w2, μ2, us, acc, rfl, him, l2, lay2, e2, i2, a2, f2, r2, hacc, p2⟩
  cases m with
  | zero => exact p2.elim
  | succ m =>
  unfold lcC at p2
  have hc2 : w2.α[n]? = some c := pre_get l2.2.1 hc
  split at p2
  case h_2 => exact p2.elim
  rename_i xs ex
  obtain ⟨g1, vs1, g2, g3⟩ := lay2.at_ n _ c ex hc2
  split at p2
  · rename_i hx
    have hlen : xs.length ≤ i := List.getElem?_eq_none_iff.mp hx
    refine .inl ⟨⟨vs1, SqL.of g2, by rw [Paired.length g3]; exact hlen⟩, ?_⟩
    simp only [gb_ok, List.append_nil] at p2
    exact hf W σ w2 μ2 H2 a us acc Q lay2 i2 a2 f2 e2 r2 p2
  · rename_i b hb
    obtain ⟨u, hu, ru⟩ := g3.at hb
    refine .inr ⟨⟨vs1, u, SqL.of g2, hu⟩, fun H => ∃ w2 μ2 us acc, w1.le w2 ∧ Lay G w2 μ2 H ∧ H a = some (.lst us) ∧ w2.I a = none ∧ a ∉ w2.α ∧ w2.F a = none ∧ Rvs G w2 us acc ∧ acc.length ≤ i + 1 ∧
      Pst G W σ (Rv G) w2 ((lcC g tt te (wipeD ρ vs) n m (i + 1) μ2).gb fun ys μ => fin (acc ++ ys) μ) Q, fun H' q => ?_, fun x H' y => ?_⟩
    · obtain ⟨w3, μ3, us3, acc3, q1, q2, q3, q4, q5, q6, q7, q8, q9⟩ := q
      exact ⟨m, Nat.lt_succ_self _, m, w3, μ3, us3, acc3, rfl, by omega, q1, q2, q3, q4, q5, q6, q7, q8, q9⟩
    · obtain ⟨rfl, y⟩ := y
      have hx := y vs1 (SqL.of g2)
      rw [hu] at hx
      cases hx
      obtain ⟨lp, layp⟩ := lay2.priv i2 a2 f2 e2
      have en3 : EnvR G (w2.priv a (.lst us)) (wipe σ vs) (wipeD ρ vs) := (en1.wipe vs).mono (l2.trans lp)
      refine ⟨w2.priv a (.lst us), μ2, wipeD ρ vs, b, layp, en3, ru.mono lp, ?_⟩
      cases q : g b (wipeD ρ vs) μ2 with
      | bad => rw [q] at p2; exact p2.elim
      | ex _ _ => rw [q] at p2; exact p2.elim
      | ok ρ4 μ4 =>
        rw [q] at p2
        intro w4 σ4 H4 l4 lay4 en4 ag
        refine ⟨wipe_agr ag hS, w4, μ4, ρ4, lay4, en4, ?_⟩
        cases q5 : tt ρ4 μ4 with
        | bad => simp only [gb_ok, q5] at p2; exact p2.elim
        | ex _ _ => simp only [gb_ok, q5] at p2; exact p2.elim
        | ok t μ5 =>
          simp only [gb_ok, q5] at p2
          intro w5 v5 H5 l5 lay5 r5
          have r5 : v5 = t := r5
          subst r5
          have lw5 : (w2.priv a (.lst us)).le w5 := l4.trans l5
          cases v5 with
          | false =>
            simp only [Bool.false_eq_true, if_false] at p2
            obtain ⟨le6, lay6, e6, i6, a6⟩ := lay5.unp lw5 f2 (.lst us)
            have hH : upd H5 a (.lst us) = H5 := by
              funext b
              by_cases z : b = a
              · subst z; rw [upd_same, e6]
              · rw [upd_ne z]
            rw [hH] at lay6
            exact ⟨w5.unp a, μ5, us, acc, l2.trans le6, lay6, e6, i6, a6, if_pos rfl, r2.mono le6, by omega, Pst.mono le6 p2⟩
          | true =>
            simp only [if_true] at p2
            refine ⟨w5, μ5, ρ4, lay5, en4.mono l5, ?_⟩
            cases q6 : te ρ4 μ5 with
            | bad => rw [q6] at p2; exact p2.elim
            | ex _ _ => rw [q6] at p2; exact p2.elim
            | ok y μ6 =>
              rw [q6] at p2
              intro w6 v6 H6 l6 lay6 r6
              obtain ⟨le7, lay7, e7, i7, a7⟩ := lay6.unp (lw5.trans l6) f2 (.lst (us ++ [v6]))
              refine ⟨us, e7, by rw [Paired.length r2]; omega, w6.unp a, μ6, us ++ [v6], acc ++ [y], l2.trans le7, lay7, upd_same, i7, a7, if_pos rfl, ?_, by simp; omega, ?_⟩
              · exact Rvs_app (r2.mono le7) (.cons (Rv.cong rfl rfl r6) .nil)
              · have p3 := Pst.mono le7 p2
                cases q7 : lcC g tt te (wipeD ρ vs) n m (i + 1) μ6 with
                | bad => simp only [gb_ok, q7] at p3; exact p3.elim
                | ex _ _ => simp only [gb_ok, q7] at p3; exact p3.elim
                | ok ys μ7 =>
                  simp only [gb_ok, q7] at p3
                  simp only [gb_ok, List.append_assoc, List.singleton_append]
                  exact p3
theorem lcC_imp (hK : X.K = G.K) (hf : OkFin G fin) (hS : ∀ i ∈ S, i ∈ vs) {k : Nat} : ∀ σ H Q, tE G W (eLcC fin mo g tt te vs k) σ H Q → tLc (iAny X.K (tE G W mo)) (tG G S g) (tT G W0 tt) (tE G W0 te) vs σ H Q := by
  rintro σ H Q ⟨w, μ, ρ, hl, he, p⟩
  refine tD.seq (k := fun ρ b μ => lcCb fin g tt te vs k ρ b μ) hl he p fun w1 μ1 H1 v b l1 lay1 en1 r1 p1 => ?_
  exact lcC_kern hK hf hS lay1 en1 r1 p1
theorem de_lcC {elt tg e : Expr} {ifs : List Expr} {scope : Scope} (own : List (Str × Nat)) {pos : Pos} (k : Nat) (hf : OkFin G fin) (hc : X.calm = true) (hN : X.N.Nodup) (hK : X.K = G.K) (hi : DE X G W e mo) (ok : BlkOk X.N X.env.scope scope own)
    (hg : ∀ (s : Shared) (H : Hp) (C : Addr) (cl : List (Str × Addr)) (fp : List Addr), DG (X.blk s H scope (compEnvC scope cl C X.env) fp) G S tg g) (ht : ∀ (s : Shared) (H : Hp) (C : Addr) (cl : List (Str × Addr)) (fp : List Addr), PTs (X.blk s H scope (compEnvC scope cl C X.env) fp) ifs (tT G W0 tt))
    (he : ∀ (s : Shared) (H : Hp) (C : Addr) (cl : List (Str × Addr)) (fp : List Addr), DE (X.blk s H scope (compEnvC scope cl C X.env) fp) G W0 elt te) (hS : ∀ i ∈ S, i ∈ own.map (·.2) := by decide) (hs : ∀ x, foldedSetIterable e X.env x = pure x := by intro _; rfl) :
    DE X G W (.ListComp elt [⟨tg, e, ifs, 0⟩] scope pos) (eLcC fin mo g tt te (own.map (·.2)) k) := PE.imp (pe_lc hc hN (pi_any hi) ok hg ht he hs) (lcC_imp hK hf hS)
theorem ds_setLcC {i : Nat} {y : Str} {py : Pos} {elt tg e : Expr} {ifs : List Expr} {scope : Scope} (own : List (Str × Nat)) {lpos spos : Pos} (k : Nat) (hf : OkFin G fin) (hc : X.calm = true) (hN : X.N.Nodup) (hK : X.K = G.K) (hi : DE X G W e mo) (ok : BlkOk X.N X.env.scope scope own)
    (hg : ∀ (s : Shared) (H : Hp) (C : Addr) (cl : List (Str × Addr)) (fp : List Addr), DG (X.blk s H scope (compEnvC scope cl C X.env) fp) G S tg g) (ht : ∀ (s : Shared) (H : Hp) (C : Addr) (cl : List (Str × Addr)) (fp : List Addr), PTs (X.blk s H scope (compEnvC scope cl C X.env) fp) ifs (tT G W0 tt))
    (he : ∀ (s : Shared) (H : Hp) (C : Addr) (cl : List (Str × Addr)) (fp : List Addr), DE (X.blk s H scope (compEnvC scope cl C X.env) fp) G W0 elt te)
    (hy : X.N[i]? = some y := by rfl) (hyl : X.env.scope.names.lookup y = some .local := by rfl) (hsw : swapsWith (.ListComp elt [⟨tg, e, ifs, 0⟩] scope lpos) (some (.Name y py)) spos.line X.env = pure true := by exact sw_true rfl rfl rfl (by decide +kernel))
    (hS : ∀ i ∈ S, i ∈ own.map (·.2) := by decide) (hs : ∀ x, foldedSetIterable e X.env x = pure x := by intro _; rfl) :
    DS X G W (.Assign [.Name y py] (.ListComp elt [⟨tg, e, ifs, 0⟩] scope lpos) spos) (sSet i (eLcC fin mo g tt te (own.map (·.2)) k)) := by
  refine PS.imp (ps_setLc hc hN hy hyl hsw (pi_any hi) ok hg ht he hs) ?_
  rintro D σ H ⟨w, μ, ρ, hl, he, p⟩
  apply lcC_imp hK hf hS
  exact tD.seqS (k := fun ρ b μ => .ok (.nx (ρ.set i (some b))) μ) hl he p fun w1 μ1 H1 v b l1 lay1 en1 r1 p1 => p1 w1 _ H1 w1.le_refl lay1 (en1.set i r1)
end
end DL

/-! tuple(x), list(x) of lists, tuples, cells. -/
namespace DL
open PySem PySem.Spec PyProof.Rows L2
def dToTup : Op1 := fun x μ => match itemsT x with
  | some _ => .ok x μ
  | none => match items x μ with
    | some bs => dTup bs μ
    | none => .bad
def dToList (fin : OpN) : OpN := n1 fun b μ => match itemsA b μ with
  | some bs => fin bs μ
  | none => .bad
section
variable {X : Cx} {G : GT} {W : WX} {a : Expr} {m : ME} {p pos : Pos}
def kTupS (K : PySem.W.Frag) (x : V) (H : Hp) (Q : VK) : Prop :=
  (∃ p xs, x = .ref p ∧ SqL K H p xs ∧ ∀ q its, H q = none → Q (.ref q) (upd H q (frT its xs))) ∨ (∃ p xs, x = .ref p ∧ SqT K H p xs ∧ Q (.ref p) H)
theorem rl_tupleS (pins : List (Addr × Obj)) (s : Shared) (σ : L2.St) (H : Hp) (x : V) (v : Value) (Q : VK) (I : Inv X pins σ H s) (r : RelV x v) (h : kTupS X.K x H Q) :
    wpAny (model X.prog X.w) X.A (call (.type "tuple") [v]) (EP X pins σ Q) X.xe s := by
  rcases h with ⟨p, xs, rfl, hs, q⟩ | h
  · obtain rfl : v = .ref p := r
    obtain ⟨its, rv, pl, hz⟩ := I.list hs
    refine call_tuple_list pl.isList (fun h' hk => ?_) (by rw [List.size_toArray, ← rv.length]; exact hz)
    have I1 : Inv X pins σ H { s with heap := h' } := I.kept (t' := s.toks) hk
    have I2 : Inv X pins σ (upd H h'.objs.size (frT its.toArray xs)) { s with heap := h'.push { cls := .type "tuple", data := .seq its.toArray } } :=
      I1.laid (t' := s.toks) (fun b o e => Heap.get?_push_of_some _ e) (Nat.le_refl _) (frT_ok hz rv (Heap.get?_push_size _ rfl))
    exact ⟨.ref h'.objs.size, _, I2, rfl, q _ _ (I1.hok.fresh (Nat.le_refl _))⟩
  · exact rl_tuple pins s σ H x v Q I r (.inr h)
theorem pe_tupleOfS {a : Expr} {ta : TE} {p pos : Pos} (hg : Gl X "tuple") (hm : X.mg "tuple" = none) (ha : PE X a ta) (na : starEach [a] X.env = (false, eval a X.env) :: starEach [] X.env := by rfl) :
    PE X (.Call (.Name "tuple" p) [a] [] pos) (tThen ta (kTupS X.K)) := by
  refine ⟨fun pins s σ H Q I h => ?_⟩
  exact Call_ (ld_blt I hg hm boot_tuple (PyProof.Rows.callWith_type1 (one_arg ha I h (fun v s2 x H2 I2 r q => rl_tupleS pins s2 σ H2 x v Q I2 r q) na) na))
theorem de_tupleOf (hK : X.K = G.K) (hg : Gl X "tuple") (hm : X.mg "tuple" = none) (ha : DE X G W a m) (na : starEach [a] X.env = (false, eval a X.env) :: starEach [] X.env := by rfl) : DE X G W (.Call (.Name "tuple" p) [a] [] pos) (e1 dToTup m) := by
  refine PE.imp (pe_tupleOfS hg hm ha na) ?_
  rintro σ H Q ⟨w, μ, ρ, hl, he, pp⟩
  refine tD.seq (k := fun ρ x μ => dToTup x μ) hl he pp fun w1 μ1 H1 v b l1 lay1 en1 r1 p1 => ?_
  unfold dToTup at p1
  split at p1
  · rename_i bs e
    unfold itemsT at e
    split at e
    · rename_i ds
      cases e
      obtain ⟨c, vs, rfl, h1, h2⟩ := rv_tup r1
      exact .inr ⟨c, vs, rfl, by rw [hK]; exact seqT lay1.same h1, p1 w1 _ H1 w1.le_refl lay1 r1⟩
    · cases e
  · split at p1
    · rename_i bs e
      obtain ⟨c, vs, rfl, h1, h2⟩ := items_ok lay1 r1 e
      obtain ⟨_, q⟩ := tup_new lay1 h2 p1
      exact .inl ⟨c, vs, rfl, by rw [hK]; exact h1, q⟩
    · exact p1.elim
def rListOf (K : PySem.W.Frag) : List V → Hp → VK → Prop := fun xs H Q => ∃ p ys, xs = [.ref p] ∧ (SqL K H p ys ∨ SqT K H p ys) ∧ ∀ l, H l = none → Q (.ref l) (upd H l (.lst ys))
theorem ok_listOf : OkN G (rListOf G.K) (dToList dList) := by
  apply ok_n1
  intro W σ w μ H x b Q l r p
  split at p
  · rename_i bs e
    obtain ⟨c, vs, rfl, h1, h2⟩ := itemsA_ok l r e
    exact ⟨c, vs, rfl, h1, (list_new l h2 p).2⟩
  · exact p.elim
theorem ok_listOfC : OkN G (rListOf G.K) (dToList cList) := by
  apply ok_n1
  intro W σ w μ H x b Q l r p
  split at p
  · rename_i bs e
    obtain ⟨c, vs, rfl, h1, h2⟩ := itemsA_ok l r e
    exact ⟨c, vs, rfl, h1, (list_cell l h2 p).2⟩
  · exact p.elim
theorem call_listOf : CallR X (.type "list") (rListOf X.K) := call_list_of
end
end DL

/-! for over enumerate of a list cell. -/
namespace DL
open PySem PySem.Spec PyProof.Rows L2
def forE (g : MG) (mb : MS) (n : Nat) : Nat → Nat → DEnv → Store → Out Fl
  | 0, _, _, _ => .bad
  | k + 1, i, ρ, μ => match μ[n]? with
    | some (.lst xs) => match xs[i]? with
      | none => .ok (.nx ρ) μ
      | some (.d x) => (g (.d (.tuple [.int i, x])) ρ μ).gb fun ρ μ => (mb ρ μ).bind fun f μ => match f with
        | .nx ρ => forE g mb n k (i + 1) ρ μ
        | .ct ρ => forE g mb n k (i + 1) ρ μ
        | .bk ρ => .ok (.nx ρ) μ
        | .rt v => .ok (.rt v) μ
      | some _ => .bad
    | _ => .bad
def forEb (g : MG) (mb : MS) (k : Nat) (b : Dv) (ρ : DEnv) (μ : Store) : Out Fl := match b with
  | .c n => forE g mb n k 0 ρ μ
  | _ => .bad
def sForE (mo : ME) (g : MG) (mb : MS) (k : Nat) : MS := fun ρ μ => (mo ρ μ).bind fun b μ => forEb g mb k b ρ μ
end DL

/-! a comprehension's list as a cell; calls of defs without arguments -/
namespace DL
open PySem PySem.Spec PyProof.Rows L2
theorem Lay.adopt {G : GT} {w : Wd} {μ : Store} {H : Hp} (l : Lay G w μ H) {p : Addr} (h1 : w.I p = none) (h2 : p ∉ w.α) (h3 : w.F p = none) {o : HO} {c : Cell} (e0 : H p = some o) (hc : ∀ H', H' p = some o → CellAt G (w.ext p) H' p c) : w.le (w.ext p) ∧ Lay G (w.ext p) (μ ++ [c]) H := by
  have l2 := l
  refine ⟨⟨Same.refl _, List.prefix_append _ _, Same.refl _⟩, l2.same, by simp [l2.len], ?_, fun a ha => ?_, l2.fr, fun a ha => ?_, l2.di, fun n c' a e q => ?_⟩
  · refine List.nodup_append.mpr ⟨l.nd, by simp, fun a ha b hb => ?_⟩
    simp at hb
    subst hb
    exact ne_mem ha h2
  · rcases List.mem_append.mp ha with ha | ha
    · exact l2.lv a ha
    · simp at ha; subst ha; exact ⟨o, e0⟩
  · rcases List.mem_append.mp ha with ha | ha
    · exact l2.fd a ha
    · simp at ha; subst ha; exact h3
  · by_cases hn : n < μ.length
    · rw [List.getElem?_append_left hn] at e
      have q : (w.α ++ [p])[n]? = some a := q
      rw [List.getElem?_append_left (by rw [l.len]; exact hn)] at q
      exact CellAt.cong (w := w) (w' := w.ext p) (fun z => z) ⟨Same.refl _, List.prefix_append _ _⟩ rfl (l2.at_ n c' a e q)
    · have hn' : n = μ.length := by
        have := (List.getElem?_eq_some_iff.mp e).1
        simp at this
        omega
      subst hn'
      have q : (w.α ++ [p])[μ.length]? = some a := q
      rw [← l.len, List.getElem?_append_right (Nat.le_refl _)] at q
      rw [List.getElem?_append_right (Nat.le_refl _)] at e
      simp at q e
      subst q e
      exact hc _ e0
theorem fin_cell {G : GT} : OkFin G cList := by
  intro W σ w μ H a vs bs Q l h1 h2 h3 e r p
  unfold cList at p
  by_cases z : bs.length ≤ sizeLine
  · rw [if_pos z] at p
    have le0 : w.le (w.ext a) := ⟨Same.refl _, List.prefix_append _ _, Same.refl _⟩
    obtain ⟨le, l2⟩ := l.adopt (c := .lst bs) h1 h2 h3 e (fun H' e' => ⟨h1, vs, e', Rvs.mono le0 r⟩)
    refine p _ (.ref a) _ le l2 ⟨a, ?_, rfl⟩
    show (w.α ++ [a])[μ.length]? = some a
    rw [← l.len]
    simp
  · rw [if_neg z] at p
    exact p.elim
theorem de_calC0 {X : Cx} {G : GT} {W : WX} {k : Nat} {x : Str} {kb : List (List Str × List Nat)} {F : OpN} {p pos : Pos} (hK : X.K = G.K) (C : Cal X.prog X.w G X.mg X.base x k [] kb F) (g : X.A.guards = some []) (hr : Room k X.A) (tk : Takes X W) (hg : Gl X x) (hdb : (x == ("__debug__" : Str)) = false := by decide) : DE X G W (.Call (.Name x p) [] [] pos) (eN (fCall 0 F) aNil) := by
  obtain ⟨f, fd, h1, h2, h3, h4, _⟩ := C.ex
  rw [← hK] at h1 h3 h4
  apply PE.imp (t := tCallSD (spD G 0 F) [] (WE W) (tA G W aNil)) _ call_imp
  constructor
  intro pins s σ H Q I h
  apply wpAny_Call_Name_kw
  apply ld_glob I hg h2 _ hdb
  apply PySem.W.callWith_K0 I.kIn h3
  obtain ⟨w, μ, ρ, hl, he, pp⟩ := h
  have q : spD G 0 F [] H Q (WE W σ) := pp w [] H w.le_refl hl .nil
  have hb1 := h4 s [] I.kIn rfl
  apply wpAny_call
  apply codeAny_mono (runG h1 g hr (fun _ _ _ _ _ I c => passAt tk σ _ _ _ _ _ I c) I hb1 .nil q)
  rintro (e | fl) s' q
  · exact q
  · cases fl with
    | ret u => exact q
    | next => exact q.elim
    | brk => exact q.elim
    | cont => exact q.elim
end DL

/-! sorted(xs) of data that are alike, of any kind. -/
namespace DL
open PySem PySem.Spec PyProof.Rows L2
open PySem.W (EachIs AllAlike Sortable dataLe alike)
abbrev srt (ds : List D) : List D := ds.mergeSort (dataLe false id)
abbrev srtZ (zs : List (V × D)) : List (V × D) := zs.mergeSort (dataLe false Prod.snd)
theorem srtZ_snd (zs : List (V × D)) : (srtZ zs).map Prod.snd = srt (zs.map Prod.snd) := PySem.W.sort_maps Prod.snd fun _ _ _ _ => rfl
theorem srt_perm (ds : List D) : (srt ds).Perm ds := List.mergeSort_perm ds _
theorem srt_mem {ds : List D} {d : D} : d ∈ srt ds ↔ d ∈ ds := (srt_perm ds).mem_iff
theorem srt_len (ds : List D) : (srt ds).length = ds.length := (srt_perm ds).length_eq
def tupD : D → Bool
  | .tuple (_ :: _) => true
  | _ => false
def soloD : D → Bool
  | .tuple _ => false
  | .none => false
  | _ => true
/-- such a list can be sorted -/
def canSort (ds : List D) : Bool := (ds.all fun d => ds.all fun e => alike d e) && (ds.all tupD || ds.all soloD) && (ds.all fun d => decide (d.depth ≤ 40)) && nodicts ds
theorem canSort_ok {ds : List D} (h : canSort ds = true) : AllAlike ds ∧ Sortable ds ∧ (∀ d ∈ ds, d.depth ≤ 40) ∧ nodicts ds = true := by
  unfold canSort at h
  simp only [Bool.and_eq_true, Bool.or_eq_true, List.all_eq_true, decide_eq_true_eq] at h
  obtain ⟨⟨⟨h1, h2⟩, h3⟩, h4⟩ := h
  refine ⟨h1, ?_, h3, h4⟩
  rcases h2 with h2 | h2
  · left
    intro d hd
    have q := h2 d hd
    unfold tupD at q
    split at q
    · exact ⟨_, _, rfl⟩
    · cases q
  · right
    intro d hd
    have q := h2 d hd
    refine ⟨?_, fun xs z => ?_⟩
    · rintro rfl; cases q
    · subst z; cases q
def rSortD (K : PySem.W.Frag) : List V → Hp → VK → Prop := fun vs H Q => ∃ (a : Addr) (zs : List (V × D)), vs = [V.ref a] ∧ SqL K H a (zs.map Prod.fst) ∧ DpAll K H (zs.map Prod.fst) (zs.map Prod.snd) ∧ canSort (zs.map Prod.snd) = true ∧
  ∀ p : Addr, H p = none → Q (.ref p) (upd H p (.lst ((srtZ zs).map Prod.fst)))
theorem each_rel : ∀ {zs : List (V × D)} {us : List Value}, Vals (zs.map Prod.fst) us → EachIs (fun u (z : V × D) => RelV z.1 u) us zs
  | [], _, h => by cases h; exact .nil
  | z :: zs, _, h => by
    cases h with
    | cons r t => exact .cons r (each_rel t)
theorem rel_each : ∀ {us : List Value} {zs : List (V × D)}, EachIs (fun u (z : V × D) => RelV z.1 u) us zs → Vals (zs.map Prod.fst) us
  | _, _, .nil => .nil
  | _, _, .cons r t => .cons r (rel_each t)
section
variable {X : Cx}
theorem each_reads {pins : List (Addr × Obj)} {σ : L2.St} {H : Hp} {s : Shared} (I : Inv X pins σ H s) : ∀ {zs : List (V × D)} {us : List Value}, Vals (zs.map Prod.fst) us → DpAll X.K H (zs.map Prod.fst) (zs.map Prod.snd) → EachIs (fun u (z : V × D) => ∃ as, Reads s.heap u z.2 as) us zs
  | [], _, h, _ => by cases h; exact .nil
  | z :: zs, _, h, g => by
    cases h with
    | cons r t =>
      cases g with
      | cons d e => exact .cons (Dp.reads I _ _ _ d r) (each_reads I t e)
theorem cr_sortD (hu : X.A.units + 64 < cLine) : CallR X (.builtin "sorted") (rSortD X.K) := by
  intro pins s σ H vs us Q I r h
  obtain ⟨a, zs, rfl, hs, hd, hc, q⟩ := h
  obtain ⟨hal, hk, hdep, _⟩ := canSort_ok hc
  obtain ⟨its, rv, hl, hz⟩ := I.list hs
  rw [Vals.ref1 r]
  have hn : zs.length ≤ sizeLine := by
    rw [List.length_map] at hz
    exact hz
  refine PySem.W.sorted_data (enc := Prod.snd) hl.isList (each_rel rv) (each_reads I rv hd) hal hk hn (fun z m => ?_) fun out ho eo => ?_
  · have := hdep z.2 (List.mem_map.mpr ⟨z, m, rfl⟩)
    show X.A.units + 2 + z.2.depth < cLine
    omega
  · obtain ⟨ep, top⟩ := PyProof.Rows.sortedAll_at s.heap its out.toArray
    have sz : ((srtZ zs).map Prod.fst).length ≤ sizeLine := by
      rw [List.length_map, (List.mergeSort_perm zs _).length_eq]
      exact hn
    refine ⟨.ref (s.heap.objs.size + 1), upd H (s.heap.objs.size + 1) (.lst ((srtZ zs).map Prod.fst)), ?_, rfl, q _ (I.hok.fresh (Nat.le_succ _))⟩
    exact I.laid (t' := s.toks) (fun _ _ => PyProof.Rows.sortedAll_old) (Nat.le_succ _) ⟨sz, out, ep, rel_each eo, top⟩
end
/-- sorted(xs) -/
def dSort : OpN := n1 fun b μ => match items b μ with
  | some bs => match allD bs with
    | some ds => if canSort ds = true then dList ((srt ds).map .d) μ else .bad
    | none => .bad
  | none => .bad
theorem RpA_zip {K : PySem.W.Frag} {I : Hp} : ∀ {vs : List V} {ds : List D}, RpA K I vs ds → (vs.zip ds).map Prod.fst = vs ∧ (vs.zip ds).map Prod.snd = ds ∧ ∀ z ∈ vs.zip ds, Rp K I z.1 z.2
  | _, _, .nil => ⟨rfl, rfl, fun z h => by simp at h⟩
  | _, _, .cons (v := v) (d := d) r t => by
    obtain ⟨h1, h2, h3⟩ := RpA_zip t
    refine ⟨?_, ?_, fun z h => ?_⟩
    · rw [List.zip_cons_cons, List.map_cons, h1]
    · rw [List.zip_cons_cons, List.map_cons, h2]
    · rw [List.zip_cons_cons] at h
      rcases List.mem_cons.mp h with e | h
      · rw [e]; exact r
      · exact h3 z h
theorem RpA_of_zip {K : PySem.W.Frag} {I : Hp} : ∀ {zs : List (V × D)}, (∀ z ∈ zs, Rp K I z.1 z.2) → RpA K I (zs.map Prod.fst) (zs.map Prod.snd)
  | [], _ => .nil
  | z :: zs, h => .cons (h z List.mem_cons_self) (RpA_of_zip fun y m => h y (List.mem_cons_of_mem _ m))
section
variable {G : GT}
theorem ok_sortD : OkN G (rSortD G.K) dSort := by
  apply ok_n1
  intro W σ w μ H x b Q l r p
  split at p
  · rename_i bs e
    split at p
    · rename_i ds e2
      split at p
      · rename_i c
        obtain ⟨a, vs, rfl, h1, h2⟩ := items_ok l r e
        rw [allD_eq e2] at h2
        have ra := RpA_of_Rvs h2
        obtain ⟨z1, z2, z3⟩ := RpA_zip ra
        have nd := (canSort_ok c).2.2.2
        refine ⟨a, vs.zip ds, rfl, by rw [z1]; exact h1, by rw [z1, z2]; exact RpA.dp _ _ nd (RpA.mono l.same _ _ ra), by rw [z2]; exact c, ?_⟩
        have hr : RpA G.K w.I ((srtZ (vs.zip ds)).map Prod.fst) ((srtZ (vs.zip ds)).map Prod.snd) := RpA_of_zip fun z m => z3 z ((List.mergeSort_perm _ _).mem_iff.mp m)
        rw [srtZ_snd, z2] at hr
        exact (list_new l (Rvs_of_RpA hr) p).2
      · exact p.elim
    · exact p.elim
  · exact p.elim
end
end DL

/-! set(xs) of numbers and texts, as a list of unlike keys. -/
noncomputable section
namespace DL
open PySem PySem.Spec PyProof.Rows L2 PySem.Froz
def kOf : Value → Key
  | .int i _ => .inl i
  | .str x _ => .inr x
  | _ => .inl 0
theorem kOf_is {k : Key} {v : Value} (h : keyIs k v = true) : kOf v = k := by
  rcases keyIs_shape h with ⟨i, t, rfl, rfl⟩ | ⟨x, t, rfl, rfl⟩ <;> rfl
theorem scan_key {k : Key} {v : Value} (h : keyIs k v = true) : v.scannable = true := by
  rcases keyIs_shape h with ⟨i, t, rfl, rfl⟩ | ⟨x, t, rfl, rfl⟩ <;> rfl
/-- the payload holds these keys, in some order, and can be walked -/
structure KsOk (P : Program) (w : World) (D : SD) (ks : List Key) : Prop where
  el : ElemsOf (mixKind P w) D.1.toList
  pm : (D.1.toList.map fun e => kOf e.2).Perm ks
  fit : D.2.2.fits D.1.size = true
  ris : Ris D.2.2.place.toList
  led : w.params.followText "set-order" = true ∨ D.2.2.led = true
section
variable {P : Program} {w : World} {A : Around} {E : Value → Shared → Prop} {s : Shared} {D : SD} {ks : List Key} {k : Key} {v : Value}
theorem KsOk.size (F : KsOk P w D ks) : D.1.size = ks.length := by
  have q := F.pm.length_eq
  rw [List.length_map, Array.length_toList] at q
  exact q
theorem KsOk.has (F : KsOk P w D ks) (k : Key) : (∃ e ∈ D.1.toList, keyIs k e.2 = true) ↔ k ∈ ks := by
  rw [← F.pm.mem_iff, List.mem_map]
  constructor
  · rintro ⟨e, he, q⟩
    exact ⟨e, he, kOf_is q⟩
  · rintro ⟨e, he, q⟩
    obtain ⟨⟨k', q', _⟩, _⟩ := F.el e he
    have q2 : keyIs k' e.2 = true := q'
    rw [kOf_is q2] at q
    exact ⟨e, he, by rw [← q]; exact q2⟩
theorem KsOk.start (w : World) : KsOk P w (#[], 0, .fresh 0 0 (!w.params.followText "set-order")) [] := by
  refine ⟨fun e he => by simp at he, .nil, rfl, List.Pairwise.nil, ?_⟩
  show _ ∨ (!w.params.followText "set-order") = true
  cases w.params.followText "set-order" <;> simp
/-- the payload behind an add of a new key -/
def addKx (h : Int) (v : Value) (D : SD) : SD :=
  tailTx D.2.1 (layNew D.2.2 D.1 h v).1 (if (layNew D.2.2 D.1 h v).2.1.plain = true then (if plainKind v = true then (layNew D.2.2 D.1 h v).2.1 else { (layNew D.2.2 D.1 h v).2.1 with plain := false }) else (layNew D.2.2 D.1 h v).2.1) (layNew D.2.2 D.1 h v).2.2.1
theorem KsOk.cons (F : KsOk P w D ks) (hv : keyIs k v = true) : KsOk P w (addKx (keyH w k) v D) (k :: ks) := by
  obtain ⟨es, ep, t⟩ := D
  obtain ⟨f1, f2, f3, f4, f5⟩ := F
  have a1 := layNew_perm t es (keyH w k) v
  have a2 := layNew_fits t es (keyH w k) v
  have a3 := layNew_ris t es (keyH w k) v f4
  have a4 := layNew_led t es (keyH w k) v
  unfold addKx
  generalize layNew t es (keyH w k) v = L at a1 a2 a3 a4 ⊢
  obtain ⟨es1, t1, wd, gv⟩ := L
  dsimp only at a1 a2 a3 a4 ⊢
  rw [Array.toList_push] at a1
  have el1 : ElemsOf (mixKind P w) es1.toList := fun e he => by
    rcases List.mem_append.mp (a1.mem_iff.mp he) with he | he
    · exact f1 e he
    · rw [List.mem_singleton.mp he]
      exact ⟨⟨k, hv, rfl⟩, scan_key hv⟩
  have pm1 : (es1.toList.map fun e => kOf e.2).Perm (k :: ks) := by
    refine (a1.map _).trans ?_
    rw [List.map_append, List.map_cons, List.map_nil, kOf_is hv]
    exact (List.perm_append_singleton _ _).trans (List.Perm.cons _ f2)
  have z : ∀ t2 : SetTable, t2.fits es1.size = true → Ris t2.place.toList → t2.led = t.led → KsOk P w (tailTx ep es1 t2 wd) (k :: ks) := fun t2 b1 b2 b3 => by
    unfold tailTx
    split
    · have c1 := relayAll_perm t2 es1 (SetTable.grown es1.size)
      have c2 := relayAll_fits t2 es1 (SetTable.grown es1.size)
      have c3 := relayAll_ris t2 es1 (SetTable.grown es1.size)
      have c4 := relayAll_led t2 es1 (SetTable.grown es1.size)
      exact ⟨fun e he => el1 e (c1.mem_iff.mp he), (c1.map _).trans pm1, c2, c3, f5.imp id fun y => c4.trans (b3.trans y)⟩
    · exact ⟨el1, pm1, b1, b2, f5.imp id fun y => b3.trans y⟩
  split
  · split
    · exact z _ a2 a3 a4
    · exact z _ (SetTable.fits_plain_off a2) a3 a4
  · exact z _ a2 a3 a4
variable {a : Addr} {Q : Bool → Shared → Prop}
/-- a key put to a set -/
theorem add_key (hv : keyIs k v = true) (ho : s.heap.get? a = some (sObj "set" D)) (F : KsOk P w D ks) (room : ks.length + 1 < scanBound) (old : k ∈ ks → Q false s)
    (new : k ∉ ks → Q true { s with heap := s.heap.update a (fun _ => sObj "set" (addKx (keyH w k) v D)) }) : wpAny (model P w) A (setAddHashed a v (keyH w k)) Q E s := by
  have sz := F.size
  have hm := F.has k
  obtain ⟨es, ep, t⟩ := D
  have d0 : (sObj "set" (es, ep, t)).data = .set es ep t := rfl
  have el : ElemsOf (mixKind P w) es.toList := F.el
  have ft : t.fits es.size = true := F.fit
  have sz' : es.size = ks.length := sz
  have b0 : es.size < scanBound := by omega
  have told : ∀ (b : Bool) {s1 : Shared} {Z : Unit → Shared → Prop}, Z () s1 → wpAny (model P w) A (match b with | true => rule "set.scan.the-table-gave-way" | false => pure ()) Z E s1 := by
    intro b s1 Z z
    cases b
    · exact wpAny_pure z
    · exact wpAny_rule z
  unfold setAddHashed setAddHashedIn
  apply wpAny_holding
  apply wpAny_bind
  apply wpAny_setState_of ho d0 ft
  dsimp only
  rw [byScan_of (scan_key hv) b0 el]
  simp only [↓reduceIte]
  unfold setAddByScan
  apply wpAny_bind
  apply wpAny_bind
  apply wpAny_rule
  apply wpAny_bind
  apply wpAny_setScan_of (knd := mixKind P w) (k := k) hv ho d0 ft el
  cases q : List.findIdx? (fun e => (mixKind P w).is k e.2) es.toList with
  | some j =>
    obtain ⟨hj, pj, _⟩ := List.findIdx?_eq_some_iff_getElem.mp q
    dsimp only
    apply wpAny_pure
    apply wpAny_pure
    exact old (hm.mp ⟨es.toList[j], List.getElem_mem hj, pj⟩)
  | none =>
    have nk : k ∉ ks := fun z => by
      obtain ⟨e, he, pe⟩ := hm.mpr z
      have c := List.findIdx?_eq_none_iff.mp q e he
      have pe : (mixKind P w).is k e.2 = true := pe
      rw [pe] at c
      cases c
    have fin := new nk
    have pm := layNew_perm t es (keyH w k) v
    unfold addKx at fin
    dsimp only at fin ⊢
    generalize layNew t es (keyH w k) v = L at pm fin ⊢
    obtain ⟨es1, t1, wd, gv⟩ := L
    dsimp only at pm fin ⊢
    have b1 : es1.size < scanBound := by
      have e := pm.length_eq
      rw [Array.toList_push, List.length_append, Array.length_toList, Array.length_toList, List.length_singleton] at e
      omega
    apply wpAny_bind
    apply told
    by_cases pl : t1.plain = true
    · rw [if_pos pl] at fin ⊢
      apply wpAny_bind
      rw [hashByValue_scannable 8 (scan_key hv)]
      apply wpAny_pure
      refine addTail_x (fun b s1 Z z => ?_) ho b1 ?_
      · cases b
        · exact wpAny_pure z
        · exact wpAny_rule z
      · exact wpAny_pure fin
    · rw [if_neg pl] at fin ⊢
      apply wpAny_bind
      apply wpAny_pure
      simp only [↓reduceIte]
      refine addTail_x (fun b s1 Z z => ?_) ho b1 ?_
      · cases b
        · exact wpAny_pure z
        · exact wpAny_rule z
      · exact wpAny_pure fin
end
/-- the keys of a list, each once -/
def memK (k : Key) (l : List Key) : Bool := l.any fun j => decide (j = k)
theorem memK_iff {k : Key} {l : List Key} : memK k l = true ↔ k ∈ l := by
  unfold memK
  rw [List.any_eq_true]
  constructor
  · rintro ⟨j, hj, e⟩
    rw [← of_decide_eq_true e]
    exact hj
  · exact fun h => ⟨k, h, decide_eq_true rfl⟩
def ddS (acc : List Key) (k : Key) : List Key := if memK k acc = true then acc else k :: acc
def ddK (ks : List Key) : List Key := ks.foldl ddS []
theorem ddK_snoc (ks : List Key) (k : Key) : ddK (ks ++ [k]) = ddS (ddK ks) k := by
  unfold ddK
  rw [List.foldl_append]
  rfl
theorem ddS_facts (acc : List Key) (k : Key) (h : acc.Nodup) : (ddS acc k).Nodup ∧ (∀ j, j ∈ ddS acc k ↔ j ∈ acc ∨ j = k) ∧ (ddS acc k).length ≤ acc.length + 1 := by
  unfold ddS
  split
  · rename_i c
    refine ⟨h, fun j => ⟨Or.inl, fun z => z.elim id fun e => by rw [e]; exact memK_iff.mp c⟩, by omega⟩
  · rename_i c
    refine ⟨List.nodup_cons.mpr ⟨fun z => c (memK_iff.mpr z), h⟩, fun j => ?_, by rw [List.length_cons]; omega⟩
    rw [List.mem_cons]
    exact Or.comm
theorem ddF_facts : ∀ (ks acc : List Key), acc.Nodup → (ks.foldl ddS acc).Nodup ∧ (∀ j, j ∈ ks.foldl ddS acc ↔ j ∈ acc ∨ j ∈ ks) ∧ (ks.foldl ddS acc).length ≤ acc.length + ks.length
  | [], acc, h => ⟨h, fun j => by simp, Nat.le_refl _⟩
  | k :: ks, acc, h => by
    obtain ⟨a1, a2, a3⟩ := ddS_facts acc k h
    obtain ⟨b1, b2, b3⟩ := ddF_facts ks _ a1
    refine ⟨b1, fun j => ?_, ?_⟩
    · rw [List.foldl_cons, b2, a2, List.mem_cons, or_assoc]
    · rw [List.foldl_cons, List.length_cons]
      omega
theorem ddK_facts (ks : List Key) : (ddK ks).Nodup ∧ (∀ k, k ∈ ddK ks ↔ k ∈ ks) ∧ (ddK ks).length ≤ ks.length := by
  obtain ⟨h1, h2, h3⟩ := ddF_facts ks [] List.nodup_nil
  exact ⟨h1, fun k => (h2 k).trans ⟨fun z => z.elim (fun y => by cases y) id, Or.inr⟩, by rw [List.length_nil, Nat.zero_add] at h3; exact h3⟩
/-! ### the walk that puts all items to the set -/
section
variable {P : Program} {w : World} {A : Around} {E : Value → Shared → Prop} {s : Shared}
theorem upd_keys {I : Addr} {fp wr : List Addr} {G : Array GenState → Array GenState → Prop} {n : Nat} {Pv : Nat → Value → Prop} {St : Nat → Shared → Prop} {R : Result → Shared → Prop}
    (W : WalksS P w A.in1 I fp wr G n Pv St) {a : Addr} (ha : a ∉ fp) {ks : List Key} (len : ks.length = n) (room : n + 1 < scanBound) (hv : ∀ i v, Pv i v → ∃ k, ks[i]? = some k ∧ keyIs k v = true) :
    ∀ (m i : Nat) (s : Shared) (D : SD), i + m = n → St i s → s.heap.get? a = some (sObj "set" D) → KsOk P w D (ddK (ks.take i)) →
      (∀ s' D', Moved (a :: wr) G s s' → s'.heap.get? a = some (sObj "set" D') → KsOk P w D' (ddK ks) → R (.ok (.ret .none)) s') →
      codeAny (model P w) A (.builtin "set.update.loop" ⟨[.ref a, .ref I], []⟩) R s := by
  have aw : a ∉ wr := fun z => ha (W.sub _ z)
  have more : ∀ {s1 s2 : Shared}, Moved wr G s1 s2 → Moved (a :: wr) G s1 s2 := fun m => m.mono fun b hb => List.mem_cons_of_mem _ hb
  intro m
  induction m with
  | zero =>
    intro i s D e st ho F fin
    have ei : i = n := by omega
    subst ei
    apply codeAny_builtin PyProof.Rows.F.entry_set_update_loop
    rw [Around.under_plainId PyProof.Rows.F.plain_set_update_loop _]
    show wpAny _ A.in1 (pyNext (.ref I) >>= _) _ _ s
    apply wpAny_bind
    apply W.done s _ _ st
    intro s' mv
    rw [List.take_of_length_le (by omega)] at F
    exact wpAny_pure (fin s' D (more mv) (mv.heap a _ aw ho) F)
  | succ m ih =>
    intro i s D e st ho F fin
    apply codeAny_builtin PyProof.Rows.F.entry_set_update_loop
    rw [Around.under_plainId PyProof.Rows.F.plain_set_update_loop _]
    show wpAny _ A.in1 (pyNext (.ref I) >>= _) _ _ s
    apply wpAny_bind
    apply W.item i s _ _ (by omega) st
    intro v s' pv st' mv
    obtain ⟨k, hk, kv⟩ := hv i v pv
    have ho' := mv.heap a _ aw ho
    show wpAny _ A.in1 (holding [v] (setAdd a v) >>= _) _ _ s'
    apply wpAny_bind
    apply wpAny_holding
    unfold setAdd
    apply wpAny_holding
    apply wpAny_bind
    apply (mixKind P w).pyHash (k := k) kv
    have dd : ddK (ks.take (i + 1)) = ddS (ddK (ks.take i)) k := by
      rw [List.take_add_one, hk]
      exact ddK_snoc _ _
    have dl := (ddK_facts (ks.take i)).2.2
    rw [List.length_take] at dl
    have go : ∀ (D' : SD) (h' : Heap), h'.get? a = some (sObj "set" D') → KsOk P w D' (ddK (ks.take (i + 1))) → (∀ b o, b ≠ a → s'.heap.get? b = some o → h'.get? b = some o) →
        codeAny (model P w) A (.builtin "set.update.loop" ⟨[.ref a, .ref I], []⟩) R { s' with heap := h', toks := s'.toks + 1 } := fun D' h' o' F' kp => by
      refine ih (i + 1) _ D' (by omega) (W.frame _ s' _ _ st' (Nat.le_succ _) fun b hb o z => kp b o (fun y => ha (y ▸ hb)) z) o' F' fun s2 D2 m2 o2 F2 => ?_
      refine fin s2 D2 (Moved.trans W.gtrans ((more mv).then_heap (Nat.le_succ _) fun b o hb z => ?_) m2) o2 F2
      exact kp b o (fun y => hb (by rw [y]; exact List.mem_cons_self)) z
    refine add_key (P := P) (w := w) (s := { s' with toks := s'.toks + 1 }) kv ho' F (by omega) (fun old => ?_) fun new => ?_
    · refine wpAny_pure ⟨plainId_quiet PyProof.Rows.F.plain_set_update_loop _, go D _ ho' ?_ fun _ _ _ z => z⟩
      rw [dd]
      unfold ddS
      rw [if_pos (memK_iff.mpr old)]
      exact F
    · refine wpAny_pure ⟨plainId_quiet PyProof.Rows.F.plain_set_update_loop _, go _ _ (get_upd _ ho' rfl) ?_ fun b o hb z => ?_⟩
      · rw [dd]
        unfold ddS
        rw [if_neg fun z => new (memK_iff.mp z)]
        exact F.cons kv
      · exact (Heap.get?_update_ne _ _ _ _ hb).trans z
end
end DL

end 
/-! set(xs), the call: xs a list, a tuple. -/
noncomputable section
namespace DL
open PySem PySem.Spec PyProof.Rows L2 PySem.Froz
/-- the set as it is made -/
abbrev newS (w : World) : Obj := sObj "set" (#[], 0, .fresh 0 0 (!w.params.followText "set-order"))
section
variable {P : Program} {w : World} {A : Around} {E : Value → Shared → Prop} {s : Shared}
set_option maxHeartbeats 3200000 in
theorem set_of_list {l : Addr} {its : Array Value} {ks : List Key} {Q : Value → Shared → Prop} (calm : A.handled = none) (hl : s.heap.IsList l its) (hv : ∀ (i : Nat) (v : Value), its[i]? = some v → ∃ k, ks[i]? = some k ∧ keyIs k v = true) (len : ks.length = its.size) (room : its.size + 1 < scanBound)
    (fin : ∀ (h' : Heap) (tk : Nat) (D : SD), h'.get? s.heap.objs.size = some (sObj "set" D) → KsOk P w D (ddK ks) → (∀ b o, s.heap.get? b = some o → h'.get? b = some o) → Q (.ref s.heap.objs.size) { s with heap := h', toks := tk }) :
    wpAny (model P w) A (call (.type "set") [.ref l]) Q E s := by
  obtain ⟨_, _, mro⟩ := PySem.F.called_set.mro
  have c1 := PySem.F.called_set.made
  have c2 := PySem.F.called_set.sub
  apply wpAny_call
  apply codeAny_of_tree
  show wpAny _ _ (callAny (.type "set") _) _ _ _
  apply wpAny_pure
  refine ⟨Code.quiet_builtin _ (by decide +kernel), ?_⟩
  apply codeAny_builtin PySem.F.entry_type_call
  rw [Around.under_plain (weight_type_call_type "set" [.ref l] []) rfl]
  have c3 := PySem.F.called_set.notType
  have c4 := PySem.F.called_set.canCreate
  have c5 := PySem.F.typeCall_set_1 (.ref l)
  repeat any_goals first | assumption | wp_step
  have h0 : (s.heap.push (newS w)).get? s.heap.objs.size = some (newS w) := Heap.get?_push_size _ rfl
  refine codeAny_mono (code_set_led1 (.ref l) (E := E) (Q₁ := fun u s1 => u = .ref s.heap.objs.size ∧ s1 = { s with heap := s.heap.push (newS w) }) ⟨rfl, rfl⟩) fun r s1 got => ?_
  match r, got with
  | .error e, got => exact got
  | .ok .next, got => exact got.elim
  | .ok .brk, got => exact got.elim
  | .ok .cont, got => exact got.elim
  | .ok (.ret u), ⟨eu, es⟩ =>
    subst eu
    subst es
    have ty : Shared.TypeIs { s with heap := s.heap.push (newS w) } (.ref s.heap.objs.size) "set" := ⟨_, h0, rfl⟩
    have c6 := PySem.F.called_set.init.lookup
    have c7 := PySem.F.called_set.init.bind (.ref s.heap.objs.size)
    repeat any_goals first | assumption | wp_step
    refine codeAny_mono (codeAny_call_builtin (R := wants (fun r s2 => r = .none ∧ ∃ h' tk D, s2 = { s with heap := h', toks := tk } ∧ h'.get? s.heap.objs.size = some (sObj "set" D) ∧ KsOk P w D (ddK ks) ∧ ∀ b o, s.heap.get? b = some o → h'.get? b = some o) E)
      PySem.F.called_set.init.plain PySem.F.entry_set_init (check_set_init_1 ty ?_)) fun r2 s2 got2 => ?_
    · obtain ⟨⟨cls, dct, dat, slt⟩, ol, ec, nl, ed⟩ := hl
      simp only at ec ed
      subst ec
      subst ed
      have ol' : (s.heap.push (newS w)).get? l = some { cls := .type "list", dict := dct, data := .seq its nl, slots := slt } := Heap.get?_push_of_some _ ol
      have c8 := PySem.F.sub_list_set
      have c9 := PySem.F.sub_list_frozenset
      have c10 : (Value.type "list" == Value.type "dict") = false := by decide
      have hl' : (s.heap.push (newS w)).IsList l its := ⟨_, ol', rfl, nl, rfl⟩
      unfold Builtin.«set.__init__» noKeywords Builtin.Frozenset.updateFrom
      generalize ei : pyIter = IT
      wp_walk
      subst ei
      refine wpAny_pyIter_list hl' (wpAny_bind (wpAny_runValue ?_))
      have ls : l < s.heap.objs.size := Heap.lt_size ol
      have sz : (s.heap.push (newS w)).objs.size = s.heap.objs.size + 1 := Heap.size_push ..
      have calm3 : A.in1.in1.in1.handled = none := by simp [calm]
      have apart : l ≠ (s.heap.push (newS w)).objs.size := by
        rw [sz]
        exact Nat.ne_of_lt (Nat.lt_succ_of_lt ls)
      have off : s.heap.objs.size ∉ [(s.heap.push (newS w)).objs.size, l] := by
        rw [sz]
        simp only [List.mem_cons, List.not_mem_nil, or_false, not_or]
        exact ⟨Nat.ne_of_lt (Nat.lt_succ_self _), Nat.ne_of_gt ls⟩
      refine upd_keys ((Walks.list calm3 _ l apart its).toS) off (ks := ks) len room hv its.size 0 _ _ (by omega) ⟨⟨_, Heap.get?_push_size _ rfl, rfl, rfl⟩, hl'.push _⟩ (Heap.get?_push_of_some _ h0) (KsOk.start w) ?_
      intro s3 D3 mv o3 F3
      obtain ⟨h3, g3, d3, t3, os3⟩ := s3
      have e1 : g3 = s.gens := mv.gens
      have e2 : d3 = s.drawn := mv.drawn
      have e3 : os3 = s.os := mv.os
      subst e1 e2 e3
      show wpAny _ _ _ _ _ _
      apply wpAny_pure
      show wpAny _ _ (ret Value.none) _ _ _
      refine wpAny_pure ⟨rfl, h3, t3, D3, rfl, o3, F3, fun b o z => ?_⟩
      have lt : b < s.heap.objs.size := Heap.lt_size z
      refine mv.heap b o ?_ (Heap.get?_push_of_some _ (Heap.get?_push_of_some _ z))
      rw [sz]
      simp only [List.mem_cons, List.not_mem_nil, or_false, not_or]
      exact ⟨Nat.ne_of_lt lt, Nat.ne_of_lt (Nat.lt_succ_of_lt lt)⟩
    · match r2, got2 with
      | .error e, got2 => exact got2
      | .ok .next, got2 => exact got2.elim
      | .ok .brk, got2 => exact got2.elim
      | .ok .cont, got2 => exact got2.elim
      | .ok (.ret u), ⟨eu, h', tk, D, es, o', F', kp⟩ =>
        subst eu
        subst es
        repeat any_goals first | assumption | wp_step
        exact fin _ _ _ o' F' kp
end
end DL

end 
/-! set(xs), the call: xs a list, a tuple. -/
noncomputable section
namespace DL
open PySem PySem.Spec PyProof.Rows L2 PySem.Froz
section
namespace DL
open PySem PySem.Spec PyProof.Rows L2 PySem.Froz
/-- the set as it is made -/
abbrev newS (w : World) : Obj := sObj "set" (#[], 0, .fresh 0 0 (!w.params.followText "set-order"))
section
variable {P : Program} {w : World} {A : Around} {E : Value → Shared → Prop} {s : Shared}
set_option maxHeartbeats 3200000 in
theorem set_of_tuple {l : Addr} {its : Array Value} {ks : List Key} {Q : Value → Shared → Prop} (calm : A.handled = none) (hl : s.heap.IsTuple l its) (hv : ∀ (i : Nat) (v : Value), its[i]? = some v → ∃ k, ks[i]? = some k ∧ keyIs k v = true) (len : ks.length = its.size) (room : its.size + 1 < scanBound)
    (fin : ∀ (h' : Heap) (tk : Nat) (D : SD), h'.get? s.heap.objs.size = some (sObj "set" D) → KsOk P w D (ddK ks) → (∀ b o, s.heap.get? b = some o → h'.get? b = some o) → Q (.ref s.heap.objs.size) { s with heap := h', toks := tk }) :
    wpAny (model P w) A (call (.type "set") [.ref l]) Q E s := by
  obtain ⟨_, _, mro⟩ := PySem.F.called_set.mro
  have c1 := PySem.F.called_set.made
  have c2 := PySem.F.called_set.sub
  apply wpAny_call
  apply codeAny_of_tree
  show wpAny _ _ (callAny (.type "set") _) _ _ _
  apply wpAny_pure
  refine ⟨Code.quiet_builtin _ (by decide +kernel), ?_⟩
  apply codeAny_builtin PySem.F.entry_type_call
  rw [Around.under_plain (weight_type_call_type "set" [.ref l] []) rfl]
  have c3 := PySem.F.called_set.notType
  have c4 := PySem.F.called_set.canCreate
  have c5 := PySem.F.typeCall_set_1 (.ref l)
  repeat any_goals first | assumption | wp_step
  have h0 : (s.heap.push (newS w)).get? s.heap.objs.size = some (newS w) := Heap.get?_push_size _ rfl
  refine codeAny_mono (code_set_led1 (.ref l) (E := E) (Q₁ := fun u s1 => u = .ref s.heap.objs.size ∧ s1 = { s with heap := s.heap.push (newS w) }) ⟨rfl, rfl⟩) fun r s1 got => ?_
  match r, got with
  | .error e, got => exact got
  | .ok .next, got => exact got.elim
  | .ok .brk, got => exact got.elim
  | .ok .cont, got => exact got.elim
  | .ok (.ret u), ⟨eu, es⟩ =>
    subst eu
    subst es
    have ty : Shared.TypeIs { s with heap := s.heap.push (newS w) } (.ref s.heap.objs.size) "set" := ⟨_, h0, rfl⟩
    have c6 := PySem.F.called_set.init.lookup
    have c7 := PySem.F.called_set.init.bind (.ref s.heap.objs.size)
    repeat any_goals first | assumption | wp_step
    refine codeAny_mono (codeAny_call_builtin (R := wants (fun r s2 => r = .none ∧ ∃ h' tk D, s2 = { s with heap := h', toks := tk } ∧ h'.get? s.heap.objs.size = some (sObj "set" D) ∧ KsOk P w D (ddK ks) ∧ ∀ b o, s.heap.get? b = some o → h'.get? b = some o) E)
      PySem.F.called_set.init.plain PySem.F.entry_set_init (check_set_init_1 ty ?_)) fun r2 s2 got2 => ?_
    · obtain ⟨⟨cls, dct, dat, slt⟩, ol, ec, nl, ed⟩ := hl
      simp only at ec ed
      subst ec
      subst ed
      have ol' : (s.heap.push (newS w)).get? l = some { cls := .type "tuple", dict := dct, data := .seq its nl, slots := slt } := Heap.get?_push_of_some _ ol
      have c8 := PySem.F.sub_tuple_set
      have c9 := PySem.F.sub_tuple_frozenset
      have c10 : (Value.type "tuple" == Value.type "dict") = false := by decide
      have hl' : (s.heap.push (newS w)).IsTuple l its := ⟨_, ol', rfl, nl, rfl⟩
      unfold Builtin.«set.__init__» noKeywords Builtin.Frozenset.updateFrom
      generalize ei : pyIter = IT
      wp_walk
      subst ei
      refine wpAny_pyIter_tuple hl' (wpAny_bind (wpAny_runValue ?_))
      have ls : l < s.heap.objs.size := Heap.lt_size ol
      have sz : (s.heap.push (newS w)).objs.size = s.heap.objs.size + 1 := Heap.size_push ..
      have calm3 : A.in1.in1.in1.handled = none := by simp [calm]
      have apart : l ≠ (s.heap.push (newS w)).objs.size := by
        rw [sz]
        exact Nat.ne_of_lt (Nat.lt_succ_of_lt ls)
      have off : s.heap.objs.size ∉ [(s.heap.push (newS w)).objs.size, l] := by
        rw [sz]
        simp only [List.mem_cons, List.not_mem_nil, or_false, not_or]
        exact ⟨Nat.ne_of_lt (Nat.lt_succ_self _), Nat.ne_of_gt ls⟩
      refine upd_keys ((Walks.tuple calm3 _ l apart its).toS) off (ks := ks) len room hv its.size 0 _ _ (by omega) ⟨⟨_, Heap.get?_push_size _ rfl, rfl, rfl⟩, hl'.push _⟩ (Heap.get?_push_of_some _ h0) (KsOk.start w) ?_
      intro s3 D3 mv o3 F3
      obtain ⟨h3, g3, d3, t3, os3⟩ := s3
      have e1 : g3 = s.gens := mv.gens
      have e2 : d3 = s.drawn := mv.drawn
      have e3 : os3 = s.os := mv.os
      subst e1 e2 e3
      show wpAny _ _ _ _ _ _
      apply wpAny_pure
      show wpAny _ _ (ret Value.none) _ _ _
      refine wpAny_pure ⟨rfl, h3, t3, D3, rfl, o3, F3, fun b o z => ?_⟩
      have lt : b < s.heap.objs.size := Heap.lt_size z
      refine mv.heap b o ?_ (Heap.get?_push_of_some _ (Heap.get?_push_of_some _ z))
      rw [sz]
      simp only [List.mem_cons, List.not_mem_nil, or_false, not_or]
      exact ⟨Nat.ne_of_lt lt, Nat.ne_of_lt (Nat.lt_succ_of_lt lt)⟩
    · match r2, got2 with
      | .error e, got2 => exact got2
      | .ok .next, got2 => exact got2.elim
      | .ok .brk, got2 => exact got2.elim
      | .ok .cont, got2 => exact got2.elim
      | .ok (.ret u), ⟨eu, h', tk, D, es, o', F', kp⟩ =>
        subst eu
        subst es
        repeat any_goals first | assumption | wp_step
        exact fin _ _ _ o' F' kp
end
end DL

end 
end DL
end 
/-! sorted(set(xs)), len(set(xs)), xs a list of numbers or of texts. -/
noncomputable section
namespace DL
open PySem PySem.Spec PyProof.Rows L2 PySem.Froz
open PySem.W (EachIs AllAlike Sortable dataLe alike)
def keyD : D → Option Key
  | .int i => some (.inl i)
  | .str x => some (.inr x)
  | _ => none
def keysD : List D → Option (List Key)
  | [] => some []
  | d :: ds => match keyD d, keysD ds with
    | some k, some ks => some (k :: ks)
    | _, _ => none
/-- the members of a list, each once -/
def setD (ds : List D) : Option (List D) := match keysD ds with
  | some ks => some ((ddK ks).map kD)
  | none => none
theorem keyD_kD {d : D} {k : Key} (h : keyD d = some k) : d = kD k := by
  cases d <;> cases h <;> rfl
theorem keysD_map : ∀ {ds : List D} {ks : List Key}, keysD ds = some ks → ds = ks.map kD
  | [], _, h => by cases h; rfl
  | d :: ds, ks, h => by
    unfold keysD at h
    split at h
    · rename_i k ks' e1 e2
      cases h
      rw [keyD_kD e1, keysD_map e2]
      rfl
    · cases h
theorem kD_keysD : ∀ ks : List Key, keysD (ks.map kD) = some ks
  | [] => rfl
  | k :: ks => by
    have e : keyD (kD k) = some k := by cases k <;> rfl
    rw [List.map_cons, keysD, e, kD_keysD ks]
section
variable {X : Cx} {pins : List (Addr × Obj)} {σ : L2.St} {H : Hp} {s : Shared}
theorem keys_vals : ∀ {ks : List Key} {us : List Value}, Vals (ks.map kV) us → us.length = ks.length ∧ ∀ (i : Nat) (v : Value), us[i]? = some v → ∃ k, ks[i]? = some k ∧ keyIs k v = true
  | [], _, h => by cases h; exact ⟨rfl, fun i v e => by simp at e⟩
  | k :: ks, _, h => by
    cases h with
    | cons r t =>
      obtain ⟨h1, h2⟩ := keys_vals t
      refine ⟨by rw [List.length_cons, List.length_cons, h1], fun i v e => ?_⟩
      cases i with
      | zero =>
        simp at e
        subst e
        refine ⟨k, rfl, ?_⟩
        cases k with
        | inl i => obtain ⟨t, rfl⟩ := r; exact keyIs_int i t
        | inr x => obtain ⟨t, rfl⟩ := r; exact keyIs_str x t
      | succ i =>
        obtain ⟨k', e1, e2⟩ := h2 i v (by simpa using e)
        exact ⟨k', by simpa using e1, e2⟩
end
/-! ### the one sorted list of keys -/
abbrev srtK (ks : List Key) : List Key := ks.mergeSort (dataLe false kD)
theorem uniq_sorted {α : Type} {le : α → α → Bool} : ∀ {l m : List α}, (∀ a ∈ l, ∀ b ∈ l, le a b = true → le b a = true → a = b) → l.Pairwise (fun a b => le a b = true) → m.Pairwise (fun a b => le a b = true) → l.Perm m → l = m
  | [], m, _, _, _, p => (List.Perm.eq_nil p.symm).symm
  | a :: l, [], _, _, _, p => absurd p.length_eq (by simp)
  | a :: l, b :: m, an, s1, s2, p => by
    obtain ⟨x1, y1⟩ := List.pairwise_cons.mp s1
    obtain ⟨x2, y2⟩ := List.pairwise_cons.mp s2
    have e : a = b := by
      have ma : a ∈ b :: m := p.mem_iff.mp List.mem_cons_self
      have mb : b ∈ a :: l := p.mem_iff.mpr List.mem_cons_self
      rcases List.mem_cons.mp ma with e | ma
      · exact e
      · rcases List.mem_cons.mp mb with e | mb
        · exact e.symm
        · exact an a List.mem_cons_self b (List.mem_cons_of_mem _ mb) (x1 b mb) (x2 a ma)
    subst e
    rw [uniq_sorted (fun c hc d hd => an c (List.mem_cons_of_mem _ hc) d (List.mem_cons_of_mem _ hd)) y1 y2 p.cons_inv]
theorem le_anti : ∀ {a b : Key}, alike (kD a) (kD b) = true → dataLe false kD a b = true → dataLe false kD b a = true → a = b
  | .inl i, .inl j, _, h1, h2 => by
    rw [PySem.W.dataLe_eq] at h1 h2
    simp only [cond_false, kD, PySem.W.dataLt_int, Bool.not_eq_true', decide_eq_false_iff_not] at h1 h2
    rw [show i = j by omega]
  | .inr x, .inr y, _, h1, h2 => by
    rw [PySem.W.dataLe_eq] at h1 h2
    simp only [cond_false, kD, PySem.W.dataLt_str, Bool.not_eq_true', decide_eq_false_iff_not] at h1 h2
    have e : x.cps.toList = y.cps.toList := List.le_antisymm h1 h2
    rw [PySem.W.str_of_cps e]
  | .inl i, .inr y, h, _, _ => by cases h
  | .inr x, .inl j, h, _, _ => by cases h
theorem srtK_perm {ks js : List Key} (p : ks.Perm js) (al : AllAlike (ks.map kD)) : srtK ks = srtK js := by
  refine uniq_sorted (le := dataLe false kD) (fun a ha b hb => le_anti (al _ ?_ _ ?_)) (PySem.W.sort_pairwise (PySem.W.sortLe_total _ _ _) _) (PySem.W.sort_pairwise (PySem.W.sortLe_total _ _ _) _) ((List.mergeSort_perm _ _).trans (p.trans (List.mergeSort_perm _ _).symm))
  · exact List.mem_map.mpr ⟨a, (List.mergeSort_perm _ _).mem_iff.mp ha, rfl⟩
  · exact List.mem_map.mpr ⟨b, (List.mergeSort_perm _ _).mem_iff.mp hb, rfl⟩
theorem perm_fit {ks js : List Key} (p : ks.Perm js) (hc : canSort (ks.map kD) = true) : canSort (js.map kD) = true := by
  have m : ∀ d, d ∈ js.map kD ↔ d ∈ ks.map kD := fun d => (p.symm.map kD).mem_iff
  unfold canSort at hc ⊢
  simp only [Bool.and_eq_true, Bool.or_eq_true, List.all_eq_true, decide_eq_true_eq] at hc ⊢
  obtain ⟨⟨⟨h1, h2⟩, h3⟩, _⟩ := hc
  refine ⟨⟨⟨fun d hd e he => h1 d ((m d).mp hd) e ((m e).mp he), h2.imp (fun z d hd => z d ((m d).mp hd)) fun z d hd => z d ((m d).mp hd)⟩, fun d hd => h3 d ((m d).mp hd)⟩, ?_⟩
  clear m h1 h2 h3 p
  induction js with
  | nil => rfl
  | cons j js ih => cases j <;> exact ih
theorem keys_rel : ∀ {us : List Value} {ks : List Key}, EachIs (fun u k => keyIs k u = true) us ks → Vals (ks.map kV) us
  | _, _, .nil => .nil
  | _, _, .cons (b := k) r t => by
    refine .cons ?_ (keys_rel t)
    rcases keyIs_shape r with ⟨i, t, rfl, rfl⟩ | ⟨x, t, rfl, rfl⟩ <;> exact ⟨_, rfl⟩
theorem keys_each : ∀ {us : List Value}, (∀ u ∈ us, keyIs (kOf u) u = true) → EachIs (fun u k => keyIs k u = true) us (us.map kOf)
  | [], _ => .nil
  | u :: us, h => .cons (h u List.mem_cons_self) (keys_each fun v m => h v (List.mem_cons_of_mem _ m))
theorem keys_reads {h : Heap} {a : Addr} : ∀ {us : List Value}, (∀ u ∈ us, keyIs (kOf u) u = true) → EachIs (fun u k => ∃ as, Reads h u (kD k) as ∧ a ∉ as) us (us.map kOf)
  | [], _ => .nil
  | u :: us, q => by
    refine .cons ?_ (keys_reads fun v m => q v (List.mem_cons_of_mem _ m))
    have z := q u List.mem_cons_self
    rcases keyIs_shape z with ⟨i, t, e1, e2⟩ | ⟨x, t, e1, e2⟩
    · rw [e1, e2]; exact ⟨[], Reads.int i t, by simp⟩
    · rw [e1, e2]; exact ⟨[], Reads.str x t, by simp⟩
section
variable {P : Program} {w : World} {A : Around} {E : Value → Shared → Prop} {s : Shared}
theorem sorted_keys {a : Addr} {D : SD} {ks : List Key} {Q : Value → Shared → Prop} (calm : A.handled = none) (ho : s.heap.get? a = some (sObj "set" D)) (F : KsOk P w D ks) (few : ks.length ≤ 1000) (hc : canSort (ks.map kD) = true) (hu : A.units + 64 < cLine)
    (fin : ∀ s' p n (out : List Value), (∀ b o, s.heap.get? b = some o → s'.heap.get? b = some o) → s'.gens = s.gens → s'.os = s.os → s.heap.objs.size ≤ p → s'.heap.get? p = some (seqObj "list" out.toArray n) → Vals ((srtK ks).map kV) out → Q (.ref p) s') :
    wpAny (model P w) A (call (.builtin "sorted") [.ref a]) Q E s := by
  have sz := F.size
  obtain ⟨es, ep, t⟩ := D
  have sz : es.size = ks.length := sz
  obtain ⟨f1, f2, f3, f4, f5⟩ := F
  apply Calls.call_function_entry kind_sorted plain_sorted entry_sorted (args_sorted1 _)
  unfold Builtin.«sorted»
  apply wpAny_bind (m := checkCount "sorted" 1 1 _)
  apply wpAny_pure
  apply wpAny_bind
  refine collect_set (A := A.in1) calm ⟨_, ho, rfl, rfl⟩ f3 (by unfold scanBound; omega) f4 f5 fun s1 vs kp hz g1 o1 pm => ?_
  have good : ∀ u ∈ vs, keyIs (kOf u) u = true := fun u hu => by
    obtain ⟨e, he, q⟩ := List.mem_map.mp (pm.mem_iff.mp hu)
    obtain ⟨⟨k, q2, _⟩, _⟩ := f1 e he
    rw [← q]
    have q2 : keyIs k e.2 = true := q2
    rw [kOf_is q2]
    exact q2
  have pk : (vs.map kOf).Perm ks := by
    have q := pm.map kOf
    rw [List.map_map] at q
    exact q.trans f2
  have lv : vs.length ≤ sizeLine := by
    have := pk.length_eq
    rw [List.length_map] at this
    rw [sizeLine_eq]
    omega
  apply wpAny_bind
  refine wpAny_newList ?_ lv
  have ol : (s1.heap.push (seqObj "list" vs.toArray 0)).get? s1.heap.objs.size = some (seqObj "list" vs.toArray 0) := Heap.get?_push_size _ rfl
  have c2 := perm_fit pk.symm hc
  obtain ⟨k1, k2, k3, _⟩ := canSort_ok c2
  apply wpAny_bind
  apply wpAny_holding
  refine PySem.W.list_sort_data (enc := kD) (R := fun u k => keyIs k u = true) (s := { s1 with heap := s1.heap.push (seqObj "list" vs.toArray 0) }) ol (keys_each good) (keys_reads good) k1 k2 (by rw [List.length_map]; exact lv) (fun k hk => ?_) fun out lo eo => ?_
  · have := k3 (kD k) (List.mem_map.mpr ⟨k, hk, rfl⟩)
    show A.in1.units + 1 + (kD k).depth < cLine
    have e : A.in1.units ≤ A.units + 1 := by
      first | exact Nat.le_refl _ | simp [Around.in1] | omega
    omega
  · obtain ⟨n, top⟩ := sortedHeap_at (vs := vs) (out := out.toArray) ol
    apply wpAny_pure
    refine ⟨_, rfl, fin _ s1.heap.objs.size n out (fun b u e => ?_) g1 o1 hz top ?_⟩
    · have lt := Heap.lt_size (kp b u e)
      show (sortedHeap (s1.heap.push (seqObj "list" vs.toArray 0)) s1.heap.objs.size vs out.toArray).get? b = some u
      rw [sortedHeap_old (Nat.ne_of_lt lt) (by rw [Heap.size_push]; exact Nat.lt_succ_of_lt lt)]
      exact Heap.get?_push_of_some _ (kp b u e)
    · rw [← srtK_perm pk k1]
      exact keys_rel eo
end
end DL

end 
/-! sorted(set(xs)), len(set(xs)) as expressions. -/
namespace DL
open PySem PySem.Spec PyProof.Rows L2 PySem.Froz
def tSortSet (K : PySem.W.Frag) (ta : TE) : TE := fun σ H Q => ta σ H fun x H1 => ∃ (l : Addr) (ks : List Key), x = .ref l ∧ SqL K H1 l (ks.map kV) ∧ ks.length ≤ 1000 ∧ canSort ((ddK ks).map kD) = true ∧
  ∀ p : Addr, H1 p = none → Q (.ref p) (upd H1 p (.lst ((srtK (ddK ks)).map kV)))
def tLenSet (K : PySem.W.Frag) (ta : TE) : TE := fun σ H Q => ta σ H fun x H1 => ∃ (l : Addr) (ks : List Key), x = .ref l ∧ SqL K H1 l (ks.map kV) ∧ ks.length ≤ 1000 ∧ Q (.int (ddK ks).length) H1
section
variable {X : Cx} {a : Expr} {ta : TE} {p p2 q pos : Pos}
theorem kids {ks : List Key} {its : List Value} (r : Vals (ks.map kV) its) : ks.length = its.toArray.size ∧ ∀ (i : Nat) (v : Value), its.toArray[i]? = some v → ∃ k, ks[i]? = some k ∧ keyIs k v = true := by
  obtain ⟨h1, h2⟩ := keys_vals r
  refine ⟨by rw [List.size_toArray, h1], fun i v e => h2 i v ?_⟩
  rw [List.getElem?_toArray] at e
  exact e
theorem pe_sortSet (hg : Gl X "sorted") (hm : X.mg "sorted" = none) (hg2 : Gl X "set") (hm2 : X.mg "set" = none) (hu : X.A.units + 64 < cLine) (ha : PE X a ta) (hc : X.calm = true := by rfl) (na : starEach [a] X.env = (false, eval a X.env) :: starEach [] X.env := by rfl) :
    PE X (.Call (.Name "sorted" p) [.Call (.Name "set" p2) [a] [] q] [] pos) (tSortSet X.K ta) := by
  constructor
  intro pins s σ H Q I h
  have b1 : bootBuiltins "sorted" = some (.builtin "sorted") := by decide +kernel
  apply Call_ (ld_blt I hg hm b1 _)
  apply PyProof.Rows.callWith_builtin1 (PyProof.Rows.args_cons _ rfl) rfl rfl
  apply Call_ (ld_blt I hg2 hm2 boot_set _)
  refine PyProof.Rows.callWith_type1 (PyProof.Rows.args_cons (thn (ha.run pins s σ H _ I h) fun v s1 ⟨x, H1, I1, r1, q1⟩ => PyProof.Rows.args_nil ?_) na) na rfl
  obtain ⟨l, ks, rfl, hq, few, cs, fin⟩ := q1
  cases r1
  obtain ⟨its, r, pl, _⟩ := I1.list hq
  obtain ⟨z1, z2⟩ := kids r
  have hd := I1.ok.hd hc
  refine set_of_list hd pl.isList z2 z1 (by unfold scanBound; omega) fun h' tk D o F kp => ?_
  apply PyProof.Rows.args_nil
  have d3 := (ddK_facts ks).2.2
  refine sorted_keys (s := { s1 with heap := h', toks := tk }) hd o F (by omega) cs hu fun s2 p0 n out kp2 g2 o2 hp top rel => ?_
  have ka : ∀ b u, s1.heap.get? b = some u → s2.heap.get? b = some u := fun b u e => kp2 b u (kp b u e)
  have hp2 : s1.heap.objs.size ≤ p0 := Nat.le_trans (Nat.le_of_lt (Heap.lt_size o)) hp
  have fr : H1 p0 = none := I1.hok.fresh hp2
  have sz : ((srtK (ddK ks)).map kV).length ≤ sizeLine := by
    rw [List.length_map, (List.mergeSort_perm _ _).length_eq, sizeLine_eq]
    omega
  exact ⟨.ref p0, upd H1 p0 (.lst ((srtK (ddK ks)).map kV)), I1.call' (ch := []) o2 (Un.laid ka hp2 fr) (I1.hok.laid ka hp2 ⟨sz, out, n, rel, top⟩) (by rw [g2]; exact I1.bare) (fun _ z => nomatch z), rfl, fin p0 fr⟩
theorem pe_lenSet (hg : Gl X "len") (hm : X.mg "len" = none) (hg2 : Gl X "set") (hm2 : X.mg "set" = none) (ha : PE X a ta) (hc : X.calm = true := by rfl) (na : starEach [a] X.env = (false, eval a X.env) :: starEach [] X.env := by rfl) :
    PE X (.Call (.Name "len" p) [.Call (.Name "set" p2) [a] [] q] [] pos) (tLenSet X.K ta) := by
  constructor
  intro pins s σ H Q I h
  apply Call_ (ld_blt I hg hm boot_len _)
  apply PyProof.Rows.callWith_builtin1 (PyProof.Rows.args_cons _ rfl) rfl rfl
  apply Call_ (ld_blt I hg2 hm2 boot_set _)
  refine PyProof.Rows.callWith_type1 (PyProof.Rows.args_cons (thn (ha.run pins s σ H _ I h) fun v s1 ⟨x, H1, I1, r1, q1⟩ => PyProof.Rows.args_nil ?_) na) na rfl
  obtain ⟨l, ks, rfl, hq, few, fin⟩ := q1
  cases r1
  obtain ⟨its, r, pl, _⟩ := I1.list hq
  obtain ⟨z1, z2⟩ := kids r
  refine set_of_list (I1.ok.hd hc) pl.isList z2 z1 (by unfold scanBound; omega) fun h' tk D o F kp => ?_
  apply PyProof.Rows.args_nil
  have d3 := (ddK_facts ks).2.2
  have sz := F.size
  have I2 : Inv X pins σ H1 { s1 with heap := h', toks := tk } := I1.kept kp
  refine call_len_set o ⟨rfl, rfl, rfl⟩ rfl F.fit (by rw [sz]; omega) ?_
  exact ⟨.int (ddK ks).length, H1, I2.tok _, ⟨_, by rw [sz]⟩, fin⟩
end
/-- sorted(set(x)), len(set(x)) -/
def dSortSet : Op1 := fun x μ => match items x μ with
  | some bs => match allD bs with
    | some ds => match keysD ds with
      | some ks => if decide (ks.length ≤ 1000) && canSort ((ddK ks).map kD) then .ok (.d (.list ((srtK (ddK ks)).map kD))) μ else .bad
      | none => .bad
    | none => .bad
  | none => .bad
def dLenSet : Op1 := fun x μ => match items x μ with
  | some bs => match allD bs with
    | some ds => match keysD ds with
      | some ks => if ks.length ≤ 1000 then .ok (.d (.int (ddK ks).length)) μ else .bad
      | none => .bad
    | none => .bad
  | none => .bad
theorem RpA_keys {K : PySem.W.Frag} {I : Hp} : ∀ {ks : List Key} {vs : List V}, RpA K I vs (ks.map kD) → vs = ks.map kV
  | [], _, h => by cases h; rfl
  | k :: ks, _, h => by
    cases h with
    | cons r t =>
      rw [RpA_keys t]
      cases k <;> (cases r; rfl)
theorem keys_RpA {K : PySem.W.Frag} {I : Hp} : ∀ ks : List Key, RpA K I (ks.map kV) (ks.map kD)
  | [] => .nil
  | .inl i :: ks => .cons (.int i) (keys_RpA ks)
  | .inr x :: ks => .cons (.str x) (keys_RpA ks)
section
variable {X : Cx} {G : GT} {W : WX} {a : Expr} {m : ME} {p p2 q pos : Pos}
theorem items_keys {w : Wd} {v : V} {μ : Store} {H : Hp} {b : Dv} {bs : List Dv} {ds : List D} {ks : List Key} (l : Lay G w μ H) (r : Rv G w v b) (e1 : items b μ = some bs) (e2 : allD bs = some ds) (e3 : keysD ds = some ks) : ∃ c, v = .ref c ∧ SqL G.K H c (ks.map kV) := by
  obtain ⟨c, vs, rfl, h1, h2⟩ := items_ok l r e1
  rw [allD_eq e2, keysD_map e3] at h2
  rw [RpA_keys (RpA_of_Rvs h2)] at h1
  exact ⟨c, rfl, h1⟩
theorem de_sortSet (hK : X.K = G.K) (hg : Gl X "sorted") (hm : X.mg "sorted" = none) (hg2 : Gl X "set") (hm2 : X.mg "set" = none) (hu : X.A.units + 64 < cLine) (ha : DE X G W a m) (hc : X.calm = true := by rfl) (na : starEach [a] X.env = (false, eval a X.env) :: starEach [] X.env := by rfl) :
    DE X G W (.Call (.Name "sorted" p) [.Call (.Name "set" p2) [a] [] q] [] pos) (e1 dSortSet m) := by
  refine PE.imp (pe_sortSet hg hm hg2 hm2 hu ha hc na) ?_
  rintro σ H Q ⟨w, μ, ρ, hl, he, pp⟩
  refine tD.seq (k := fun ρ x μ => dSortSet x μ) hl he pp fun w1 μ1 H1 v b l1 lay1 en1 r1 p1 => ?_
  unfold dSortSet at p1
  split at p1
  · rename_i bs e1
    split at p1
    · rename_i ds e2
      split at p1
      · rename_i ks e3
        split at p1
        · rename_i c
          rw [Bool.and_eq_true, decide_eq_true_eq] at c
          obtain ⟨n, rfl, h1⟩ := items_keys lay1 r1 e1 e2 e3
          have sz : ((srtK (ddK ks)).map kD).length ≤ sizeLine := by
            have := (ddK_facts ks).2.2
            rw [List.length_map, (List.mergeSort_perm _ _).length_eq, sizeLine_eq]
            omega
          refine ⟨n, ks, rfl, by rw [hK]; exact h1, c.1, c.2, ?_⟩
          refine (list_new (bs := ((srtK (ddK ks)).map kD).map .d) (W := W) (σ := σ) lay1 (Rvs_of_RpA (keys_RpA _)) ?_).2
          unfold dList
          rw [allD_map]
          show Pst G W σ (Rv G) w1 (if ((srtK (ddK ks)).map kD).length ≤ sizeLine then _ else _) Q
          rw [if_pos sz]
          exact p1
        · exact p1.elim
      · exact p1.elim
    · exact p1.elim
  · exact p1.elim
theorem de_lenSet (hK : X.K = G.K) (hg : Gl X "len") (hm : X.mg "len" = none) (hg2 : Gl X "set") (hm2 : X.mg "set" = none) (ha : DE X G W a m) (hc : X.calm = true := by rfl) (na : starEach [a] X.env = (false, eval a X.env) :: starEach [] X.env := by rfl) :
    DE X G W (.Call (.Name "len" p) [.Call (.Name "set" p2) [a] [] q] [] pos) (e1 dLenSet m) := by
  refine PE.imp (pe_lenSet hg hm hg2 hm2 ha hc na) ?_
  rintro σ H Q ⟨w, μ, ρ, hl, he, pp⟩
  refine tD.seq (k := fun ρ x μ => dLenSet x μ) hl he pp fun w1 μ1 H1 v b l1 lay1 en1 r1 p1 => ?_
  unfold dLenSet at p1
  split at p1
  · rename_i bs e1
    split at p1
    · rename_i ds e2
      split at p1
      · rename_i ks e3
        split at p1
        · rename_i c
          obtain ⟨n, rfl, h1⟩ := items_keys lay1 r1 e1 e2 e3
          exact ⟨n, ks, rfl, by rw [hK]; exact h1, c, p1 w1 _ H1 w1.le_refl lay1 (.int _)⟩
        · exact p1.elim
      · exact p1.elim
    · exact p1.elim
  · exact p1.elim
end
end DL

/-! a, b = x, y with cells among the values, or names that a comprehension reads. -/
namespace DL
open PySem PySem.Spec PyProof.Rows L2
def sAsgT (n : Nat) (ma : MA) (gs : MGs) : MS := fun ρ μ => (ma ρ μ).bind fun bs μ => if bs.length = n ∧ bs.length ≤ 1000 then (gs bs ρ μ).gb fun ρ μ => .ok (.nx ρ) μ else .bad
section
variable {X : Cx} {G : GT} {W : WX} {es tgs : List Expr} {mas : MA} {gs : MGs} {S : List Nat} {k k2 n : Nat} {pos tpos epos : Pos}
theorem asgT_imp (hK : X.K = G.K) : ∀ D σ H, tS G W (sAsgT n mas gs) D σ H → tAsg (tTup (tA G W mas)) (gTup X.K n (tGs G S gs)) D σ H := by
  rintro D σ H ⟨w, μ, ρ, hl, he, p⟩
  refine tD.seqS (k := fun ρ (bs : List Dv) μ => if bs.length = n ∧ bs.length ≤ 1000 then (gs bs ρ μ).gb fun ρ μ => .ok (.nx ρ) μ else .bad) hl he p fun w1 μ1 H1 vs bs l1 lay1 en1 r1 p1 => ?_
  split at p1
  · rename_i c
    have lv := Paired.length r1
    refine ⟨by rw [lv, sizeLine_eq]; omega, fun a na => ?_⟩
    obtain ⟨h1, h2, h3⟩ := lay1.na na
    have l2 := lay1.other h1 h2 h3 (.tup vs)
    refine ⟨a, vs, rfl, SqT.of upd_same, by rw [lv]; exact c.1, w1, μ1, ρ, bs, l2, en1, r1, ?_⟩
    cases q : gs bs ρ μ1 with
    | bad => rw [q] at p1; exact p1.elim
    | ex _ _ => rw [q] at p1; exact p1.elim
    | ok ρ2 μ2 =>
      rw [q] at p1
      exact fun w2 σ2 H2 l2 lay2 en2 _ => p1 w2 σ2 H2 l2 lay2 en2
  · exact p1.elim
theorem ds_asgT (hc : X.calm = true) (hK : X.K = G.K) (ha : DA X G W es mas) (hg : DGs X G S tgs gs) (hn : (assignEach tgs X.env).length = n := by rfl) (hst : (assignEach tgs X.env).findIdx? (·.1) = none := by rfl)
    (hs : swapsWithSole [.Tuple tgs k tpos] (.Tuple es k2 epos) pos.line X.env = pure false := by rfl) (hw : swappedStores [.Tuple tgs k tpos] (.Tuple es k2 epos) X.env = pure none := by rfl)
    (h1 : (assignEach [.Tuple tgs k tpos] X.env).map (·.2) = [assign (.Tuple tgs k tpos) X.env] := by rfl) : DS X G W (.Assign [.Tuple tgs k tpos] (.Tuple es k2 epos) pos) (sAsgT n mas gs) :=
  PS.imp (ps_asg (pe_tup ha) (pg_tup hc hg hn hst) hs hw h1) (asgT_imp hK)
end
end DL

/-! isinstance(x, T), T a built-in type. -/
namespace DL
open PySem PySem.Spec PyProof.Rows L2
/-- what type a value is of -/
def tyD : Dv → Store → Option String
  | .d .none, _ => some "NoneType"
  | .d (.bool _), _ => some "bool"
  | .d (.int _), _ => some "int"
  | .d (.str _), _ => some "str"
  | .d (.list _), _ => some "list"
  | .d (.tuple _), _ => some "tuple"
  | .d (.dict _), _ => some "dict"
  | .c n, μ => match μ[n]? with
    | some (.lst _) => some "list"
    | _ => none
  | _, _ => none
/-- kitB's answers for the types that stand here, as a table -/
def isiT (a T : String) : Bool := decide (a = T) || (decide (a = "bool") && decide (T = "int"))
def dIsi (T : String) : Op1 := fun x μ => match tyD x μ with
  | some a => .ok (.d (.bool (isiT a T))) μ
  | none => .bad
theorem kitB_all : (["NoneType", "bool", "int", "str", "list", "tuple", "dict"].all fun a => ["bool", "int", "str", "list", "tuple", "dict"].all fun b => kitB a b == some (isiT a b)) = true := by decide +kernel
theorem kitB_of {a b : String} (ha : a ∈ ["NoneType", "bool", "int", "str", "list", "tuple", "dict"]) (hb : b ∈ ["bool", "int", "str", "list", "tuple", "dict"]) : kitB a b = some (isiT a b) := by
  have := List.all_eq_true.mp (List.all_eq_true.mp kitB_all a ha) b hb
  exact eq_of_beq this
section
variable {X : Cx} {G : GT} {W : WX} {e : Expr} {m : ME} {p p2 pos : Pos} {T : String}
theorem tyx_list {K : PySem.W.Frag} {H : Hp} {a : Addr} {xs : List V} (h : SqL K H a xs) : TyX K H (.ref a) (.type "list") := by
  rcases h with (h | ⟨o, h⟩) | ⟨o, its, n, h1, h2, _⟩
  · exact .base (.lst h)
  · exact .base (.frz h)
  · exact .kList h1 h2
theorem tyx_tup {K : PySem.W.Frag} {H : Hp} {a : Addr} {xs : List V} (h : SqT K H a xs) : TyX K H (.ref a) (.type "tuple") := by
  rcases h with (h | ⟨o, h⟩) | ⟨o, its, n, h1, h2, _⟩
  · exact .base (.tup h)
  · exact .fTuple h
  · exact .kTuple h1 h2
theorem tyD_ok {w : Wd} {v : V} {μ : Store} {H : Hp} {b : Dv} {a : String} (l : Lay G w μ H) (r : Rv G w v b) (h : tyD b μ = some a) : TyX G.K H v (.type a) ∧ a ∈ ["NoneType", "bool", "int", "str", "list", "tuple", "dict"] := by
  cases b with
  | d x =>
    have r : Rp G.K H v x := Rp.inH l r
    cases r with
    | non => cases h; exact ⟨.base .non, by simp⟩
    | bl b => cases h; exact ⟨.base (.bl b), by simp⟩
    | int i => cases h; exact ⟨.base (.int i), by simp⟩
    | str x => cases h; exact ⟨.base (.str x), by simp⟩
    | lst hs ha => cases h; exact ⟨tyx_list hs, by simp⟩
    | tup hs ha => cases h; exact ⟨tyx_tup hs.t, by simp⟩
    | dic hs ha => cases h; exact ⟨.base (.dK hs), by simp⟩
  | c n =>
    unfold tyD at h
    simp only at h
    split at h
    · rename_i xs e
      cases h
      obtain ⟨a, ha, rfl⟩ := r
      obtain ⟨_, vs, e2, _⟩ := l.at_ n _ a e ha
      exact ⟨.base (.lst e2), by simp⟩
    · cases h
  | f n => cases h
theorem de_isi (hK : X.K = G.K) (hT : T ∈ ["bool", "int", "str", "list", "tuple", "dict"]) (hg : Gl X "isinstance") (hm : X.mg "isinstance" = none) (hg2 : Gl X (Str.ofString T)) (hm2 : X.mg (Str.ofString T) = none) (hv : bootBuiltins (Str.ofString T) = some (.type T)) (ha : DE X G W e m)
    (hn : Str.ofString T ≠ "__name__" := by decide) (hd : (Str.ofString T == ("__debug__" : Str)) = false := by decide) (h1 : starEach [e, .Name (Str.ofString T) p2] X.env = (false, eval e X.env) :: starEach [.Name (Str.ofString T) p2] X.env := by rfl)
    (h2 : starEach [.Name (Str.ofString T) p2] X.env = (false, eval (.Name (Str.ofString T) p2) X.env) :: starEach [] X.env := by rfl) (hpl : (backTo pos (starEach [.Name (Str.ofString T) p2] X.env)).any (·.1) = false := by rfl) :
    DE X G W (.Call (.Name "isinstance" p) [e, .Name (Str.ofString T) p2] [] pos) (e1 (dIsi T) m) := by
  have b1 : bootBuiltins "isinstance" = some (.builtin "isinstance") := by decide +kernel
  refine PE.imp (pe_callB call_isi hg hm b1 (pa_cons ha (pa_cons (pe_bltn hg2 hm2 hv (v := .ty T) rfl hn hd) pa_nil h2) h1) (by decide) (by decide) h1 hpl) ?_
  rintro σ H Q ⟨w, μ, ρ, hl, he, pp⟩
  refine tD.seq (k := fun ρ x μ => dIsi T x μ) hl he pp fun w1 μ1 H1 v b l1 lay1 en1 r1 p1 => ?_
  unfold dIsi at p1
  split at p1
  · rename_i a ea
    obtain ⟨t1, t2⟩ := tyD_ok lay1 r1 ea
    refine ⟨v, .ty T, .type a, .type T, isiT a T, rfl, .ty T, by rw [hK]; exact t1, kit_ty (kitB_of t2 hT), p1 w1 _ H1 w1.le_refl lay1 (.bl _)⟩
  · exact p1.elim
end
end DL

/-! {} as data, repr of data in which dicts are empty. -/
namespace DL
open PySem PySem.Spec PyProof.Rows L2
/-! ### {} -/
def eDic0 : ME := fun _ μ => .ok (.d (.dict [])) μ
theorem de_dic0 {X : Cx} {G : GT} {W : WX} {pos : Pos} : DE X G W (.Dict [] [] pos) eDic0 := by
  refine PE.imp pe_dnewK ?_
  rintro σ H Q ⟨w, μ, ρ, hl, he, p⟩
  intro a na
  obtain ⟨le, lay⟩ := hl.new na (.dK [])
  exact p _ (.ref a) _ le lay (.dic (kvs := []) upd_same .nil)
/-! ### repr -/
mutual
def dic0 : D → Bool
  | .list ds => dic0s ds
  | .tuple ds => dic0s ds
  | .dict ps => ps.isEmpty
  | _ => true
def dic0s : List D → Bool
  | [] => true
  | d :: ds => dic0 d && dic0s ds
end
section
variable {X : Cx} {pins : List (Addr × Obj)} {σ : L2.St} {H : Hp} {s : Shared}
mutual
theorem reprE (I : Inv X pins σ H s) : ∀ (d : D) (v : V) (u : Value), Rp X.K H v d → dic0 d = true → RelV v u → d.showable = true → d.shown.length ≤ sizeLine →
    ∃ as bs, Reads s.heap u d as ∧ ReadAtMost s.heap d.depth bs ∧ ReprK X.prog X.w bs s.heap d.depth u d.shown
  | .none, _, _, h, _, r, _, _ => by
    cases h
    cases r
    exact ⟨_, [], .none, (fun _ h => nomatch h), by simp only [PyData.shown]; exact .of_is ReprIs.none _ _ _⟩
  | .bool b, _, _, h, _, r, _, _ => by
    cases h
    cases r
    exact ⟨_, [], .bool b, (fun _ h => nomatch h), by simp only [PyData.shown]; exact .of_is (ReprIs.bool b) _ _ _⟩
  | .int i, _, _, h, _, r, hs, _ => by
    cases h
    obtain ⟨t, rfl⟩ := r
    exact ⟨_, [], .int i t, (fun _ h => nomatch h), by simp only [PyData.shown]; exact .of_is (ReprIs.int t (by simpa [PyData.showable] using hs)) _ _ _⟩
  | .str x, _, _, h, _, r, _, hz => by
    cases h
    obtain ⟨t, rfl⟩ := r
    exact ⟨_, [], .str x t, (fun _ h => nomatch h), by simp only [PyData.shown]; exact .of_is (ReprIs.str x t (by simpa only [PyData.shown] using hz)) _ _ _⟩
  | .list ds, _, _, h, e, r, hs, hz => by
    cases h with
    | @lst a _ _ hs' ha =>
      cases r
      obtain ⟨its, rv, ⟨o, n, ho, hc, _, hd⟩, _⟩ := I.list hs'
      have hz' : (listText (PyData.shownAll ds)).length ≤ sizeLine := by simpa only [PyData.shown] using hz
      obtain ⟨as, bs, hr, hb, hk⟩ := reprEs I ds _ its ha (by simpa only [dic0] using e) rv (by simpa [PyData.showable] using hs) (fun t ht => Nat.le_trans (listText_mem_le ht) hz')
      have r : Reads s.heap (.ref a) (.list ds) _ := .list ho hc hd hr
      have hna : a ∉ bs := not_mem_of_deeper r (by simp only [PyData.depth]; omega) hb
      refine ⟨_, a :: bs, r, ReadAtMost.cons r (by simp only [PyData.depth]; omega) hb, ?_⟩
      simp only [PyData.depth, PyData.shown]
      cases its with
      | nil =>
        cases hr
        simp only [PyData.shownAll, listText_nil]
        exact ReprK.listEmpty ho hc hd
      | cons x l => exact ReprK.list ho hc hd hna (by simpa using hk.length_eq) (fun i y e => hk.item i y (by simpa using e))
  | .tuple ds, _, _, h, e, r, hs, hz => by
    cases h with
    | @tup a _ _ hs' ha =>
      cases r
      obtain ⟨its, rv, ⟨o, ho, hc, n, hd⟩, _⟩ := I.tuple hs'.t
      have hz' : (tupleText (PyData.shownAll ds)).length ≤ sizeLine := by simpa only [PyData.shown] using hz
      obtain ⟨as, bs, hr, hb, hk⟩ := reprEs I ds _ its ha (by simpa only [dic0] using e) rv (by simpa [PyData.showable] using hs) (fun t ht => Nat.le_trans (tupleText_mem_le ht) hz')
      have r : Reads s.heap (.ref a) (.tuple ds) _ := .tuple ho hc hd hr
      have hna : a ∉ bs := not_mem_of_deeper r (by simp only [PyData.depth]; omega) hb
      refine ⟨_, a :: bs, r, ReadAtMost.cons r (by simp only [PyData.depth]; omega) hb, ?_⟩
      simp only [PyData.depth, PyData.shown]
      exact ReprK.tuple ho hc hd hna hk
  | .dict ps, _, _, h, e, r, hs, hz => by
    cases ps with
    | cons _ _ => simp [dic0] at e
    | nil =>
      cases h with
      | @dic a kvs _ hd ha =>
        cases ha
        cases r
        obtain ⟨_, hsys, vs, kv, o, es, ep, ho, hx, hdt, _, pr, _⟩ := dk_of I.hok hd
        cases kv
        obtain ⟨es⟩ := es
        cases pr
        have r : Reads s.heap (.ref a) (.dict []) _ := .dict ho hx.1 hdt .nil .nil
        refine ⟨_, [a], r, ReadAtMost.cons (n := 0) r (by simp) (fun _ h => nomatch h), ?_⟩
        have := ReprK.dict (prog := X.prog) (w := X.w) (as := []) (d := 0) ho hx.1 hdt hsys (by simp) .nil
        exact this
theorem reprEs (I : Inv X pins σ H s) : ∀ (ds : List D) (vs : List V) (us : List Value), RpA X.K H vs ds → dic0s ds = true → Vals vs us → PyData.showableAll ds = true → (∀ t ∈ PyData.shownAll ds, t.length ≤ sizeLine) →
    ∃ as bs, ReadsAll s.heap us ds as ∧ ReadAtMost s.heap (PyData.depthAll ds) bs ∧ ReprAllK X.prog X.w bs s.heap (PyData.depthAll ds) us (PyData.shownAll ds)
  | [], _, _, h, _, r, _, _ => by
    cases h
    cases r
    exact ⟨_, [], .nil, (fun _ h => nomatch h), by simp only [PyData.shownAll]; exact .nil⟩
  | d :: ds, _, _, h, e, r, hs, hz => by
    cases h with
    | cons h1 h2 =>
      cases r with
      | cons r1 r2 =>
        simp only [dic0s, Bool.and_eq_true] at e
        have hs' : d.showable = true ∧ PyData.showableAll ds = true := by simpa [PyData.showableAll] using hs
        obtain ⟨a1, b1, q1, hb1, k1⟩ := reprE I d _ _ h1 e.1 r1 hs'.1 (hz _ (by simp only [PyData.shownAll]; exact List.mem_cons_self ..))
        obtain ⟨a2, b2, q2, hb2, k2⟩ := reprEs I ds _ _ h2 e.2 r2 hs'.2 (fun t ht => hz t (by simp only [PyData.shownAll]; exact List.mem_cons_of_mem _ ht))
        refine ⟨_, b1 ++ b2, .cons q1 q2, ?_, ?_⟩
        · simp only [PyData.depthAll]
          exact (hb1.mono (Nat.le_max_left _ _)).append (hb2.mono (Nat.le_max_right _ _))
        · simp only [PyData.depthAll, PyData.shownAll]
          exact .cons ((k1.more fun b hb => List.mem_append_left _ hb).level_le (Nat.le_max_left _ _)) (k2.more_le (fun b hb => List.mem_append_right _ hb) (Nat.le_max_right _ _))
end
theorem showsE (I : Inv X pins σ H s) {a : Addr} {d : D} (h : Rp X.K H (.ref a) d) (e : dic0 d = true) (hs : d.showable = true) (hz : d.shown.length ≤ sizeLine) : ∃ T idr, ShowsBy X.prog X.w s.heap a d T idr := by
  cases h with
  | @lst _ xs ds hs' ha =>
    obtain ⟨its, rv, ⟨o, n, ho, hc, _, hd⟩, _⟩ := I.list hs'
    have hz' : (listText (PyData.shownAll ds)).length ≤ sizeLine := by simpa only [PyData.shown] using hz
    obtain ⟨as, bs, hr, hb, hk⟩ := reprEs I ds _ its ha (by simpa only [dic0] using e) rv (by simpa [PyData.showable] using hs) (fun t ht => Nat.le_trans (listText_mem_le ht) hz')
    have hna : a ∉ bs := not_mem_of_deeper (.list ho hc hd hr) (by simp only [PyData.depth]; omega) hb
    refine ⟨"list", "list.__repr__", F.slot_list_repr.toG, F.slot_list_str, F.slot_list_format, fun s hk0 => ⟨o, hk0 _ _ ho, hc⟩, fun A E s Q hg hu hk0 hQ => ?_⟩
    simp only [PyData.depth] at hu
    simp only [PyData.shown] at hQ
    cases its with
    | nil =>
      cases hr
      simp only [PyData.shownAll, listText_nil] at hQ
      exact call_list_repr_empty ⟨o, hk0 _ _ ho, hc⟩ (hk0 _ _ ho) hd (hQ s.heap _ _ fun _ _ e => e)
    | cons x l => exact call_list_reprK ho hc hd hna (by simpa using hk.length_eq) (fun i y e => hk.item i y (by simpa using e)) hg (fun b _ => Clear.nil b) hu hk0 hQ hz'
  | @tup _ xs ds hs' ha =>
    obtain ⟨its, rv, ⟨o, ho, hc, n, hd⟩, _⟩ := I.tuple hs'.t
    have hz' : (tupleText (PyData.shownAll ds)).length ≤ sizeLine := by simpa only [PyData.shown] using hz
    obtain ⟨as, bs, hr, hb, hk⟩ := reprEs I ds _ its ha (by simpa only [dic0] using e) rv (by simpa [PyData.showable] using hs) (fun t ht => Nat.le_trans (tupleText_mem_le ht) hz')
    have hna : a ∉ bs := not_mem_of_deeper (.tuple ho hc hd hr) (by simp only [PyData.depth]; omega) hb
    refine ⟨"tuple", "tuple.__repr__", F.slot_tuple_repr, F.slot_tuple_str, F.slot_tuple_format, fun s hk0 => ⟨o, hk0 _ _ ho, hc⟩, fun A E s Q hg hu hk0 hQ => ?_⟩
    simp only [PyData.depth] at hu
    simp only [PyData.shown] at hQ
    exact call_tuple_reprK ho hc hd hna hk hg (fun b _ => Clear.nil b) hu hk0 hQ hz'
  | @dic _ kvs ps hd ha =>
    cases ps with
    | cons _ _ => simp [dic0] at e
    | nil =>
      cases ha
      obtain ⟨_, hsys, vs, kv, o, es, ep, ho, hx, hdt, _, pr, _⟩ := dk_of I.hok hd
      cases kv
      obtain ⟨es⟩ := es
      cases pr
      refine ⟨"dict", "dict.__repr__", F.slot_dict_repr, F.slot_dict_str, F.slot_dict_format, fun s hk0 => ⟨o, hk0 _ _ ho, hx.1⟩, fun A E s Q hg hu hk0 hQ => ?_⟩
      simp only [PyData.depth] at hu
      exact call_dict_reprK (as := []) (d := 0) ho hx.1 hdt hsys (by simp) .nil hg (fun b _ => Clear.nil b) (by simpa [PyData.depthKv] using hu) hk0 hQ (by simpa only [PyData.shown, PyData.shownKv] using hz)
end
def rReprE (K : PySem.W.Frag) : List V → Hp → VK → Prop := fun xs H Q => ∃ x d, xs = [x] ∧ Rp K H x d ∧ d.showable = true ∧ dic0 d = true ∧ d.depth ≤ 40 ∧ d.shown.length ≤ sizeLine ∧ Q (.str d.shown) H
theorem call_reprE {X : Cx} (g : X.A.guards = some []) (hu : X.A.units + 64 < cLine) : CallR X (.builtin "repr") (rReprE X.K) := by
  intro pins s σ H xs us Q I r h
  obtain ⟨x, d, rfl, dp, sh, nd, dep, sz, q⟩ := h
  obtain ⟨u, rfl, r1⟩ := vals1 r
  have fin : ∀ h' u tk, (∀ b o, s.heap.get? b = some o → h'.get? b = some o) → EP X pins σ Q (.str d.shown u) { s with heap := h', toks := tk } := fun h' u tk hk => ⟨.str d.shown, H, I.kept hk, ⟨u, rfl⟩, q⟩
  have go : ∀ a, x = .ref a → wpAny (model X.prog X.w) X.A (call (.builtin "repr") [u]) (EP X pins σ Q) X.xe s := fun a ea => by
    subst ea
    cases r1
    obtain ⟨T, idr, S⟩ := showsE I dp nd sh sz
    exact call_repr_slot (by omega) (S.typeIs s fun _ _ e => e) S.slotRepr (S.call X.A.in1 _ s _ g (by show X.A.units + 1 + d.depth < cLine; omega) (fun _ _ e => e) fun h' u tk hk => ⟨_, _, rfl, fin h' u tk hk⟩)
  cases d with
  | none => cases dp; cases r1; exact PySem.P.repr_of_none (fin s.heap _ _ fun _ _ e => e)
  | bool b => cases dp; cases r1; exact PySem.P.repr_of_bool (fin s.heap _ _ fun _ _ e => e)
  | int i => cases dp; obtain ⟨t, rfl⟩ := r1; exact PySem.P.repr_of_int (by simpa [PyData.showable] using sh) (fin s.heap _ _ fun _ _ e => e)
  | str z => cases dp; obtain ⟨t, rfl⟩ := r1; exact PySem.P.repr_of_str (fin s.heap _ _ fun _ _ e => e) (hsz := by simpa [PyData.shown] using sz)
  | list ds => cases dp; exact go _ rfl
  | tuple ds => cases dp; exact go _ rfl
  | dict ds => cases dp; exact go _ rfl
/-- repr of data in which dicts are empty -/
def dReprE : OpN := n1 fun b μ => match view b μ with
  | some d => if (d.showable && dic0 d && decide (d.depth ≤ 40) && decide (d.shown.length ≤ sizeLine)) = true then .ok (.d (.str d.shown)) μ else .bad
  | none => .bad
theorem ok_reprE {G : GT} : OkN G (rReprE G.K) dReprE := by
  apply ok_n1
  intro W σ w μ H x b Q l r p
  split at p
  · rename_i d h
    split at p
    · rename_i h2
      simp only [Bool.and_eq_true, decide_eq_true_eq] at h2
      exact ⟨x, d, rfl, view_ok l r h, h2.1.1.1, h2.1.1.2, h2.1.2, h2.2, p w _ H w.le_refl l (.str _)⟩
    · exact p.elim
  · exact p.elim
end DL

/-! == of sequences of unlike lengths; x in (texts) for any x. -/
namespace DL
open PySem PySem.Spec PyProof.Rows L2
open PySem.SeqAt (EqAt RcAt RcNeAt)
theorem any_ff : ∀ l : List Value, (l.any fun _ => false) = false
  | [] => rfl
  | _ :: l => by rw [List.any_cons, any_ff l]; rfl
/-! ### a text and a dict -/
section
variable {A : Around} {s : Shared}
theorem dict_eq_declines {prog : Program} {w : World} {E : Value → Shared → Prop} {l : Addr} {o : Obj} (b : Str) (u : Tok) (ho : s.heap.get? l = some o) (hc : o.cls = .type "dict") {Q : Value → Shared → Prop} (h : Q .notImplemented s) :
    wpAny (model prog w) A (call (.builtin "dict.__eq__") [.ref l, .str b u]) Q E s := by
  have hT : s.TypeIs (.ref l) "dict" := ⟨o, ho, hc⟩
  refine wpAny_call_entry PySem.F.slot_dict_eq hT PySem.F.entry_dict_eq ?_ (PySem.F.args_dict_eq_2 _ _)
  show wpAny _ _ (Builtin.Dict.dictSlotArgs "__eq__" ⟨[.ref l, .str b u], []⟩ >>= _) _ _ s
  refine wpAny_bind ?_
  unfold Builtin.Dict.dictSlotArgs
  refine wpAny_bind (wpAny_notOrdered_dict hT ?_)
  show wpAny _ _ (pure (Value.ref l, Value.str b u)) _ _ s
  refine wpAny_pure ?_
  refine wpAny_bind (wpAny_isInstance (T := "str") (typeIs_str s b u) PySem.F.sub_str_dict ?_)
  simp only [Bool.not_false, if_true]
  exact wpAny_bind (wpAny_rule (wpAny_pure ⟨_, rfl, h⟩))
theorem str_eq_declines_dict (b : Str) (u : Tok) (l : Addr) (c : Value) (es : Array DictEntry) (n : Nat) (dd : Option Addr) (sl : Array (Option Value)) :
    Meets (Builtin.«str.__eq__» ⟨[.str b u, .ref l], []⟩) (fun _ R s => s.heap.get? l = some { cls := c, dict := dd, data := .dict es n, slots := sl } ∧ R (.ok (.ret .notImplemented)) s) :=
  .of_wp fun prog w A R s h => by obtain ⟨hp, g, d, tk, os⟩ := s; obtain ⟨hl, h⟩ := h; wp_walk using AutoSeq1.wpAny_loadPart' hl, wpAny_load hl; exact ⟨_, rfl, h⟩
theorem eqAt_str_dict {l : Addr} {o : Obj} {es : Array DictEntry} {n : Nat} (b : Str) (u : Tok) (ho : s.heap.get? l = some o) (hc : o.cls = .type "dict") (hd : o.data = .dict es n) (hu : A.units < cLine) : EqAt A s (.str b u) (.ref l) false := fun prog w E Q h => by
  unfold eqBool
  refine wpAny_holding ?_
  refine wpAny_ite_split (fun hab => absurd (eq_of_beq hab) nofun) (fun _ => ?_)
  refine wpAny_bind ?_
  obtain ⟨cls, dd, data, sl⟩ := o
  simp only at hc hd
  subst hc hd
  exact PySem.SeqAt.rc_eq_decline_or (k := false) (typeIs_str s b u) ⟨_, ho, rfl⟩ (by decide) PySem.F.sub_dict_str PySem.F.slot_str_eq PySem.F.slot_dict_eq_refl
    (fun _ hq => PySem.call_meets PySem.F.slot_str_eq (typeIs_str s b u) PySem.F.entry_str_eq (PySem.F.args_str_eq_2 _ _) (str_eq_declines_dict b u l (.type "dict") es n dd sl) ⟨ho, hq⟩)
    (fun _ hq => dict_eq_declines b u ho rfl hq)
    (fun _ hq => wpAny_of_eq (rfl : isSame (.str b u) (.ref l) = pure false) hq) (.inr hu) (wpAny_truthy_bool h)
end
/-! ### unlike lengths -/
def lenEq : D → D → Option Bool
  | .tuple [], .tuple (_ :: _) => some false
  | .tuple (_ :: _), .tuple [] => some false
  | .list a, .list b => if a.length = b.length then none else some false
  | _, _ => none
def rEqL (K : PySem.W.Frag) (neg : Bool) : R2 := fun x y H Q => ∃ a b k, Rp K H x a ∧ Rp K H y b ∧ lenEq a b = some k ∧ Q (.bl (if neg then !k else k)) H
section
variable {X : Cx}
theorem op_eqL (hu : X.A.units + 64 < cLine) : OpR X (compareOp .Eq) (rEqL X.K false) := by
  intro pins s σ H x y v u Q I rx ry h
  obtain ⟨a, b, k, ra, rb, hl, q⟩ := h
  unfold lenEq at hl
  split at hl
  · cases hl
    cases ra with
    | tup h1 _ => cases rb with
      | tup h2 t =>
        cases rx; cases ry
        cases ‹RpA _ _ _ []›
        cases t
        obtain ⟨i1, r1, p1, _⟩ := I.tuple h1.t
        obtain ⟨i2, r2, p2, _⟩ := I.tuple h2.t
        cases r1
        cases r2
        exact SeqAt.eq_tupleAt (e := fun _ => true) p1 p2 (by omega) (fun j j1 _ => by simp at j1) ⟨.bl _, H, I, rfl, by simpa using q⟩
  · cases hl
    cases ra with
    | tup h1 t => cases rb with
      | tup h2 t2 =>
        cases rx; cases ry
        cases t2
        cases t
        obtain ⟨i1, r1, p1, _⟩ := I.tuple h1.t
        obtain ⟨i2, r2, p2, _⟩ := I.tuple h2.t
        cases r1
        cases r2
        exact SeqAt.eq_tupleAt (e := fun _ => true) p1 p2 (by omega) (fun j _ j2 => by simp at j2) ⟨.bl _, H, I, rfl, by simpa using q⟩
  · rename_i ds es
    split at hl
    · cases hl
    · rename_i hn
      cases hl
      cases ra with
      | lst h1 t => cases rb with
        | lst h2 t2 =>
          cases rx; cases ry
          obtain ⟨i1, r1, p1, _⟩ := I.list h1
          obtain ⟨i2, r2, p2, _⟩ := I.list h2
          have e1 := r1.length
          have e2 := r2.length
          have e3 := t.length
          have e4 := t2.length
          exact SeqAt.eq_list_lengthsAt p1.isList p2.isList (by simp; omega) (by omega) ⟨.bl _, H, I, rfl, q⟩
  · cases hl
theorem op_neL (hu : X.A.units + 64 < cLine) : OpR X (compareOp .NotEq) (rEqL X.K true) := by
  intro pins s σ H x y v u Q I rx ry h
  obtain ⟨a, b, k, ra, rb, hl, q⟩ := h
  unfold lenEq at hl
  split at hl
  · cases hl
    cases ra with
    | tup h1 _ => cases rb with
      | tup h2 t =>
        cases rx; cases ry
        cases ‹RpA _ _ _ []›
        cases t
        obtain ⟨i1, r1, p1, _⟩ := I.tuple h1.t
        obtain ⟨i2, r2, p2, _⟩ := I.tuple h2.t
        cases r1
        cases r2
        exact RcNeAt.tuples (e := fun _ => true) p1 p2 (by omega) (fun j j1 _ => by simp at j1) _ _ _ _ ⟨.bl _, H, I, rfl, by simpa using q⟩
  · cases hl
    cases ra with
    | tup h1 t => cases rb with
      | tup h2 t2 =>
        cases rx; cases ry
        cases t2
        cases t
        obtain ⟨i1, r1, p1, _⟩ := I.tuple h1.t
        obtain ⟨i2, r2, p2, _⟩ := I.tuple h2.t
        cases r1
        cases r2
        exact RcNeAt.tuples (e := fun _ => true) p1 p2 (by omega) (fun j _ j2 => by simp at j2) _ _ _ _ ⟨.bl _, H, I, rfl, by simpa using q⟩
  · rename_i ds es
    split at hl
    · cases hl
    · rename_i hn
      cases hl
      cases ra with
      | lst h1 t => cases rb with
        | lst h2 t2 =>
          cases rx; cases ry
          obtain ⟨i1, r1, p1, _⟩ := I.list h1
          obtain ⟨i2, r2, p2, _⟩ := I.list h2
          have e1 := r1.length
          have e2 := r2.length
          have e3 := t.length
          have e4 := t2.length
          exact RcNeAt.lists_lengths p1.isList p2.isList (by simp; omega) (by omega) _ _ _ _ ⟨.bl _, H, I, rfl, q⟩
  · cases hl
end
def rEqX (K : PySem.W.Frag) : R2 := fun x y H Q => rEqA K x y H Q ∨ rEqL K false x y H Q
def rNeX (K : PySem.W.Frag) : R2 := fun x y H Q => rNeA K x y H Q ∨ rEqL K true x y H Q
theorem op_eqX {X : Cx} (hu : X.A.units + 64 < cLine) : OpR X (compareOp .Eq) (rEqX X.K) := (op_eqA hu).or (op_eqL hu)
theorem op_neX {X : Cx} (hu : X.A.units + 64 < cLine) : OpR X (compareOp .NotEq) (rNeX X.K) := (op_neA hu).or (op_neL hu)
/-- == of data, of sequences of unlike lengths whatever stands in them -/
def dEqX (neg : Bool) : Op2 := fun x y μ => match view x μ, view y μ with
  | some a, some b => match lenEq a b with
    | some k => .ok (.d (.bool (if neg then !k else k))) μ
    | none => dEq neg x y μ
  | _, _ => dEq neg x y μ
section
variable {G : GT}
theorem ok_eqX : Ok2 G (rEqX G.K) (dEqX false) := by
  intro W σ w μ H x y b c Q l rx ry p
  unfold dEqX at p
  split at p
  · rename_i a1 b1 h1 h2
    split at p
    · rename_i k hk
      exact .inr ⟨a1, b1, k, view_ok l rx h1, view_ok l ry h2, hk, p w _ H w.le_refl l (.bl _)⟩
    · exact .inl (ok_eq W σ w μ H x y b c Q l rx ry p)
  · exact .inl (ok_eq W σ w μ H x y b c Q l rx ry p)
theorem ok_neX : Ok2 G (rNeX G.K) (dEqX true) := by
  intro W σ w μ H x y b c Q l rx ry p
  unfold dEqX at p
  split at p
  · rename_i a1 b1 h1 h2
    split at p
    · rename_i k hk
      exact .inr ⟨a1, b1, k, view_ok l rx h1, view_ok l ry h2, hk, p w _ H w.le_refl l (.bl _)⟩
    · exact .inl (ok_ne W σ w μ H x y b c Q l rx ry p)
  · exact .inl (ok_ne W σ w μ H x y b c Q l rx ry p)
end
/-! ### x in (texts) -/
def bigD : D → Bool
  | .list _ => true | .tuple _ => true | .dict [] => true
  | _ => false
def allStr : List D → Bool
  | [] => true
  | .str _ :: r => allStr r
  | _ :: _ => false
def rInX (K : PySem.W.Frag) (neg : Bool) : R2 := fun x y H Q => ∃ p xs ds d, y = .ref p ∧ (SqL K H p xs ∨ SqT K H p xs) ∧ RpA K H xs ds ∧ allStr ds = true ∧ Rp K H x d ∧ bigD d = true ∧ Q (.bl neg) H
section
variable {X : Cx}
theorem big_eqAt {pins : List (Addr × Obj)} {σ : L2.St} {H : Hp} {s : Shared} (I : Inv X pins σ H s) {A : Around} (hu : A.units < cLine) {v : V} {u : Value} {d : D} (r : Rp X.K H v d) (ru : RelV v u) (hb : bigD d = true) (y : Str) (t : Tok) : EqAt A s (.str y t) u false := by
  cases r with
  | lst h _ =>
    cases ru
    obtain ⟨_, _, p, _⟩ := I.list h
    exact EqAt.str_list y t p.isList hu
  | tup h _ =>
    cases ru
    obtain ⟨_, _, p, _⟩ := I.tuple h.t
    exact EqAt.str_tuple y t p hu
  | dic h _ =>
    cases ru
    obtain ⟨_, hsys, vs, kv, o, es, ep, ho, hx, hdt, _, pr, _⟩ := dk_of I.hok h
    exact eqAt_str_dict y t ho hx.1 hdt hu
  | _ => cases hb
theorem strs_of {pins : List (Addr × Obj)} {σ : L2.St} {H : Hp} {s : Shared} (I : Inv X pins σ H s) : ∀ {ds : List D} {xs : List V} {us : List Value}, RpA X.K H xs ds → Vals xs us → allStr ds = true → ∀ u ∈ us, ∃ y t, u = .str y t
  | [], _, _, h, r, _ => by cases h; cases r; simp
  | .str y :: ds, _, _, h, r, e => by
    cases h with
    | cons h1 h2 =>
      cases r with
      | cons r1 r2 =>
        cases h1
        obtain ⟨t, rfl⟩ := r1
        intro u hu
        rcases List.mem_cons.mp hu with rfl | hu
        · exact ⟨_, _, rfl⟩
        · exact strs_of I h2 r2 e u hu
  | .none :: _, _, _, _, _, e => by cases e
  | .bool _ :: _, _, _, _, _, e => by cases e
  | .int _ :: _, _, _, _, _, e => by cases e
  | .list _ :: _, _, _, _, _, e => by cases e
  | .tuple _ :: _, _, _, _, _, e => by cases e
  | .dict _ :: _, _, _, _, _, e => by cases e
theorem op_inX0 (hu : X.A.units + 64 < cLine) : OpR X (compareOp .In) (rInX X.K false) := by
  intro pins s σ H x y v u Q I rx ry h
  obtain ⟨p, xs, ds, d, rfl, hq, ra, hs, rd, hb, q⟩ := h
  cases ry
  rcases hq with hq | hq
  · obtain ⟨its, r, pl, hz⟩ := I.list hq
    have st := strs_of I ra r hs
    refine SeqAt.in_listAt (fun _ => false) pl.isList (fun w hw => ?_) ⟨.bl _, H, I, rfl, ?_⟩
    · obtain ⟨y, t, rfl⟩ := st w (by simpa using hw)
      exact big_eqAt I (by show X.A.units + 1 < cLine; omega) rd rx hb y t
    · rw [List.any_toArray, any_ff]; exact q
  · obtain ⟨its, r, pl, hz⟩ := I.tuple hq
    have st := strs_of I ra r hs
    refine SeqAt.in_tupleAt (fun _ => false) pl (fun w hw => ?_) ⟨.bl _, H, I, rfl, ?_⟩
    · obtain ⟨y, t, rfl⟩ := st w (by simpa using hw)
      exact big_eqAt I (by show X.A.units + 1 < cLine; omega) rd rx hb y t
    · rw [List.any_toArray, any_ff]; exact q
def rInZ (K : PySem.W.Frag) : R2 := fun x y H Q => rInA K false x y H Q ∨ rInX K false x y H Q
theorem op_inX (hu : X.A.units + 64 < cLine) : OpR X (compareOp .In) (rInZ X.K) := op_inA.or (op_inX0 hu)
end
def allDD : List Dv → Option (List D)
  | [] => some []
  | .d x :: r => match allDD r with
    | some xs => some (x :: xs)
    | none => none
  | _ :: _ => none
theorem allDD_eq : ∀ {bs : List Dv} {ds : List D}, allDD bs = some ds → bs = ds.map .d
  | [], _, h => by cases h; rfl
  | .d x :: r, _, h => by
    unfold allDD at h
    cases q : allDD r with
    | none => rw [q] at h; cases h
    | some xs => rw [q] at h; cases h; rw [allDD_eq q]; rfl
  | .c _ :: _, _, h => by cases h
  | .f _ :: _, _, h => by cases h
/-- x in y, y's items texts where x is a list, a tuple, a dict -/
def dInX : Op2 := fun x y μ => match x with
  | .d a => if bigD a = true then match itemsA y μ with
      | some bs => match allDD bs with
        | some ds => if allStr ds = true then .ok (.d (.bool false)) μ else .bad
        | none => .bad
      | none => .bad
    else dIn false x y μ
  | _ => dIn false x y μ
theorem ok_inX {G : GT} : Ok2 G (rInZ G.K) dInX := by
  intro W σ w μ H x y b c Q l rx ry p
  unfold dInX at p
  split at p
  · rename_i a
    split at p
    · rename_i hb
      split at p
      · rename_i bs h1
        split at p
        · rename_i ds h2
          split at p
          · rename_i h3
            obtain ⟨a', vs, rfl, g1, g2⟩ := itemsA_ok l ry h1
            rw [allDD_eq h2] at g2
            exact .inr ⟨a', vs, ds, a, rfl, g1, RpA.mono l.same _ _ (RpA_of_Rvs g2), h3, Rp.inH l rx, hb, p w _ H w.le_refl l (.bl _)⟩
          · exact p.elim
        · exact p.elim
      · exact p.elim
    · exact .inl (ok_in W σ w μ H x y _ c Q l rx ry p)
  · exact .inl (ok_in W σ w μ H x y _ c Q l rx ry p)
end DL

/-! sorting by keys that are tuples, compared item by item as far as they are alike: (0, 0) and (1, "a") too. -/
namespace DL
open PySem PySem.Spec PyProof.Rows L2 PySem.SeqAt PySem.W PySem.Calls
/-- Python can say which tuple is less -/
def lexAl : List D → List D → Bool
  | x :: xs, y :: ys => alike x y && (!PyData.eqv x y || lexAl xs ys)
  | _, _ => true
def keyAl : D → D → Bool
  | .tuple xs, .tuple ys => lexAl xs ys
  | _, _ => false
def intKey : D → Bool
  | .tuple (.int _ :: _) => true
  | _ => false
theorem intKey_ok {d : D} (h : intKey d = true) : ∃ i r, d = .tuple (.int i :: r) := by
  unfold intKey at h
  split at h
  · exact ⟨_, _, rfl⟩
  · cases h
section
variable {prog : Program} {w : World} {A : Around} {s : Shared}
theorem katLex_lex {b fin : Bool} {Q : Bool → Shared → Prop} : ∀ (xs ys : List D) (i : Nat) (vs ws : List Value) (as bs : List Addr), ReadsAll s.heap vs xs as → ReadsAll s.heap ws ys bs → lexAl xs ys = true →
    A.units + min (PyData.depthAll xs) (PyData.depthAll ys) < cLine → (b = true → i = 0 → ∀ x r t, xs = x :: r → x ≠ .tuple t) → fin = decide (xs.length < ys.length) → Q (PyProof.Rows.lexLt itemOrd (keyToksAll xs) (keyToksAll ys)) s → KatLex prog w A b fin Q (vs.zip ws) i s
  | [], ys, i, vs, ws, as, bs, ra, rb, _, hu, hb, hf, hq => katLex_alike [] ys i vs ws as bs ra rb (by simp [alikeAll]) hu hb hf hq
  | x :: xs, [], i, vs, ws, as, bs, ra, rb, _, hu, hb, hf, hq => katLex_alike (x :: xs) [] i vs ws as bs ra rb (by simp [alikeAll]) hu hb hf hq
  | x :: xs, y :: ys, i, _, _, _, _, ra, rb, h, hu, hb, hf, hq => by
    simp only [lexAl, Bool.and_eq_true, Bool.or_eq_true, Bool.not_eq_true'] at h
    obtain ⟨h1, h2⟩ := h
    have hf' : fin = decide (xs.length < ys.length) := by
      rw [hf]
      simp only [List.length_cons, Nat.add_lt_add_iff_right]
    cases ra with
    | cons r rs =>
      cases rb with
      | cons r' rs' =>
        rw [List.zip_cons_cons]
        refine kat_cons (eqAt_alike x y A s _ _ _ _ r r' h1 (room_head hu) prog w _ _ ?_)
        cases hx : PyData.eqv x y with
        | true =>
          rw [dataLt_all_yes h1 hx] at hq
          exact kat_yes (katLex_lex xs ys (i + 1) _ _ _ _ rs rs' (h2.resolve_left (by rw [hx]; simp)) (room_tail hu) (fun _ hi => absurd hi (Nat.succ_ne_zero i)) hf' hq)
        | false =>
          rw [dataLt_all_no h1 hx] at hq
          refine kat_no (oneLt_alike (fun hbi t => ?_) r r' h1 (ne_none_of h1 hx) (room_head hu) hq)
          rw [Bool.and_eq_true] at hbi
          exact hb hbi.1 (by simpa using hbi.2) x xs t rfl
theorem dk_key {h : Heap} {ds : List D} {v : Value} {d : D} {as : List Addr} (hd : d ∈ ds) (r : Reads h v d as) : (dataKind h ds).keyOf v = some (keyToks d) := by
  have q : ∃ d, d ∈ ds ∧ ∃ as, Reads h v d as := ⟨d, hd, as, r⟩
  have e : (dataKind h ds).keyOf v = some (keyToks q.choose) := by
    show (open Classical in if q : ∃ d, d ∈ ds ∧ ∃ as, Reads h v d as then some (keyToks q.choose) else none) = _
    rw [dif_pos q]
  obtain ⟨h1, as', h2⟩ := q.choose_spec
  rw [e, (PyProof.Rows.reads_det (fun _ _ e _ => e) h2 r).1]
theorem sortsLex {vs : List Value} {ds : List D} (e : EachIs (fun v d => ∃ as, Reads s.heap v d as) vs ds) (hal : ∀ d ∈ ds, ∀ d' ∈ ds, keyAl d d' = true) (hi : ∀ d ∈ ds, intKey d = true) (hu : ∀ d, d ∈ ds → A.units + d.depth < cLine) : SortsAt prog w A s (dataKind s.heap ds) vs := by
  refine ⟨fun v hv => ?_, ?_⟩
  · obtain ⟨d, hd, as, r⟩ := e.left v hv
    exact ⟨_, dk_key hd r⟩
  · have ht : ∀ d, d ∈ ds → ∃ x r, d = PyData.tuple (x :: r) := fun d hd => by
      obtain ⟨i, r, e⟩ := intKey_ok (hi d hd)
      exact ⟨_, _, e⟩
    refine ⟨tuples' (dataType (.int 0) != Value.type "tuple"), ?_, fun h2 E Q hq => ?_⟩
    · intro E x y a b Q ha hb hq
      obtain ⟨d, as, hd, ra, rfl⟩ := dataKind_inv ha
      obtain ⟨d', as', hd', rb, rfl⟩ := dataKind_inv hb
      have hdd := hal d hd d' hd'
      have hroom : A.units + min d.depth d'.depth < cLine := Nat.lt_of_le_of_lt (Nat.add_le_add_left (Nat.min_le_left _ _) _) (hu d hd)
      obtain ⟨x1, r1, rfl⟩ := intKey_ok (hi d hd)
      obtain ⟨x2, r2, rfl⟩ := intKey_ok (hi d' hd')
      have hq' : Q (dataLt (.tuple (.int x1 :: r1)) (.tuple (.int x2 :: r2))) s := hq
      rw [dataLt_tuple] at hq'
      cases ra with
      | @tuple l o xs n _ _ h1 h2 h3 h4 =>
        cases rb with
        | @tuple l' o' xs' n' _ _ k1 k2 k3 k4 =>
          have n1 : xs.size = (PyData.int x1 :: r1).length := by simpa using SeqAt.ReadsAll.length _ _ _ h4
          have n2 : xs'.size = (PyData.int x2 :: r2).length := by simpa using SeqAt.ReadsAll.length _ _ _ k4
          refine kat_lt h1 h3 k1 k3 (katLex_lex (.int x1 :: r1) (.int x2 :: r2) 0 _ _ _ _ h4 k4 hdd (by have q := SeqAt.room_in hroom; omega) (fun hb _ x r t ex => ?_) (by rw [n1, n2]) hq')
          obtain ⟨rfl, rfl⟩ := List.cons.inj ex
          exact fun z => by cases z
    · obtain ⟨fs, t1, t2, t3⟩ := each_katTups e ht
      refine kat_kind (T := dataType (.int 0)) t1 (by omega) (fun f hf => ?_) (beq_self_eq_true _) hq
      obtain ⟨x, r, as, m1, m2⟩ := t3 f hf
      obtain ⟨i, r', ei⟩ := intKey_ok (hi _ m1)
      cases ei
      have z := looks_reads (M := model prog w) m2
      exact z
end
/-! ### sorted(xs, key=f) -/
section
variable {prog : Program} {w : World} {A : Around} {s : Shared} {β : Type}
/-- what the keys' walk and the sort behind it come to -/
theorem lex_rest {a kS : Addr} {e1 : Nat} {vs : List Value} {bs : List β} {R : Value → β → Prop} {k : β → D} {f : Value} {h₁ : Heap} {P : PySem.Fin → Shared → Prop} {E : Value → Shared → Prop} (kp : KeepsBut a h₁ s.heap) (hkS : h₁.get? kS = none)
    (nk : s.heap.get? kS = some (seqObj "list" #[] 0)) (na : s.heap.get? a = some (seqObj "list" #[] e1)) (hka : kS ≠ a) (eR : EachIs R vs bs) (hZ : bs.length ≤ sizeLine)
    (hal : ∀ d ∈ bs.map k, ∀ d' ∈ bs.map k, keyAl d d' = true) (hi : ∀ d ∈ bs.map k, intKey d = true) (hself : ∀ d ∈ bs.map k, alike d d = true) (hu : ∀ d, d ∈ bs.map k → A.units + d.depth < cLine)
    (turn : ∀ (i : Nat) (v : Value) (d : D), vs[i]? = some v → (bs.map k)[i]? = some d → ∀ (h : Heap) (tk : Nat), KeepsBut a h₁ h →
      wpAny (model prog w) A (call f [v]) (KeyPure d { s with heap := h, toks := tk }) (fun _ _ => False) { s with heap := h, toks := tk })
    (h : ∀ h' tk out c, KeepsBut a h₁ h' → h'.get? a = some (seqObj "list" (List.toArray out) c) → out.length = bs.length → EachIs R out (bs.mergeSort (dataLe false k)) → P (.done (.ret .none)) { s with heap := h', toks := tk }) :
    wpAny (model prog w) A (ksk_rest a f false vs.toArray e1 (.ref kS)) P E s := by
  have hlv : vs.length = bs.length := eR.length
  have hlk : (bs.map k).length = vs.length := by rw [List.length_map]; exact hlv.symm
  unfold ksk_rest
  refine wpAny_bind (wpAny_rule ?_)
  first
    | rw [List.forIn_toArray]
    | (rw [← Array.forIn_toList]; simp only [List.toList_toArray])
    | rw [← Array.forIn_toList]
  refine wpAny_bind (ksk_fold (fun i s' => ∃ g tk kA c, s' = { s with heap := g, toks := tk } ∧ KeepsBut a h₁ g ∧ g.get? kS = some (seqObj "list" kA c) ∧ g.get? a = some (seqObj "list" #[] e1) ∧ EachIs (fun v d => Reads g v d [] ∧ alike d d = true) kA.toList ((bs.map k).take i)) vs 0 s
    ⟨s.heap, s.toks, #[], 0, rfl, kp, nk, na, by rw [List.take_zero]; exact EachIs.nil⟩ ?step ?done)
  case step =>
    rintro j x s' hx ⟨g0, tk, kA, c, rfl, kp', nk', na', hk⟩
    simp only [Nat.zero_add] at hk ⊢
    have hj : j < vs.length := (List.getElem?_eq_some_iff.mp hx).1
    obtain ⟨d, hd⟩ : ∃ d, (bs.map k)[j]? = some d := ⟨_, List.getElem?_eq_getElem (by omega)⟩
    have hdd : alike d d = true := hself d (List.mem_of_getElem? hd)
    have hz : kA.size ≤ vs.length := by
      have h1 := hk.length
      rw [Array.length_toList, List.length_take] at h1
      omega
    refine wpAny_bind (wpAny_attempt (wpAny_mono (turn j x d hx hd g0 tk kp') (fun v s'' he => ?_) fun _ _ hF => hF.elim))
    obtain ⟨g, tk2, rfl, hg, hr⟩ := he
    try dsimp only
    have nk2 : g.get? kS = some (seqObj "list" kA c) := hg _ _ nk'
    have na2 : g.get? a = some (seqObj "list" #[] e1) := hg _ _ na'
    have s1 := Heap.SameBut.update g kS (Obj.mapSeq (·.push v))
    obtain ⟨c2, hc2⟩ : ∃ c2, (g.update kS (Obj.mapSeq (·.push v))).get? kS = some (seqObj "list" (kA.push v) c2) := ⟨_, get?_update_seq nk2 (·.push v)⟩
    have ek : (bs.map k).take (j + 1) = (bs.map k).take j ++ [d] := by rw [List.take_add_one, hd]; simp
    have ea : (kA.push v).toList = kA.toList ++ [v] := by simp
    refine wpAny_bind (listUpdate_at nk2 rfl ?_ (by omega) (Nat.le_trans (Nat.le_of_eq (Array.size_push ..)) (by omega)))
    have keepS : ∀ (u : Value) (d : D), Reads g u d [] ∧ alike d d = true → Reads (g.update kS (Obj.mapSeq (·.push v))) u d [] ∧ alike d d = true := fun u d q =>
      ⟨Reads.keepBut (a := kS) (fun b o hb e => (s1.2 b hb).trans e) (fun o e => by rw [nk2] at e; rw [← Option.some.inj e]) d u [] q.2 q.1 (by simp), q.2⟩
    refine wpAny_pure ⟨rfl, _, _, kA.push v, c2, rfl, (kp'.trans_all hg).same s1 (.inr hkS), hc2, (s1.2 a hka.symm).trans na2, ?_⟩
    rw [ea, ek]
    refine each_snoc (R := fun (u : Value) (d : D) => Reads (g.update kS (Obj.mapSeq (·.push v))) u d [] ∧ alike d d = true) (keepS v d ⟨hr, hdd⟩) ?_
    exact hk.mono fun u d q => keepS u d ⟨PyProof.Rows.Reads.keeps hg q.1, q.2⟩
  case done =>
    rintro s' ⟨g, tk, kA, c, rfl, kp', nk', na', hk⟩
    have hk' : EachIs (fun v d => ∃ as, Reads g v d as) kA.toList (bs.map k) := by
      have e3 : (bs.map k).take (0 + vs.length) = bs.map k := List.take_of_length_le (by omega)
      rw [e3] at hk
      exact hk.mono fun v d q => ⟨[], q.1⟩
    have hsz : kA.size = vs.length := by
      have h1 := hk'.length
      rw [Array.length_toList] at h1
      omega
    try dsimp only
    refine wpAny_bind (listItems_at nk' rfl ?_)
    refine keyH_end (κ := dataKind g (bs.map k)) (h₁ := h₁) kp' hkS nk' na' hka (sortsLex (s := { s with heap := g, toks := tk }) hk' hal hi hu) hsz (by omega) fun h3 tk3 c k3 n3 => h h3 tk3 _ c k3 n3 ?_ ?_
    · rw [sortVals_length false (by rw [Array.length_toList]; exact hsz)]
      exact hlv
    · exact sortVals_each (κ := dataKind g (bs.map k)) (fun b => keyToks (k b)) eR (each_of_map k ((each_mem hk').mono fun _ _ ⟨⟨_, r⟩, hd⟩ => dk_key hd r))
theorem sorted_lex {l : Addr} {vs : List Value} {bs : List β} {R : Value → β → Prop} {f : Addr} {Q : Value → Shared → Prop} {E : Value → Shared → Prop} (k : β → D) (hl : s.heap.IsList l vs.toArray) (e : EachIs R vs bs)
    (hal : ∀ d ∈ bs.map k, ∀ d' ∈ bs.map k, keyAl d d' = true) (hi : ∀ d ∈ bs.map k, intKey d = true) (hself : ∀ d ∈ bs.map k, alike d d = true) (hL : bs.length ≤ sizeLine) (hu : ∀ d, d ∈ bs.map k → A.units + 2 + d.depth < cLine)
    (turn : ∀ (v : Value) (x : β), R v x → x ∈ bs → ∀ (h : Heap) (tk : Nat), (∀ b o, s.heap.get? b = some o → h.get? b = some o) →
      wpAny (model prog w) A.in1.in1 (call (.ref f) [v]) (KeyPure (k x) { s with heap := h, toks := tk }) (fun _ _ => False) { s with heap := h, toks := tk })
    (h : ∀ out c h' tk, (∀ b o, s.heap.get? b = some o → h'.get? b = some o) → h'.get? (s.heap.objs.size + 1) = some (seqObj "list" (List.toArray out) c) → out.length = bs.length → EachIs R out (bs.mergeSort (dataLe false k)) →
      Q (.ref (s.heap.objs.size + 1)) { s with heap := h', toks := tk }) :
    wpAny (model prog w) A (call (.builtin "sorted") [.ref l] [(Str.ofString "key", .ref f)]) Q E s := by
  have up : ∀ {g : Heap}, KeepsBut (s.heap.objs.size + 1) (copyHeap s.heap vs) g → ∀ b o, s.heap.get? b = some o → g.get? b = some o := fun {g} kp b o q =>
    kp b o (Nat.ne_of_lt (Nat.lt_succ_of_lt (Heap.lt_size q))) (copyHeap_old q)
  refine sorted_of_sort hl (by rw [e.length]; exact hL) (ksk_s1 _ _) (fun _ => ksk_l1 _ _) fun E' => ?_
  rw [ksk_t1]
  have ho := copyHeap_at s.heap vs
  have ha : s.heap.objs.size + 1 < (copyHeap s.heap vs).objs.size := Heap.lt_size ho
  obtain ⟨e1, ho1⟩ : ∃ e1, ((copyHeap s.heap vs).update (s.heap.objs.size + 1) (Obj.mapSeq fun _ => (#[] : Array Value))).get? (s.heap.objs.size + 1) = some (seqObj "list" #[] e1) := ⟨_, get?_update_seq ho fun _ => #[]⟩
  have hkS : (((copyHeap s.heap vs).update (s.heap.objs.size + 1) (Obj.mapSeq fun _ => (#[] : Array Value))).push (seqObj "tuple" vs.toArray 0)).objs.size = (copyHeap s.heap vs).objs.size + 1 := by rw [size_push', Heap.size_update]
  have hZ : vs.length ≤ sizeLine := by rw [e.length]; exact hL
  unfold ksk_tree
  refine wpAny_bind (listItems_at (s := { s with heap := copyHeap s.heap vs }) ho rfl ?_)
  refine wpAny_bind (listUpdate_at (s := { s with heap := copyHeap s.heap vs }) ho rfl ?_ (by rw [List.size_toArray]; exact hZ) (Nat.zero_le _))
  refine wpAny_bind (seqEpoch_at ho1 rfl ?_)
  refine wpAny_bind (wpAny_newTuple ?_ (by show vs.length ≤ _; exact hZ))
  refine wpAny_bind (wpAny_newList ?_ (Nat.zero_le _))
  refine wpAny_holding ?_
  have kp : KeepsBut (s.heap.objs.size + 1) (copyHeap s.heap vs) (sortingHeap (copyHeap s.heap vs) (s.heap.objs.size + 1) vs) := fun b o hb q => sortingHeap_old hb q
  refine lex_rest (h₁ := copyHeap s.heap vs) (bs := bs) (R := R) (k := k) (s := { s with heap := (((copyHeap s.heap vs).update (s.heap.objs.size + 1) (Obj.mapSeq fun _ => (#[] : Array Value))).push (seqObj "tuple" vs.toArray 0)).push (seqObj "list" #[] 0) })
    (kS := (((copyHeap s.heap vs).update (s.heap.objs.size + 1) (Obj.mapSeq fun _ => (#[] : Array Value))).push (seqObj "tuple" vs.toArray 0)).objs.size)
    kp (Heap.get?_none_of_le (by rw [hkS]; exact Nat.le_succ _)) (Heap.get?_push_size _ rfl) (Heap.get?_push_of_some _ (Heap.get?_push_of_some _ ho1)) (by rw [hkS]; exact Nat.ne_of_gt (Nat.lt_succ_of_lt ha)) e hL hal hi hself
    (fun d hd => by show A.units + 1 + 1 + d.depth < cLine; have := hu d hd; omega)
    (keyH_turns (s := { s with heap := (((copyHeap s.heap vs).update (s.heap.objs.size + 1) (Obj.mapSeq fun _ => (#[] : Array Value))).push (seqObj "tuple" vs.toArray 0)).push (seqObj "list" #[] 0) }) e fun v x hR hx h tk kp => turn v x hR hx h tk (up kp)) fun h' tk out c kp hD hlo ko => ⟨rfl, ?_⟩
  exact h out c h' tk (up kp) hD hlo ko
end
end DL

/-! sorted(xs, key=f) where f tells (0, 0) of None, (1, x) of x. -/
namespace DL
open PySem PySem.Spec PyProof.Rows L2
open PySem.W (EachIs alike dataLe KeyPure)
/-- what such an f gives -/
def rkD : D → D
  | .none => .tuple [.int 0, .int 0]
  | d => .tuple [.int 1, d]
inductive AtomR : V → D → Prop
  | non : AtomR .non .none
  | int (i : Int) : AtomR (.int i) (.int i)
  | str (x : Str) : AtomR (.str x) (.str x)
theorem AtomR.rp {K : PySem.W.Frag} {I : Hp} {v : V} {d : D} (h : AtomR v d) : Rp K I v d := by
  cases h <;> constructor
def atomD : D → Bool
  | .none => true | .int _ => true | .str _ => true
  | _ => false
theorem atomR_of {K : PySem.W.Frag} {I : Hp} {v : V} {d : D} (r : Rp K I v d) (h : atomD d = true) : AtomR v d := by
  cases r <;> first | constructor | cases h
theorem AtomR.reads {v : V} {d : D} {u : Value} (h : AtomR v d) (r : RelV v u) (hp : Heap) : Reads hp u d [] := by
  cases h with
  | non => cases r; exact .none
  | int i => obtain ⟨t, rfl⟩ := r; exact .int i t
  | str x => obtain ⟨t, rfl⟩ := r; exact .str x t
structure KeyFn (P : Program) (w : World) (K : PySem.W.Frag) (mg : Str → Option Value) (x : Str) (f : Addr) : Prop where
  mg : mg x = some (.ref f)
  run : ∀ (A : Around) (s : Shared) (E : Value → Shared → Prop) (v : V) (u : Value) (d : D), K.In s.heap → s.heap.NoLimit → A.depth < recursionLimit → AtomR v d → RelV v u → wpAny (model P w) A (call (.ref f) [u]) (KeyPure (rkD d) s) E s
def KeyF (P : Program) (w : World) (K : PySem.W.Frag) (mg : Str → Option Value) (x : Str) : Prop := ∃ f, KeyFn P w K mg x f
theorem keyFn_of {P : Program} {w : World} {K : PySem.W.Frag} {mg : Str → Option Value} {name qual x : Str} {st : Stmt} {f : Addr} {fd : FuncData} (F : Fun K name qual st f fd) (hm : mg name = some (.ref f)) (S : FnScope [x] [x] (defScope st))
    (hl : (defScope st).names.lookup x = some .local) (B : Binds K fd [x] []) (hx : (x == ("__debug__" : Str)) = false)
    (hb : ∃ p1 p2 p3 p4 p5 p6 p7 p8 p9 p10 p11 j1 j2 j3 j4 c1 c2, defBody st = [.Return (some (.IfExp (.Compare (.Name x p1) [.Is] [.Constant .none j1 p2] p3) (.Tuple [.Constant (.int 0) j2 p4, .Constant (.int 0) j3 p5] c1 p6) (.Tuple [.Constant (.int 1) j4 p7, .Name x p8] c2 p9) p10)) p11]) :
    KeyF P w K mg name := by
  refine ⟨f, hm, fun A s E v u d inK nolim room at_ ru => ?_⟩
  obtain ⟨oc, od, kV, doc, pm, an, cdv, ct, osl, rfl, lk, hcd⟩ := F.ex
  obtain ⟨p1, p2, p3, p4, p5, p6, p7, p8, p9, p10, p11, j1, j2, j3, j4, c1, c2, hb⟩ := hb
  have bt := B s [u] inK rfl
  have bt : BindsTo s _ ⟨[u], []⟩ [(x, u)] := bt
  rw [hb] at bt lk
  apply wpAny_call
  apply codeAny_call_function room (inK _ _ lk) rfl S.co S.gen rfl (PySem.W.codeRec_of inK hcd) (bt _ _ _ _ _)
  apply wpAny_newFunctionEnv_cells S.kind (fun z hz => by rw [List.mem_singleton] at hz; subst hz; exact .inl hl)
  rintro env rfl s1 xx
  refine ⟨nolim.keeps xx.toInCall.keep, ?_⟩
  apply codeAny_func
  have hk : (newEnv (defScope st) s.heap.objs.size mainGlobals (cellsFrom (s.heap.objs.size + 1) (defScope st).names []) (qual ++ ".<locals>.") (some f) cdv none builtinsNs).kindOf x = some .local := hl
  have hns := xx.toInCall.ns
  have hval : ∀ kO : Str → Option NameKind, kO x = some .local → bindL kO [(x, u)] (fun _ => none) x = some u := fun kO hk => by simp [bindL, hk]
  obtain ⟨g, tk, rfl⟩ := xx.toInCall.same
  have keep := xx.toInCall.keep
  have ld : ∀ (A' : Around) (E' : Value → Shared → Prop) (Q : Value → Shared → Prop) (s2 : Shared) (pos : Pos), (∃ tk2, s2 = { s with heap := g, toks := tk2 }) → Q u s2 → wpAny (model P w) A' (eval (.Name x pos) (newEnv (defScope st) s.heap.objs.size mainGlobals (cellsFrom (s.heap.objs.size + 1) (defScope st).names []) (qual ++ ".<locals>.") (some f) cdv none builtinsNs)) Q E' s2 := fun A' E' Q s2 pos ⟨tk2, e⟩ hq => by
    subst e
    exact wpAny_Name (wpAny_loadName_local S.kind hk hns (hval _ hk) hq) hx
  have fin : ∀ (vs : List Value) (tk2 : Nat), ReadsAll (g.push { cls := .type "tuple", data := .seq vs.toArray }) vs (match rkD d with | .tuple ds => ds | _ => []) [] → KeyPure (rkD d) s (.ref g.objs.size) { s with heap := g.push { cls := .type "tuple", data := .seq vs.toArray }, toks := tk2 } := fun vs tk2 r => by
    refine ⟨_, tk2, rfl, fun b o e => Heap.get?_push_of_some _ (keep b o e), ?_⟩
    have : ∃ ds, rkD d = .tuple ds := by unfold rkD; split <;> exact ⟨_, rfl⟩
    obtain ⟨ds, e⟩ := this
    rw [e] at r ⊢
    exact .tuple (Heap.get?_push_size _ rfl) rfl rfl r
  refine wpAny_execs_cons (wpAny_Return_some (wpAny_IfExp (wpAny_isTrue_Compare1 (ld _ _ _ _ _ ⟨_, rfl⟩ (Constant_none (is_none_gen (wpAny_truthy_bool ?_)))) (by rfl))))
  cases at_ with
  | non =>
    cases ru
    simp only [decide_true, if_true]
    refine wpAny_Tuple_spliced (Calls.spliced_cons (wpAny_Constant_int (k := j2) (pos := p4) (Calls.spliced_cons (wpAny_Constant_int (k := j3) (pos := p5) (Calls.spliced_nil ⟨by show 2 ≤ sizeLine; decide +kernel, ?_⟩)))))
    exact fin _ _ (.cons (.int _ _) (.cons (.int _ _) .nil))
  | int i =>
    obtain ⟨t, rfl⟩ := ru
    have e0 : decide (Value.int i t = Value.none) = false := by simp
    simp only [e0, Bool.false_eq_true, if_false]
    refine wpAny_Tuple_spliced (Calls.spliced_cons (wpAny_Constant_int (k := j4) (pos := p7) (Calls.spliced_cons (ld _ _ _ _ p8 ⟨_, rfl⟩ (Calls.spliced_nil ⟨by show 2 ≤ sizeLine; decide +kernel, ?_⟩)))))
    exact fin _ _ (.cons (.int _ _) (.cons (.int _ _) .nil))
  | str i =>
    obtain ⟨t, rfl⟩ := ru
    have e0 : decide (Value.str i t = Value.none) = false := by simp
    simp only [e0, Bool.false_eq_true, if_false]
    refine wpAny_Tuple_spliced (Calls.spliced_cons (wpAny_Constant_int (k := j4) (pos := p7) (Calls.spliced_cons (ld _ _ _ _ p8 ⟨_, rfl⟩ (Calls.spliced_nil ⟨by show 2 ≤ sizeLine; decide +kernel, ?_⟩)))))
    exact fin _ _ (.cons (.int _ _) (.cons (.str _ _) .nil))
/-! ### the layer's rule -/
abbrev srtR (ds : List D) : List D := ds.mergeSort (dataLe false rkD)
abbrev srtRZ (zs : List (V × D)) : List (V × D) := zs.mergeSort (dataLe false fun z => rkD z.2)
theorem srtRZ_snd (zs : List (V × D)) : (srtRZ zs).map Prod.snd = srtR (zs.map Prod.snd) := PySem.W.sort_maps Prod.snd fun _ _ _ _ => rfl
def canKey (ds : List D) : Bool := (ds.all fun d => ds.all fun e => keyAl (rkD d) (rkD e)) && ds.all atomD
def rSortK (K : PySem.W.Frag) (f : Addr) : List V → List V → Hp → VK → Prop := fun vs ks H Q => ∃ (a : Addr) (zs : List (V × D)), vs = [V.ref a] ∧ ks = [V.ref f] ∧ SqL K H a (zs.map Prod.fst) ∧ (∀ z ∈ zs, AtomR z.1 z.2) ∧ canKey (zs.map Prod.snd) = true ∧
  ∀ p : Addr, H p = none → Q (.ref p) (upd H p (.lst ((srtRZ zs).map Prod.fst)))
theorem rk_depth {d : D} (h : atomD d = true) : (rkD d).depth ≤ 2 := by
  cases d <;> simp_all [atomD, rkD, PyData.depth, PyData.depthAll]
theorem rk_int {d : D} : intKey (rkD d) = true := by
  cases d <;> rfl
theorem rk_self {d : D} (h : atomD d = true) : alike (rkD d) (rkD d) = true := by
  cases d <;> simp_all [atomD, rkD, alike, PySem.W.alikeAll]
theorem AtomR.atom {v : V} {d : D} (h : AtomR v d) : atomD d = true := by cases h <;> rfl
section
variable {X : Cx}
theorem Inv.deep {pins : List (Addr × Obj)} {σ : L2.St} {H : Hp} {s : Shared} (I : Inv X pins σ H s) : X.K.In s.heap ∧ s.heap.NoLimit := ⟨I.kIn, I.nolimit⟩
theorem cr_sortK {x : Str} {f : Addr} (F : KeyFn X.prog X.w X.K X.mg x f) (hd : X.A.depth < recursionLimit) (hu : X.A.units + 64 < cLine) : CallRK X (.builtin "sorted") [Str.ofString "key"] (rSortK X.K f) := by
  intro pins s σ H vs ks us ws Q I r rz h
  obtain ⟨a, zs, rfl, rfl, hs, hat, hc, q⟩ := h
  obtain ⟨w1, rfl, e1⟩ := vals1 rz
  obtain rfl : w1 = Value.ref f := e1
  obtain ⟨its, rv, hl, hz⟩ := I.list hs
  rw [Vals.ref1 r]
  have hn : zs.length ≤ sizeLine := by
    rw [List.length_map] at hz
    exact hz
  unfold canKey at hc
  rw [Bool.and_eq_true, List.all_eq_true] at hc
  have memk : ∀ d ∈ zs.map (fun z => rkD z.2), ∃ z ∈ zs, d = rkD z.2 := fun d hd => by
    obtain ⟨z, hz, e⟩ := List.mem_map.mp hd
    exact ⟨z, hz, e.symm⟩
  refine sorted_lex (k := fun z : V × D => rkD z.2) hl.isList (each_rel rv) (fun d hd d' hd' => ?_) (fun d hd => ?_) (fun d hd => ?_) hn (fun d hd => ?_) (fun v z hv hz h' tk kp => ?_) fun out c h' tk kp hD hlo eo => ?_
  · obtain ⟨z, hz, rfl⟩ := memk d hd
    obtain ⟨z', hz', rfl⟩ := memk d' hd'
    exact List.all_eq_true.mp (hc.1 z.2 (List.mem_map_of_mem hz)) z'.2 (List.mem_map_of_mem hz')
  · obtain ⟨z, hz, rfl⟩ := memk d hd
    exact rk_int
  · obtain ⟨z, hz, rfl⟩ := memk d hd
    exact rk_self (hat z hz).atom
  · obtain ⟨z, hz, rfl⟩ := memk d hd
    have := rk_depth (hat z hz).atom
    omega
  · exact F.run _ _ _ z.1 v z.2 (I.kIn.keeps kp) (I.nolimit.keeps kp) hd (hat z hz) hv
  · have sz : ((srtRZ zs).map Prod.fst).length ≤ sizeLine := by
      rw [List.length_map, (List.mergeSort_perm zs _).length_eq]
      exact hn
    refine ⟨.ref (s.heap.objs.size + 1), upd H (s.heap.objs.size + 1) (.lst ((srtRZ zs).map Prod.fst)), ?_, rfl, q _ (I.hok.fresh (Nat.le_succ _))⟩
    exact I.laid (t' := tk) kp (Nat.le_succ _) ⟨sz, out, c, rel_each eo, hD⟩
theorem pe_glob {x : Str} {f : Addr} {p : Pos} (hg : Gl X x) (hm : X.mg x = some (.ref f)) (hd : (x == ("__debug__" : Str)) = false) : PE X (.Name x p) (tC (.ref f)) := ⟨fun pins s σ H Q I h => ld_glob I hg hm ⟨.ref f, H, I, rfl, h⟩ hd⟩
end
/-- sorted(xs, key=rank) -/
def dSortK : Op1 := fun x μ => match items x μ with
  | some bs => match allD bs with
    | some ds => if canKey ds = true then dList ((srtR ds).map .d) μ else .bad
    | none => .bad
  | none => .bad
theorem RpA_atoms {K : PySem.W.Frag} {I : Hp} {zs : List (V × D)} (h : ∀ z ∈ zs, AtomR z.1 z.2) : RpA K I (zs.map Prod.fst) (zs.map Prod.snd) := RpA_of_zip fun z m => (h z m).rp
section
variable {X : Cx} {G : GT} {W : WX} {e : Expr} {m : ME} {p p2 pos : Pos} {x : Str} {kp : Pos}
theorem de_sortK (hK : X.K = G.K) (F : KeyF X.prog X.w X.K X.mg x) (hd : X.A.depth < recursionLimit) (hu : X.A.units + 64 < cLine) (hg : Gl X "sorted") (hm : X.mg "sorted" = none) (hgx : Gl X x) (ha : DE X G W e m) (hdx : (x == ("__debug__" : Str)) = false := by decide)
    (hna : starEach [e] X.env = (false, eval e X.env) :: starEach [] X.env := by rfl)
    (he : backTo pos (starEach [e] X.env) = (false, eval e X.env) :: backTo pos (starEach [] X.env) := by rfl) (hpl : (backTo pos (starEach [e] X.env)).any (·.1) = false := by rfl)
    (hall : (backToKw pos (keywordEach [⟨some (Str.ofString "key"), .Name x p2, kp⟩] X.env)).all (·.1.isSome) = true := by rfl) (hnone : (backToKw pos (keywordEach [⟨some (Str.ofString "key"), .Name x p2, kp⟩] X.env)).any (·.1.isNone) = false := by rfl) (hks : (backToKw pos (keywordEach [⟨some (Str.ofString "key"), .Name x p2, kp⟩] X.env)).filterMap (·.1) = [Str.ofString "key"] := by rfl) :
    DE X G W (.Call (.Name "sorted" p) [e] [⟨some (Str.ofString "key"), .Name x p2, kp⟩] pos) (e1 dSortK m) := by
  obtain ⟨f, F⟩ := F
  refine PE.imp (pe_callBK (cr_sortK F hd hu) hg hm (by decide +kernel) (pa_cons ha pa_nil hna) (pk_cons (pe_glob hgx F.mg hdx) pk_nil) (by decide) (by decide) he hpl hall hnone hks) ?_
  rintro σ H Q ⟨w, μ, ρ, hl, hen, pp⟩
  refine tD.seq (k := fun ρ x μ => dSortK x μ) hl hen pp fun w1 μ1 H1 v b l1 lay1 en1 r1 p1 => ?_
  unfold dSortK at p1
  split at p1
  · rename_i bs e0
    split at p1
    · rename_i ds e2
      split at p1
      · rename_i c
        obtain ⟨a, vs, rfl, h1, h2⟩ := items_ok lay1 r1 e0
        rw [allD_eq e2] at h2
        have ra := RpA_of_Rvs h2
        obtain ⟨z1, z2, z3⟩ := RpA_zip ra
        have hatom : ∀ z ∈ vs.zip ds, AtomR z.1 z.2 := fun z hz => by
          refine atomR_of (z3 z hz) ?_
          have hc := c
          unfold canKey at hc
          rw [Bool.and_eq_true] at hc
          exact List.all_eq_true.mp hc.2 z.2 (by rw [← z2]; exact List.mem_map_of_mem hz)
        refine ⟨a, vs.zip ds, rfl, rfl, by rw [hK, z1]; exact h1, hatom, by rw [z2]; exact c, ?_⟩
        have hr : RpA G.K w1.I ((srtRZ (vs.zip ds)).map Prod.fst) ((srtRZ (vs.zip ds)).map Prod.snd) := RpA_of_zip fun z m => z3 z ((List.mergeSort_perm _ _).mem_iff.mp m)
        rw [srtRZ_snd, z2] at hr
        exact (list_new lay1 (Rvs_of_RpA hr) p1).2
      · exact p1.elim
    · exact p1.elim
  · exact p1.elim
end
end DL

/-! methods of tuples and of written dicts, strip(signs), [..] * k. -/
namespace DL
open PySem PySem.Spec PyProof.Rows L2
/-! ### a method of a thing whose object has no dict -/
def TyN (X : Cx) (T : String) (x : V) (H : Hp) : Prop := ∀ (pins : List (Addr × Obj)) (σ : L2.St) (s : Shared) (v : Value), Inv X pins σ H s → RelV x v → s.TypeIs v T ∧ ∀ a, v = .ref a → ∃ ob, s.heap.get? a = some ob ∧ ob.dict = none
def tBMN (X : Cx) (T : String) (r : V → List V → Hp → VK → Prop) (to : TE) (t : TA) : TE := fun σ H Q => to σ H fun x H1 => TyN X T x H1 ∧ t σ H1 fun vs H2 => r x vs H2 Q
section
variable {X : Cx} {o e : Expr} {es : List Expr} {to : TE} {t : TA} {pos apos cpos : Pos} {T id : String} {name : Str} {r : V → List V → Hp → VK → Prop}
theorem pe_bmN (pa : PlainAttrs T) (slot : Slot T name id) (hty : typeOf (.builtin id) = pure (.type "method_descriptor")) (hm : MtR X id r) (ho : PE X o to) (ha : PA X (e :: es) t)
    (hbase : attributeBase o name X.env (eval o X.env) = eval o X.env := by rfl)
    (hfew : ((backTo cpos (starEach (e :: es) X.env)).all (fun x => !x.1) && (backToKw cpos (keywordEach [] X.env)).all (fun x => x.1.isSome)
      && decide ((e :: es).length + ([] : List Keyword).length + (if ([] : List Keyword).isEmpty then 0 else 1) < 30)) = true := by rfl)
    (hline : (apos.endLine == cpos.line) = true := by rfl) (hs : starEach (e :: es) X.env = (false, eval e X.env) :: starEach es X.env := by rfl) (hplain : (backTo cpos (starEach es X.env)).any (·.1) = false := by rfl) :
    PE X (.Call (.Attribute o name apos) (e :: es) [] cpos) (tBMN X T r to t) := by
  refine ⟨fun pins s σ H Q I h => ?_⟩
  refine wpAny_Call_method_late hbase hfew hline rfl (thn (ho.run pins s σ H _ I h) fun v s1 ⟨x, H1, I1, r1, ty, q1⟩ => ?_)
  obtain ⟨h1, h2⟩ := ty pins σ s1 v I1 r1
  refine ⟨T, id, pa, slot, hty, h1, h2, ?_⟩
  have hA := ha.run cpos pins s1 σ H1 _ I1 q1
  rw [hs] at hA ⊢
  refine Calls.callWith_builtin (by show (false || (backTo cpos (starEach es X.env)).any (·.1)) = false; rw [hplain] <;> rfl) (Calls.evalArgs_plain ?_)
  exact thn hA fun us s2 ⟨vs, H2, I2, r2, q2⟩ => hm pins s2 σ H2 x vs v us Q I2 r1 r2 q2
/-! ### t.count(x) of texts -/
theorem tyN_tup {a : Addr} {xs : List V} {H : Hp} (h : SqS X.K H a xs) : TyN X "tuple" (.ref a) H := by
  intro pins σ s v I r
  cases r
  rcases h with ⟨o, e, d⟩ | ⟨o, its, n, h1, h2, h3, _⟩
  · obtain ⟨g, z, its, _, o', g', c, _⟩ := (show ObjOk X.prog X.w H s.heap a (.frz o (.tup xs)) from I.hok a _ e)
    rw [g] at g'
    cases g'
    exact ⟨⟨o, g, c⟩, fun b q => by cases q; exact ⟨o, g, d⟩⟩
  · have g := I.kIn a o h1
    exact ⟨⟨o, g, h2⟩, fun b q => by cases q; exact ⟨o, g, h3⟩⟩
theorem plain_strs : ∀ {ds : List D}, allStr ds = true → PyData.plainAll ds = true ∧ nodicts ds = true ∧ PyData.depthAll ds = 0
  | [], _ => ⟨rfl, rfl, rfl⟩
  | .str _ :: ds, h => by
    obtain ⟨h1, h2, h3⟩ := plain_strs (ds := ds) h
    exact ⟨by simp [PyData.plainAll, PyData.plain, h1], by simp [nodicts, nodict, h2], by simp [PyData.depthAll, PyData.depth, h3]⟩
  | .none :: _, h => by cases h
  | .bool _ :: _, h => by cases h
  | .int _ :: _, h => by cases h
  | .list _ :: _, h => by cases h
  | .tuple _ :: _, h => by cases h
  | .dict _ :: _, h => by cases h
def rTCount (K : PySem.W.Frag) : V → List V → Hp → VK → Prop := fun x ys H Q => ∃ a xs ds z, x = .ref a ∧ ys = [.str z] ∧ SqT K H a xs ∧ RpA K H xs ds ∧ allStr ds = true ∧ Q (.int (ds.countP fun y => PyData.eqv y (.str z) : Nat)) H
theorem mt_tcount (hu : X.A.units + 64 < cLine) : MtR X "tuple.count" (rTCount X.K) := by
  intro pins s σ H x ys v us Q I rx ry h
  obtain ⟨a, xs, ds, z, rfl, rfl, hs, ra, hst, q⟩ := h
  cases rx
  obtain ⟨u, rfl, ru⟩ := vals1 ry
  obtain ⟨t, rfl⟩ := ru
  obtain ⟨its, rv, pl, hz⟩ := I.tuple hs
  obtain ⟨p1, p2, p3⟩ := plain_strs hst
  obtain ⟨as, rd⟩ := Dp.readsAll I ds xs its (RpA.dp ds xs p2 ra) rv
  exact PySem.SeqAt.count_tuple_data (xs := ds) (d := .str z) pl (by simpa using rd) (.str z t) p1 rfl (by rw [p3]; simp; omega) ⟨.int _, H, I.tok _, ⟨_, rfl⟩, q⟩
end
def dTCount (ds : List D) : Dv → Store → Out Dv := fun y μ => match y with
  | .d (.str z) => if allStr ds = true then .ok (.d (.int (ds.countP fun y => PyData.eqv y (.str z) : Nat))) μ else .bad
  | _ => .bad
def cntB (me : ME) (ρ : DEnv) (x : Dv) (μ : Store) : Out Dv := match x with
  | .d (.tuple ds) => (me ρ μ).bind fun y μ => dTCount ds y μ
  | _ => .bad
def eCnt (mo me : ME) : ME := fun ρ μ => (mo ρ μ).bind fun x μ => cntB me ρ x μ
section
variable {X : Cx} {G : GT} {W : WX} {o e : Expr} {mo me : ME} {pos apos cpos : Pos}
theorem de_tcount (hK : X.K = G.K) (hu : X.A.units + 64 < cLine) (ho : DE X G W o mo) (ha : DE X G W e me)
    (hbase : attributeBase o "count" X.env (eval o X.env) = eval o X.env := by rfl)
    (hfew : ((backTo cpos (starEach [e] X.env)).all (fun x => !x.1) && (backToKw cpos (keywordEach [] X.env)).all (fun x => x.1.isSome)
      && decide (([e] : List Expr).length + ([] : List Keyword).length + (if ([] : List Keyword).isEmpty then 0 else 1) < 30)) = true := by rfl)
    (hline : (apos.endLine == cpos.line) = true := by rfl) (hs : starEach [e] X.env = (false, eval e X.env) :: starEach [] X.env := by rfl) (hplain : (backTo cpos (starEach [] X.env)).any (·.1) = false := by rfl) :
    DE X G W (.Call (.Attribute o "count" apos) [e] [] cpos) (eCnt mo me) := by
  refine PE.imp (pe_bmN PySem.F.plainAttrs_tuple PySem.F.slot_tuple_count PySem.F.type_tuple_count (mt_tcount hu) ho (pa_cons ha pa_nil hs) hbase hfew hline hs hplain) ?_
  rintro σ H Q ⟨w, μ, ρ, hl, he, p⟩
  refine tD.seq (k := fun ρ x μ => cntB me ρ x μ) hl he p fun w1 μ1 H1 v b l1 lay1 en1 r1 p1 => ?_
  unfold cntB at p1
  split at p1
  · rename_i ds
    obtain ⟨a, xs, rfl, h1, h2⟩ := rv_tupS r1
    refine ⟨tyN_tup (by rw [hK]; exact seqS lay1.same h1), ?_⟩
    refine tD.seq (k := fun ρ y μ => dTCount ds y μ) lay1 en1 p1 fun w2 μ2 H2 u c l2 lay2 en2 r2 p2 => ?_
    unfold dTCount at p2
    split at p2
    · rename_i z
      split at p2
      · rename_i hst
        exact ⟨a, xs, ds, z, rfl, by rw [rv_str r2], by rw [hK]; exact (seqS (Same.trans l2.1 lay2.same) h1).t, by rw [hK]; exact RpA.mono (Same.trans l2.1 lay2.same) _ _ h2, hst, p2 w2 _ H2 w2.le_refl lay2 (.int _)⟩
      · exact p2.elim
    · exact p2.elim
  · exact p1.elim
end
/-! ### x.strip(signs) -/
def dStripC : Dv → OpN := m1 fun a b μ => match b with
  | .d (.str b) => if a.length ≤ sizeLine then .ok (.d (.str (Txt.stripChars a b))) μ else .bad
  | _ => .bad
theorem ok_stripC {G : GT} : OkM G (fun x xs H Q => ∃ a b, x = .str a ∧ xs = [.str b] ∧ a.length ≤ sizeLine ∧ Q (.str (Txt.stripChars a b)) H) dStripC := by
  apply ok_m1
  intro W σ w μ H a y b Q l r p
  split at p
  · split at p
    · rename_i h
      rw [rv_str r]
      exact ⟨a, _, rfl, rfl, h, p w _ H w.le_refl l (.str _)⟩
    · exact p.elim
  · exact p.elim
/-! ### [..] * k -/
def dRep (k : Nat) : OpN := fun bs μ => dList (List.replicate k bs).flatten μ
theorem Rvs_rep {G : GT} {w : Wd} {vs : List V} {bs : List Dv} (r : Rvs G w vs bs) : ∀ k : Nat, Rvs G w (List.replicate k vs).flatten (List.replicate k bs).flatten
  | 0 => .nil
  | k + 1 => by
    rw [List.replicate_succ, List.replicate_succ, List.flatten_cons, List.flatten_cons]
    exact Rvs_app r (Rvs_rep r k)
section
variable {X : Cx} {G : GT} {W : WX} {es : List Expr} {mas : MA} {pos p1 p2 : Pos} {j : Nat}
theorem de_rep (k : Nat) (h1 : 1 ≤ k) (hk : k ≤ 1000) (ha : DA X G W es mas) : DE X G W (.BinOp (.List es p1) .Mult (.Constant (.int k) j p2) pos) (eN (dRep k) mas) := by
  refine PE.imp (pe_op op_rep (pe_lst ha) (pe_int (i := (k : Int)))) ?_
  rintro σ H Q ⟨w, μ, ρ, hl, he, p⟩
  refine tD.seq (k := fun ρ xs μ => dRep k xs μ) hl he p fun w1 μ1 H1 vs bs l1 lay1 en1 r1 p1 => ?_
  have hz0 : (List.replicate k vs).flatten.length ≤ sizeLine := by
    unfold dRep dList at p1
    cases q : allD (List.replicate k bs).flatten with
    | none => rw [q] at p1; exact p1.elim
    | some ds =>
      rw [q] at p1
      have p1 : Pst G W σ (Rv G) w1 (if ds.length ≤ sizeLine then .ok (.d (.list ds)) μ1 else .bad) Q := p1
      by_cases z : ds.length ≤ sizeLine
      · have e1 := Paired.length (Rvs_rep r1 k)
        have e2 := congrArg List.length (allD_eq q)
        rw [List.length_map] at e2
        omega
      · rw [if_neg z] at p1; exact p1.elim
  have hz : vs.length * k ≤ sizeLine := by
    rw [PyProof.Rows.lm_len_rep_flat, Nat.mul_comm] at hz0
    exact hz0
  have hv : vs.length ≤ vs.length * k := Nat.le_mul_of_pos_right _ h1
  refine ⟨Nat.le_trans hv hz, fun a na => ?_⟩
  obtain ⟨n1, n2, n3⟩ := lay1.na na
  have lay2 := lay1.other n1 n2 n3 (.lst vs)
  refine ⟨a, (k : Int), vs, rfl, rfl, upd_same, by omega, by omega, by simpa using hz, ?_⟩
  exact (list_new lay2 (Rvs_rep r1 k) p1).2
end
/-! ### a written dict's get -/
def lkS (tbl : List (Str × Int)) (z : Str) : Option Int := match tbl with
  | [] => none
  | p :: r => if p.1 == z then some p.2 else lkS r z
def optV : Option Int → V
  | some i => .int i
  | none => .non
def optD : Option Int → D
  | some i => .int i
  | none => .none
abbrev TabE : List DictEntry → List (Str × Int) → Prop := Paired fun e p => ∃ t u, e.key = Value.str p.1 t ∧ e.val = Value.int p.2 u
structure KTab (K : PySem.W.Frag) (w : World) (a : Addr) (tbl : List (Str × Int)) : Prop where
  ex : ∃ es n, K.lookup a = some ⟨.type "dict", none, .dict es n, #[]⟩ ∧ PySem.W.KeysLit w.params es.toList ∧ (a == sysModules) = false ∧ TabE es.toList tbl
theorem find_tab {es : List DictEntry} {tbl : List (Str × Int)} (h : TabE es tbl) (z : Str) : RelV (optV (lkS tbl z)) (((es.find? (·.key.isStr z)).map (·.val)).getD .none) ∧ es.any (·.refKey) = false := by
  induction h with
  | nil => exact ⟨rfl, rfl⟩
  | @cons e p es tbl r t ih =>
    obtain ⟨t1, u1, hk, hv⟩ := r
    have hr : e.refKey = false := by unfold DictEntry.refKey; rw [hk]
    refine ⟨?_, by rw [List.any_cons, hr, ih.2]; rfl⟩
    rw [List.find?_cons, hk]
    show RelV (optV (if (p.1 == z) = true then some p.2 else lkS tbl z)) _
    show RelV _ ((Option.map _ (match (p.1 == z) with | true => some e | false => es.find? _)).getD .none)
    cases q : p.1 == z with
    | true => exact ⟨u1, by simpa using hv⟩
    | false => exact ih.1
def rKGet (K : PySem.W.Frag) (w : World) (tbl : List (Str × Int)) : V → List V → Hp → VK → Prop := fun x ys H Q => ∃ a z, x = .ref a ∧ ys = [.str z] ∧ KTab K w a tbl ∧ Q (optV (lkS tbl z)) H
section
variable {X : Cx} {tbl : List (Str × Int)}
theorem mt_kget : MtR X "dict.get" (rKGet X.K X.w tbl) := by
  intro pins s σ H x ys v us Q I rx ry h
  obtain ⟨a, z, rfl, rfl, ⟨es, n, lk, hk, hs, ht⟩, q⟩ := h
  cases rx
  obtain ⟨u, rfl, ru⟩ := vals1 ry
  obtain ⟨t, rfl⟩ := ru
  have hm := PySem.W.mapOf_K (prog := X.prog) (w := X.w) I.kIn lk hk
  obtain ⟨f1, f2⟩ := find_tab ht z
  have hn : PySem.W.nsIn X.K a z = some ((es.toList.find? (·.key.isStr z)).map (·.val)) := by
    unfold PySem.W.nsIn
    rw [lk]
    dsimp only
    cases q : es.toList.find? (·.key.isStr z) with
    | some e => rfl
    | none => rw [f2]; rfl
  refine call_meetsIn PySem.F.slot_dict_get hm.typeIs PySem.F.entry_dict_get (PySem.F.args_dict_get_2 _ _) (meets_dict_get (strKind X.prog X.w) a (strKind_is X.prog X.w z t) hs) ⟨_, hm, optV (lkS tbl z), H, I.tok _, ?_, q⟩
  rw [PySem.W.find_K lk hn]
  exact f1
theorem tyN_kdict {a : Addr} {H : Hp} (h : KTab X.K X.w a tbl) : TyN X "dict" (.ref a) H := by
  obtain ⟨es, n, lk, _⟩ := h
  intro pins σ s v I r
  cases r
  have g := I.kIn a _ lk
  exact ⟨⟨_, g, rfl⟩, fun b q => by cases q; exact ⟨_, g, rfl⟩⟩
end
def dKGet (tbl : List (Str × Int)) : Op1 := fun x μ => match x with
  | .d (.str z) => .ok (.d (optD (lkS tbl z))) μ
  | _ => .bad
section
variable {X : Cx} {G : GT} {W : WX} {e : Expr} {me : ME} {pos p apos cpos : Pos} {x : Str} {tbl : List (Str × Int)}
theorem de_kget (hT : ∃ a, X.mg x = some (.ref a) ∧ KTab X.K X.w a tbl) (hg : Gl X x) (ha : DE X G W e me) (hdx : (x == ("__debug__" : Str)) = false := by decide)
    (hbase : attributeBase (.Name x p) "get" X.env (eval (.Name x p) X.env) = eval (.Name x p) X.env := by rfl)
    (hfew : ((backTo cpos (starEach [e] X.env)).all (fun x => !x.1) && (backToKw cpos (keywordEach [] X.env)).all (fun x => x.1.isSome)
      && decide (([e] : List Expr).length + ([] : List Keyword).length + (if ([] : List Keyword).isEmpty then 0 else 1) < 30)) = true := by rfl)
    (hline : (apos.endLine == cpos.line) = true := by rfl) (hs : starEach [e] X.env = (false, eval e X.env) :: starEach [] X.env := by rfl) (hplain : (backTo cpos (starEach [] X.env)).any (·.1) = false := by rfl) :
    DE X G W (.Call (.Attribute (.Name x p) "get" apos) [e] [] cpos) (e1 (dKGet tbl) me) := by
  obtain ⟨a, hm, kt⟩ := hT
  refine PE.imp (pe_bmN PySem.F.plainAttrs_dict PySem.F.slot_dict_get PySem.F.type_dict_get (mt_kget (tbl := tbl)) (pe_glob hg hm hdx) (pa_cons ha pa_nil hs) hbase hfew hline hs hplain) ?_
  rintro σ H Q ⟨w, μ, ρ, hl, he, p⟩
  refine ⟨tyN_kdict kt, ?_⟩
  refine tD.seq (k := fun ρ y μ => dKGet tbl y μ) hl he p fun w2 μ2 H2 u c l2 lay2 en2 r2 p2 => ?_
  unfold dKGet at p2
  split at p2
  · rename_i z
    refine ⟨a, z, rfl, by rw [rv_str r2], kt, p2 w2 _ H2 w2.le_refl lay2 ?_⟩
    cases lkS tbl z with
    | none => exact .non
    | some i => exact .int i
  · exact p2.elim
end
end DL

/-! len(set(x)), x a tuple. -/
namespace DL
open PySem PySem.Spec PyProof.Rows L2 PySem.Froz
def tLenSetT (K : PySem.W.Frag) (ta : TE) : TE := fun σ H Q => ta σ H fun x H1 => ∃ (l : Addr) (ks : List Key), x = .ref l ∧ SqT K H1 l (ks.map kV) ∧ ks.length ≤ 1000 ∧ Q (.int (ddK ks).length) H1
section
variable {X : Cx} {a : Expr} {ta : TE} {p p2 q pos : Pos}
theorem pe_lenSetT (hg : Gl X "len") (hm : X.mg "len" = none) (hg2 : Gl X "set") (hm2 : X.mg "set" = none) (ha : PE X a ta) (hc : X.calm = true := by rfl) (na : starEach [a] X.env = (false, eval a X.env) :: starEach [] X.env := by rfl) :
    PE X (.Call (.Name "len" p) [.Call (.Name "set" p2) [a] [] q] [] pos) (tLenSetT X.K ta) := by
  constructor
  intro pins s σ H Q I h
  apply Call_ (ld_blt I hg hm boot_len _)
  apply PyProof.Rows.callWith_builtin1 (PyProof.Rows.args_cons _ rfl) rfl rfl
  apply Call_ (ld_blt I hg2 hm2 boot_set _)
  refine PyProof.Rows.callWith_type1 (PyProof.Rows.args_cons (thn (ha.run pins s σ H _ I h) fun v s1 ⟨x, H1, I1, r1, q1⟩ => PyProof.Rows.args_nil ?_) na) na rfl
  obtain ⟨l, ks, rfl, hq, few, fin⟩ := q1
  cases r1
  obtain ⟨its, r, pl, _⟩ := I1.tuple hq
  obtain ⟨z1, z2⟩ := kids r
  refine DL.DL.set_of_tuple (I1.ok.hd hc) pl z2 z1 (by unfold scanBound; omega) fun h' tk D o F kp => ?_
  apply PyProof.Rows.args_nil
  have d3 := (ddK_facts ks).2.2
  have sz := F.size
  have I2 : Inv X pins σ H1 { s1 with heap := h', toks := tk } := I1.kept kp
  refine call_len_set o ⟨rfl, rfl, rfl⟩ rfl F.fit (by rw [sz]; omega) ?_
  exact ⟨.int (ddK ks).length, H1, I2.tok _, ⟨_, by rw [sz]⟩, fin⟩
end
def dLenSetT : Op1 := fun x μ => match itemsT x with
  | some bs => match allD bs with
    | some ds => match keysD ds with
      | some ks => if ks.length ≤ 1000 then .ok (.d (.int (ddK ks).length)) μ else .bad
      | none => .bad
    | none => .bad
  | none => .bad
theorem itemsT_keys {G : GT} {w : Wd} {v : V} {μ : Store} {H : Hp} {b : Dv} {bs : List Dv} {ds : List D} {ks : List Key} (l : Lay G w μ H) (r : Rv G w v b) (e1 : itemsT b = some bs) (e2 : allD bs = some ds) (e3 : keysD ds = some ks) : ∃ c, v = .ref c ∧ SqT G.K H c (ks.map kV) := by
  unfold itemsT at e1
  split at e1
  · cases e1
    obtain ⟨c, vs, rfl, h1, h2⟩ := rv_tup r
    have h2 := Rvs_of_RpA (G := G) h2
    rw [allD_eq e2, keysD_map e3] at h2
    rw [RpA_keys (RpA_of_Rvs h2)] at h1
    exact ⟨c, rfl, seqT l.same h1⟩
  · cases e1
section
variable {X : Cx} {G : GT} {W : WX} {a : Expr} {m : ME} {p p2 q pos : Pos}
theorem de_lenSetT (hK : X.K = G.K) (hg : Gl X "len") (hm : X.mg "len" = none) (hg2 : Gl X "set") (hm2 : X.mg "set" = none) (ha : DE X G W a m) (hc : X.calm = true := by rfl) (na : starEach [a] X.env = (false, eval a X.env) :: starEach [] X.env := by rfl) :
    DE X G W (.Call (.Name "len" p) [.Call (.Name "set" p2) [a] [] q] [] pos) (e1 dLenSetT m) := by
  refine PE.imp (pe_lenSetT hg hm hg2 hm2 ha hc na) ?_
  rintro σ H Q ⟨w, μ, ρ, hl, he, pp⟩
  refine tD.seq (k := fun ρ x μ => dLenSetT x μ) hl he pp fun w1 μ1 H1 v b l1 lay1 en1 r1 p1 => ?_
  unfold dLenSetT at p1
  split at p1
  · rename_i bs e1
    split at p1
    · rename_i ds e2
      split at p1
      · rename_i ks e3
        split at p1
        · rename_i c
          obtain ⟨n, rfl, h1⟩ := itemsT_keys lay1 r1 e1 e2 e3
          exact ⟨n, ks, rfl, by rw [hK]; exact h1, c, p1 w1 _ H1 w1.le_refl lay1 (.int _)⟩
        · exact p1.elim
      · exact p1.elim
    · exact p1.elim
  · exact p1.elim
end
end DL

/-! Running the data forms towards what is wanted behind them. -/
namespace DL
open PySem PySem.Spec PyProof.Rows L2
inductive Wp {β : Type} : Out β → (β → Store → Prop) → Prop
  | mk {b : β} {μ : Store} {P : β → Store → Prop} : P b μ → Wp (.ok b μ) P
section
variable {β γ : Type} {o o' : Out β} {P Q : β → Store → Prop} {k : β → Store → Out γ} {R : γ → Store → Prop} {b : β} {μ : Store}
@[simp] theorem Wp_ok : Wp (.ok b μ) P = P b μ := propext ⟨fun h => by cases h; assumption, .mk⟩
theorem Wp_bad : Wp (.bad : Out β) P = False := propext ⟨(fun h => nomatch h), False.elim⟩
theorem Wp_ex {e : Ex} : Wp (.ex e μ : Out β) P = False := propext ⟨(fun h => nomatch h), False.elim⟩
theorem Wp_bind : Wp (o.bind k) R = Wp o fun b μ => Wp (k b μ) R := by
  cases o with
  | ok b μ => rw [Wp_ok]; rfl
  | ex e μ => show Wp (.ex e μ) R = _; rw [Wp_ex, Wp_ex]
  | bad => show Wp .bad R = _; rw [Wp_bad, Wp_bad]
theorem Wp_gb : Wp (o.gb k) R = Wp o fun b μ => Wp (k b μ) R := by
  cases o with
  | ok b μ => rw [Wp_ok]; rfl
  | ex e μ => show Wp .bad R = _; rw [Wp_ex, Wp_bad]
  | bad => show Wp .bad R = _; rw [Wp_bad, Wp_bad]
def finP (P : Dv → Store → Prop) : Fl → Store → Prop := fun f μ => match f with
  | .nx _ => P (.d .none) μ
  | .rt b => P b μ
  | _ => False
@[simp ↓] theorem Wp_finB {o : Out Fl} {P : Dv → Store → Prop} : Wp (finB o) P = Wp o (finP P) := by
  cases o with
  | ok f μ =>
    rw [Wp_ok]
    cases f with
    | nx ρ => exact Wp_ok
    | rt b => exact Wp_ok
    | bk ρ => exact Wp_bad
    | ct ρ => exact Wp_bad
  | ex e μ => show Wp (.ex e μ) P = _; rw [Wp_ex, Wp_ex]
  | bad => show Wp .bad P = _; rw [Wp_bad, Wp_bad]
@[simp] theorem finP_rt {P : Dv → Store → Prop} {b : Dv} : finP P (.rt b) μ = P b μ := id rfl
@[simp] theorem finP_nx {P : Dv → Store → Prop} {ρ : DEnv} : finP P (.nx ρ) μ = P (.d .none) μ := id rfl
theorem Wp_if {c : Prop} [Decidable c] {x y : Out β} (h1 : c → Wp x P) (h2 : ¬ c → Wp y P) : Wp (if c then x else y) P := by
  split
  · exact h1 ‹_›
  · exact h2 ‹_›
theorem Wp_mono (w : Wp o P) (h : ∀ b μ, P b μ → Q b μ) : Wp o Q := by
  cases w with
  | mk p => exact .mk (h _ _ p)
theorem Wp_of (h : Wp o P) : ∃ b μ, o = .ok b μ ∧ P b μ := by
  cases h with
  | mk p => exact ⟨_, _, rfl, p⟩
theorem Wp_eq (e : o = .ok b μ) (h : P b μ) : Wp o P := by rw [e]; exact .mk h
end
@[simp] theorem dList_a {bs : List Dv} {μ : Store} (h : (allD bs).isSome = true) (n : bs.length ≤ 16000000) : dList bs μ = .ok (.d (.list ((allD bs).getD []))) μ := by
  obtain ⟨ds, e⟩ := Option.isSome_iff_exists.mp h
  have := allD_eq e
  subst this
  rw [List.length_map] at n
  rw [dList_d (Nat.le_trans n line_big), e]
  rfl
@[simp] theorem dTup_a {bs : List Dv} {μ : Store} (h : (allD bs).isSome = true) (n : bs.length ≤ 16000000) : dTup bs μ = .ok (.d (.tuple ((allD bs).getD []))) μ := by
  obtain ⟨ds, e⟩ := Option.isSome_iff_exists.mp h
  have := allD_eq e
  subst this
  rw [List.length_map] at n
  rw [dTup_d (Nat.le_trans n line_big), e]
  rfl
theorem dList_map {ds : List D} {μ : Store} (n : ds.length ≤ 16000000) : dList (ds.map .d) μ = .ok (.d (.list ds)) μ := dList_d (Nat.le_trans n line_big)
theorem cDiv_of {x k : Int} (h : 0 < k) (h2 : k < 2 ^ 100) : cDiv x k = true := by
  unfold cDiv
  rw [decide_eq_true h, Bool.true_and]
  exact decide_eq_true (by have := log2_lt (i := k) (n := 100) (by omega) (by decide); omega)
theorem okR_of {i : Int} (h : -1000000000 ≤ i) (h2 : i ≤ 1000000000) : okR i = true := by
  unfold okR
  rw [decide_eq_true (by omega), decide_eq_true (by omega)]
  rfl
theorem Wp_run {n : Nat} {B : MS} {bs : List Dv} {μ : Store} {P : Dv → Store → Prop} (h : Wp (B (bs.map some ++ List.replicate (n - bs.length) none) μ) (finP P)) : Wp (runB n B bs μ) P := by
  rw [runB_eq, Wp_finB]
  exact h
/-! ### comprehensions by an invariant -/
theorem Wp_lcM {g : MG} {tt : MT} {te : ME} {ρ : DEnv} (I : Nat → Store → Prop) (R : Dv → Prop) : ∀ {bs : List Dv} {i : Nat} {μ : Store} {P : List Dv → Store → Prop}, I i μ →
    (∀ j b μ, bs[j]? = some b → I (i + j) μ → Wp (g b ρ μ) fun ρ' μ1 => Wp (tt ρ' μ1) fun k μ2 => (k = true → Wp (te ρ' μ2) fun y μ3 => R y ∧ I (i + j + 1) μ3) ∧ (k = false → I (i + j + 1) μ2)) →
    (∀ ys μ', ys.length ≤ bs.length → (∀ y ∈ ys, R y) → I (i + bs.length) μ' → P ys μ') → Wp (lcM g tt te ρ bs μ) P
  | [], i, μ, P, h0, _, fin => .mk (fin [] μ (Nat.le_refl _) (fun y h => by cases h) h0)
  | b :: bs, i, μ, P, h0, step, fin => by
    have rest : ∀ μ4 (Z : List Dv → Store → Prop), I (i + 1) μ4 → (∀ ys μ', ys.length ≤ bs.length → (∀ y ∈ ys, R y) → I (i + (bs.length + 1)) μ' → Z ys μ') → Wp (lcM g tt te ρ bs μ4) Z := fun μ4 Z i4 z => by
      refine Wp_lcM I R (bs := bs) (i := i + 1) i4 (fun j c μ5 hj hi => ?_) fun ys μ' l1 l2 l3 => z ys μ' l1 l2 (by rw [show i + (bs.length + 1) = i + 1 + bs.length by omega]; exact l3)
      have := step (j + 1) c μ5 (by simpa using hj) (by rw [show i + (j + 1) = i + 1 + j by omega]; exact hi)
      rw [show i + (j + 1) + 1 = i + 1 + j + 1 by omega] at this
      exact this
    unfold lcM
    rw [Wp_gb]
    refine Wp_mono (step 0 b μ rfl h0) fun ρ' μ1 w1 => ?_
    rw [Wp_gb]
    refine Wp_mono w1 fun t μ2 w2 => ?_
    cases t with
    | true =>
      rw [if_pos rfl, Wp_gb]
      refine Wp_mono (w2.1 rfl) fun y μ3 w3 => ?_
      rw [Wp_gb]
      refine rest μ3 _ w3.2 fun ys μ' l1 l2 l3 => .mk ?_
      refine fin (y :: ys) μ' (Nat.succ_le_succ l1) (fun x hx => ?_) l3
      rcases List.mem_cons.mp hx with e | hx
      · rw [e]; exact w3.1
      · exact l2 x hx
    | false =>
      rw [if_neg (by decide)]
      exact rest μ2 _ (w2.2 rfl) fun ys μ' l1 l2 l3 => fin ys μ' (Nat.le_succ_of_le l1) l2 l3
/-- a comprehension without a test, how many its items are -/
theorem Wp_lcM_y {g : MG} {te : ME} {ρ : DEnv} (I : Nat → Store → Prop) (R : Dv → Prop) : ∀ {bs : List Dv} {i : Nat} {μ : Store} {P : List Dv → Store → Prop}, I i μ →
    (∀ j b μ, bs[j]? = some b → I (i + j) μ → Wp (g b ρ μ) fun ρ' μ1 => Wp (te ρ' μ1) fun y μ3 => R y ∧ I (i + j + 1) μ3) →
    (∀ ys μ', ys.length = bs.length → (∀ y ∈ ys, R y) → I (i + bs.length) μ' → P ys μ') → Wp (lcM g tYesM te ρ bs μ) P
  | [], i, μ, P, h0, _, fin => .mk (fin [] μ rfl (fun y h => by cases h) h0)
  | b :: bs, i, μ, P, h0, step, fin => by
    unfold lcM
    rw [Wp_gb]
    refine Wp_mono (step 0 b μ rfl h0) fun ρ' μ1 w1 => ?_
    rw [Wp_gb]
    show Wp (.ok true μ1) _
    rw [Wp_ok, if_pos rfl, Wp_gb]
    refine Wp_mono w1 fun y μ3 w3 => ?_
    rw [Wp_gb]
    refine Wp_lcM_y I R (bs := bs) (i := i + 1) w3.2 (fun j c μ5 hj hi => ?_) fun ys μ' l1 l2 l3 => .mk ?_
    · have := step (j + 1) c μ5 (by simpa using hj) (by rw [show i + (j + 1) = i + 1 + j by omega]; exact hi)
      rw [show i + (j + 1) + 1 = i + 1 + j + 1 by omega] at this
      exact this
    · refine fin (y :: ys) μ' (congrArg Nat.succ l1) (fun x hx => ?_) (by rw [List.length_cons, show i + (bs.length + 1) = i + 1 + bs.length by omega]; exact l3)
      rcases List.mem_cons.mp hx with e | hx
      · rw [e]; exact w3.1
      · exact l2 x hx
theorem Wp_lcF {fin : OpN} {g : MG} {tt : MT} {te : ME} {vs : List Nat} {ρ : DEnv} {bs : List Dv} {μ : Store} {P : Dv → Store → Prop} (hb : bs.length ≤ 16000000) (h : Wp (lcM g tt te (wipeD ρ vs) bs μ) fun ys μ' => Wp (fin ys μ') P) : Wp (lcF fin g tt te vs ρ bs μ) P := by
  unfold lcF
  rw [if_pos (Nat.le_trans hb line_big), Wp_gb]
  exact h
/-- .. over a cell that is not changed -/
theorem Wp_lcC {g : MG} {tt : MT} {te : ME} {ρ : DEnv} {n : Nat} {xs : List Dv} (R : Dv → Prop) : ∀ {k i : Nat} {μ : Store} {P : List Dv → Store → Prop}, μ[n]? = some (.lst xs) → xs.length - i < k →
    (∀ (j : Nat) (b : Dv), xs[j]? = some b → Wp (g b ρ μ) fun ρ' μ1 => Wp (tt ρ' μ1) fun t μ2 => μ2 = μ ∧ (t = true → Wp (te ρ' μ2) fun y μ3 => R y ∧ μ3 = μ)) →
    (∀ ys, ys.length ≤ xs.length - i → (∀ y ∈ ys, R y) → P ys μ) → Wp (lcC g tt te ρ n k i μ) P
  | 0, i, μ, P, _, h, _, _ => by omega
  | k + 1, i, μ, P, e, h, step, fin => by
    unfold lcC
    simp only [e]
    by_cases hi : i < xs.length
    · have ei : xs[i]? = some xs[i] := by simp [hi]
      simp only [ei]
      rw [Wp_gb]
      refine Wp_mono (step i _ ei) fun ρ' μ1 w1 => ?_
      rw [Wp_gb]
      refine Wp_mono w1 fun t μ2 w2 => ?_
      obtain ⟨rfl, w2⟩ := w2
      cases t with
      | true =>
        rw [if_pos rfl, Wp_gb]
        refine Wp_mono (w2 rfl) fun y μ3 w3 => ?_
        obtain ⟨hy, rfl⟩ := w3
        rw [Wp_gb]
        refine Wp_lcC R (k := k) (i := i + 1) e (by omega) step fun ys l1 l2 => .mk ?_
        refine fin (y :: ys) (by rw [List.length_cons]; omega) fun x hx => ?_
        rcases List.mem_cons.mp hx with e | hx
        · rw [e]; exact hy
        · exact l2 x hx
      | false =>
        rw [if_neg (by decide)]
        exact Wp_lcC R (k := k) (i := i + 1) e (by omega) step fun ys l1 l2 => fin ys (by omega) l2
    · have ei : xs[i]? = none := by simp; omega
      simp only [ei]
      exact .mk (fin [] (by simp) (fun y h => by cases h))
theorem Wp_lcCb {fin : OpN} {g : MG} {tt : MT} {te : ME} {vs : List Nat} {k n : Nat} {ρ : DEnv} {μ : Store} {P : Dv → Store → Prop} (hk : k ≤ 16000000) (h : Wp (lcC g tt te (wipeD ρ vs) n k 0 μ) fun ys μ' => Wp (fin ys μ') P) : Wp (lcCb fin g tt te vs k ρ (.c n) μ) P := by
  show Wp (if k ≤ sizeLine then _ else _) P
  rw [if_pos (Nat.le_trans hk line_big), Wp_gb]
  exact h
theorem eLcC_r {fin : OpN} {mo : ME} {g : MG} {tt : MT} {te : ME} {vs : List Nat} {k : Nat} {ρ : DEnv} {μ : Store} : eLcC fin mo g tt te vs k ρ μ = (mo ρ μ).bind fun b μ => lcCb fin g tt te vs k ρ b μ := id rfl
/-! ### fors by an invariant: a turn goes on, or gives what is wanted of the whole -/
def forP (I : DEnv → Store → Prop) (P : Fl → Store → Prop) : Fl → Store → Prop := fun f μ => match f with
  | .nx ρ => I ρ μ
  | .ct ρ => I ρ μ
  | .bk ρ => P (.nx ρ) μ
  | .rt v => P (.rt v) μ
theorem Wp_forL {g : MG} {mb : MS} (I : Nat → DEnv → Store → Prop) : ∀ {bs : List Dv} {i : Nat} {ρ : DEnv} {μ : Store} {P : Fl → Store → Prop}, I i ρ μ →
    (∀ j b ρ μ, bs[j]? = some b → I (i + j) ρ μ → Wp (g b ρ μ) fun ρ1 μ1 => Wp (mb ρ1 μ1) (forP (I (i + j + 1)) P)) →
    (∀ ρ' μ', I (i + bs.length) ρ' μ' → P (.nx ρ') μ') → Wp (forL g mb bs ρ μ) P
  | [], i, ρ, μ, P, h0, _, fin => .mk (fin ρ μ h0)
  | b :: bs, i, ρ, μ, P, h0, step, fin => by
    unfold forL
    rw [Wp_gb]
    refine Wp_mono (step 0 b ρ μ rfl h0) fun ρ1 μ1 w1 => ?_
    rw [Wp_bind]
    refine Wp_mono w1 fun f μ2 w2 => ?_
    have rest : ∀ ρ2, I (i + 1) ρ2 μ2 → Wp (forL g mb bs ρ2 μ2) P := fun ρ2 i2 => by
      refine Wp_forL I (bs := bs) (i := i + 1) i2 (fun j c ρ μ hj hi => ?_) fun ρ' μ' l => fin ρ' μ' (by rw [List.length_cons, show i + (bs.length + 1) = i + 1 + bs.length by omega]; exact l)
      have := step (j + 1) c ρ μ (by simpa using hj) (by rw [show i + (j + 1) = i + 1 + j by omega]; exact hi)
      rw [show i + (j + 1) + 1 = i + 1 + j + 1 by omega] at this
      exact this
    cases f with
    | nx ρ2 => exact rest ρ2 w2
    | ct ρ2 => exact rest ρ2 w2
    | bk ρ2 => exact .mk w2
    | rt v => exact .mk w2
theorem Wp_forE {g : MG} {mb : MS} {n : Nat} {xs : List D} (I : Nat → DEnv → Store → Prop) : ∀ {k i : Nat} {ρ : DEnv} {μ : Store} {P : Fl → Store → Prop}, (∀ i ρ μ, I i ρ μ → μ[n]? = some (.lst (xs.map .d))) → I i ρ μ → i ≤ xs.length → xs.length - i < k →
    (∀ j x ρ μ, xs[j]? = some x → I j ρ μ → Wp (g (.d (.tuple [.int j, x])) ρ μ) fun ρ1 μ1 => Wp (mb ρ1 μ1) (forP (I (j + 1)) P)) →
    (∀ ρ' μ', I xs.length ρ' μ' → P (.nx ρ') μ') → Wp (forE g mb n k i ρ μ) P
  | 0, i, ρ, μ, P, _, _, _, h, _, _ => by omega
  | k + 1, i, ρ, μ, P, e, h0, le, h, step, fin => by
    unfold forE
    simp only [e i ρ μ h0]
    by_cases hi : i < xs.length
    · have ei : xs[i]? = some xs[i] := by simp [hi]
      have ei2 : (xs.map Dv.d)[i]? = some (.d xs[i]) := by rw [List.getElem?_map, ei]; rfl
      simp only [ei2]
      rw [Wp_gb]
      refine Wp_mono (step i _ ρ μ ei h0) fun ρ1 μ1 w1 => ?_
      rw [Wp_bind]
      refine Wp_mono w1 fun f μ2 w2 => ?_
      have rest : ∀ ρ2, I (i + 1) ρ2 μ2 → Wp (forE g mb n k (i + 1) ρ2 μ2) P := fun ρ2 i2 => Wp_forE I (k := k) (i := i + 1) e i2 (by omega) (by omega) step fin
      cases f with
      | nx ρ2 => exact rest ρ2 w2
      | ct ρ2 => exact rest ρ2 w2
      | bk ρ2 => exact .mk w2
      | rt v => exact .mk w2
    · have ei2 : (xs.map Dv.d)[i]? = none := by simp; omega
      simp only [ei2]
      exact .mk (fin ρ μ (by rw [show xs.length = i by omega]; exact h0))
theorem sForE_r {mo : ME} {g : MG} {mb : MS} {k : Nat} {ρ : DEnv} {μ : Store} : sForE mo g mb k ρ μ = (mo ρ μ).bind fun b μ => forEb g mb k b ρ μ := id rfl
theorem forEb_r {g : MG} {mb : MS} {k n : Nat} {ρ : DEnv} {μ : Store} : forEb g mb k (.c n) ρ μ = forE g mb n k 0 ρ μ := id rfl
/-! ### the forms, one by one: what is wanted of a form is wanted of its parts -/
section
variable {β : Type} {ρ : DEnv} {μ : Store} {i j n m : Nat} {a c o : ME} {t u mb : MS} {g : MG} {r : MGs} {mi : MI} {tt x y : MT} {ma mk : MA} {lo hi : MO} {P : Fl → Store → Prop} {Q : Dv → Store → Prop} {B : Bool → Store → Prop} {A : List Dv → Store → Prop} {E : DEnv → Store → Prop} {O : Option Int → Store → Prop}
def kSeq (u : MS) (P : Fl → Store → Prop) : Fl → Store → Prop := fun f μ => match f with
  | .nx ρ => Wp (u ρ μ) P
  | .rt b => P (.rt b) μ
  | .bk ρ => P (.bk ρ) μ
  | .ct ρ => P (.ct ρ) μ
@[simp ↓] theorem Wp_sSeq : Wp (sSeq t u ρ μ) P = Wp (t ρ μ) (kSeq u P) := by
  unfold sSeq
  rw [Wp_bind]
  congr 1
  funext f μ
  cases f with
  | nx ρ => rfl
  | rt b => exact Wp_ok
  | bk ρ => exact Wp_ok
  | ct ρ => exact Wp_ok
@[simp ↓] theorem kSeq_nx : kSeq u P (.nx ρ) μ = Wp (u ρ μ) P := id rfl
@[simp ↓] theorem kSeq_rt {b : Dv} : kSeq u P (.rt b) μ = P (.rt b) μ := id rfl
@[simp ↓] theorem kSeq_bk : kSeq u P (.bk ρ) μ = P (.bk ρ) μ := id rfl
@[simp ↓] theorem kSeq_ct : kSeq u P (.ct ρ) μ = P (.ct ρ) μ := id rfl
@[simp ↓] theorem Wp_sNext : Wp (sNext ρ μ) P = P (.nx ρ) μ := Wp_ok
@[simp ↓] theorem Wp_sBreak : Wp (sBreak ρ μ) P = P (.bk ρ) μ := Wp_ok
@[simp ↓] theorem Wp_sCont : Wp (sCont ρ μ) P = P (.ct ρ) μ := Wp_ok
@[simp ↓] theorem Wp_sRetN : Wp (sRetN ρ μ) P = P (.rt (.d .none)) μ := Wp_ok
@[simp ↓] theorem Wp_eC {b : Dv} : Wp (eC b ρ μ) Q = Q b μ := Wp_ok
@[simp ↓] theorem Wp_aNil : Wp (aNil ρ μ) A = A [] μ := Wp_ok
@[simp ↓] theorem Wp_oNone : Wp (oNone ρ μ) O = O none μ := Wp_ok
@[simp ↓] theorem Wp_gN {b : Dv} : Wp (gN i b ρ μ) E = E (ρ.set i (some b)) μ := Wp_ok
@[simp ↓] theorem Wp_gsNil : Wp (gsNil [] ρ μ) E = E ρ μ := Wp_ok
@[simp ↓] theorem Wp_tYes : Wp (tYesM ρ μ) B = B true μ := Wp_ok
def kRet (P : Fl → Store → Prop) : Dv → Store → Prop := fun b μ => P (.rt b) μ
@[simp ↓] theorem kRet_r {b : Dv} : kRet P b μ = P (.rt b) μ := id rfl
@[simp ↓] theorem Wp_sRet : Wp (sRet a ρ μ) P = Wp (a ρ μ) (kRet P) := by
  unfold sRet
  rw [Wp_bind]
  try simp only [Wp_ok]
  rfl
def kDrop (ρ : DEnv) (P : Fl → Store → Prop) : Dv → Store → Prop := fun b μ => P (.nx ρ) μ
@[simp ↓] theorem kDrop_r {b : Dv} : kDrop ρ P b μ = P (.nx ρ) μ := id rfl
@[simp ↓] theorem Wp_sDrop : Wp (sDrop a ρ μ) P = Wp (a ρ μ) (kDrop ρ P) := by
  unfold sDrop
  rw [Wp_bind]
  try simp only [Wp_ok]
  rfl
def kSet (i : Nat) (ρ : DEnv) (P : Fl → Store → Prop) : Dv → Store → Prop := fun b μ => P (.nx (ρ.set i (some b))) μ
@[simp ↓] theorem kSet_r {b : Dv} : kSet i ρ P b μ = P (.nx (ρ.set i (some b))) μ := id rfl
@[simp ↓] theorem Wp_sSet : Wp (sSet i a ρ μ) P = Wp (a ρ μ) (kSet i ρ P) := by
  unfold sSet
  rw [Wp_bind]
  try simp only [Wp_ok]
  rfl
def kPar (i j : Nat) (ρ : DEnv) (P : Fl → Store → Prop) : List Dv → Store → Prop := fun b μ => Wp (parF i j ρ b μ) P
@[simp ↓] theorem kPar_r {b : List Dv} : kPar i j ρ P b μ = Wp (parF i j ρ b μ) P := id rfl
@[simp ↓] theorem Wp_sPar : Wp (sPar i j ma ρ μ) P = Wp (ma ρ μ) (kPar i j ρ P) := by
  unfold sPar
  rw [Wp_bind]
  rfl
def kNx (P : Fl → Store → Prop) : DEnv → Store → Prop := fun ρ μ => P (.nx ρ) μ
@[simp ↓] theorem kNx_r : kNx P ρ μ = P (.nx ρ) μ := id rfl
def kAsg (g : MG) (ρ : DEnv) (P : Fl → Store → Prop) : Dv → Store → Prop := fun b μ => Wp (g b ρ μ) (kNx P)
@[simp ↓] theorem kAsg_r {b : Dv} : kAsg g ρ P b μ = Wp (g b ρ μ) (kNx P) := id rfl
@[simp ↓] theorem Wp_sAsg : Wp (sAsg a g ρ μ) P = Wp (a ρ μ) (kAsg g ρ P) := by
  unfold sAsg
  rw [Wp_bind]
  congr 1
  funext b μ
  rw [Wp_gb]
  simp only [Wp_ok]
  rfl
def kSI3 (v x : Dv) (ρ : DEnv) (P : Fl → Store → Prop) : Dv → Store → Prop := fun b μ => Wp (optN (dSetIx x b v μ) ρ) P
@[simp ↓] theorem kSI3_r {b : Dv} {v x : Dv} : kSI3 v x ρ P b μ = Wp (optN (dSetIx x b v μ) ρ) P := id rfl
def kSI2 (v : Dv) (c : ME) (ρ : DEnv) (P : Fl → Store → Prop) : Dv → Store → Prop := fun b μ => Wp (c ρ μ) (kSI3 v b ρ P)
@[simp ↓] theorem kSI2_r {b : Dv} {v : Dv} : kSI2 v c ρ P b μ = Wp (c ρ μ) (kSI3 v b ρ P) := id rfl
def kSI1 (o c : ME) (ρ : DEnv) (P : Fl → Store → Prop) : Dv → Store → Prop := fun b μ => Wp (o ρ μ) (kSI2 b c ρ P)
@[simp ↓] theorem kSI1_r {b : Dv}  : kSI1 o c ρ P b μ = Wp (o ρ μ) (kSI2 b c ρ P) := id rfl
@[simp ↓] theorem Wp_sSetIx : Wp (sSetIx a o c ρ μ) P = Wp (a ρ μ) (kSI1 o c ρ P) := by
  unfold sSetIx
  simp only [Wp_bind]
  rfl
def kFor (g : MG) (mb : MS) (ρ : DEnv) (P : Fl → Store → Prop) : List Dv → Store → Prop := fun b μ => Wp (forL g mb b ρ μ) P
@[simp ↓] theorem kFor_r {b : List Dv}  : kFor g mb ρ P b μ = Wp (forL g mb b ρ μ) P := id rfl
@[simp ↓] theorem Wp_sFor : Wp (sFor mi g mb ρ μ) P = Wp (mi ρ μ) (kFor g mb ρ P) := by
  unfold sFor
  simp only [Wp_bind]
  rfl
def kForE (g : MG) (mb : MS) (n : Nat) (ρ : DEnv) (P : Fl → Store → Prop) : Dv → Store → Prop := fun b μ => Wp (forEb g mb n b ρ μ) P
@[simp ↓] theorem kForE_r {b : Dv}  : kForE g mb n ρ P b μ = Wp (forEb g mb n b ρ μ) P := id rfl
@[simp ↓] theorem Wp_sForE : Wp (sForE a g mb n ρ μ) P = Wp (a ρ μ) (kForE g mb n ρ P) := by
  unfold sForE
  simp only [Wp_bind]
  rfl
def kForC (g : MG) (mb : MS) (n : Nat) (ρ : DEnv) (P : Fl → Store → Prop) : Dv → Store → Prop := fun b μ => Wp (forCb g mb n b ρ μ) P
@[simp ↓] theorem kForC_r {b : Dv}  : kForC g mb n ρ P b μ = Wp (forCb g mb n b ρ μ) P := id rfl
@[simp ↓] theorem Wp_sForC : Wp (sForC a g mb n ρ μ) P = Wp (a ρ μ) (kForC g mb n ρ P) := by
  unfold sForC
  simp only [Wp_bind]
  rfl
def kE1 (f : Op1) (Q : Dv → Store → Prop) : Dv → Store → Prop := fun b μ => Wp (f b μ) Q
@[simp ↓] theorem kE1_r {b : Dv} {f : Op1} : kE1 f Q b μ = Wp (f b μ) Q := id rfl
@[simp ↓] theorem Wp_e1 {f : Op1} : Wp (e1 f a ρ μ) Q = Wp (a ρ μ) (kE1 f Q) := by
  unfold e1
  simp only [Wp_bind]
  rfl
def kE2b (f : Op2) (v : Dv) (Q : Dv → Store → Prop) : Dv → Store → Prop := fun b μ => Wp (f v b μ) Q
@[simp ↓] theorem kE2b_r {b : Dv} {f : Op2} {v : Dv} : kE2b f v Q b μ = Wp (f v b μ) Q := id rfl
def kE2 (f : Op2) (c : ME) (ρ : DEnv) (Q : Dv → Store → Prop) : Dv → Store → Prop := fun b μ => Wp (c ρ μ) (kE2b f b Q)
@[simp ↓] theorem kE2_r {b : Dv} {f : Op2} : kE2 f c ρ Q b μ = Wp (c ρ μ) (kE2b f b Q) := id rfl
@[simp ↓] theorem Wp_e2 {f : Op2} : Wp (e2 f a c ρ μ) Q = Wp (a ρ μ) (kE2 f c ρ Q) := by
  unfold e2
  simp only [Wp_bind]
  rfl
def kTV (B : Bool → Store → Prop) : Dv → Store → Prop := fun b μ => Wp (asBool b μ) B
@[simp ↓] theorem kTV_r {b : Dv}  : kTV B b μ = Wp (asBool b μ) B := id rfl
@[simp ↓] theorem Wp_tV : Wp (tV a ρ μ) B = Wp (a ρ μ) (kTV B) := by
  unfold tV
  simp only [Wp_bind]
  rfl
def kNot (B : Bool → Store → Prop) : Bool → Store → Prop := fun b μ => B (!b) μ
@[simp ↓] theorem kNot_r {b : Bool}  : kNot B b μ = B (!b) μ := id rfl
@[simp ↓] theorem Wp_tNotM : Wp (tNotM tt ρ μ) B = Wp (tt ρ μ) (kNot B) := by
  unfold tNotM
  simp only [Wp_bind]
  try simp only [Wp_ok]
  rfl
def kN (f : OpN) (Q : Dv → Store → Prop) : List Dv → Store → Prop := fun b μ => Wp (f b μ) Q
@[simp ↓] theorem kN_r {b : List Dv} {f : OpN} : kN f Q b μ = Wp (f b μ) Q := id rfl
@[simp ↓] theorem Wp_eN {f : OpN} : Wp (eN f ma ρ μ) Q = Wp (ma ρ μ) (kN f Q) := by
  unfold eN
  simp only [Wp_bind]
  rfl
def kAC2 (v : Dv) (A : List Dv → Store → Prop) : List Dv → Store → Prop := fun b μ => A (v :: b) μ
@[simp ↓] theorem kAC2_r {b : List Dv} {v : Dv} : kAC2 v A b μ = A (v :: b) μ := id rfl
def kAC (ma : MA) (ρ : DEnv) (A : List Dv → Store → Prop) : Dv → Store → Prop := fun b μ => Wp (ma ρ μ) (kAC2 b A)
@[simp ↓] theorem kAC_r {b : Dv}  : kAC ma ρ A b μ = Wp (ma ρ μ) (kAC2 b A) := id rfl
@[simp ↓] theorem Wp_aCons : Wp (aCons a ma ρ μ) A = Wp (a ρ μ) (kAC ma ρ A) := by
  unfold aCons
  simp only [Wp_bind]
  try simp only [Wp_ok]
  rfl
def kSl3 (v : Dv) (k : Option Int) (Q : Dv → Store → Prop) : Option Int → Store → Prop := fun b μ => Wp (dSl v k b μ) Q
@[simp ↓] theorem kSl3_r {b : Option Int} {v : Dv} {k : Option Int} : kSl3 v k Q b μ = Wp (dSl v k b μ) Q := id rfl
def kSl2 (v : Dv) (hi : MO) (ρ : DEnv) (Q : Dv → Store → Prop) : Option Int → Store → Prop := fun b μ => Wp (hi ρ μ) (kSl3 v b Q)
@[simp ↓] theorem kSl2_r {b : Option Int} {v : Dv} : kSl2 v hi ρ Q b μ = Wp (hi ρ μ) (kSl3 v b Q) := id rfl
def kSl (lo hi : MO) (ρ : DEnv) (Q : Dv → Store → Prop) : Dv → Store → Prop := fun b μ => Wp (lo ρ μ) (kSl2 b hi ρ Q)
@[simp ↓] theorem kSl_r {b : Dv}  : kSl lo hi ρ Q b μ = Wp (lo ρ μ) (kSl2 b hi ρ Q) := id rfl
@[simp ↓] theorem Wp_eSl : Wp (eSl a lo hi ρ μ) Q = Wp (a ρ μ) (kSl lo hi ρ Q) := by
  unfold eSl
  simp only [Wp_bind]
  rfl
def kOS (O : Option Int → Store → Prop) : Dv → Store → Prop := fun b μ => Wp (asInt b μ) O
@[simp ↓] theorem kOS_r {b : Dv}  : kOS O b μ = Wp (asInt b μ) O := id rfl
@[simp ↓] theorem Wp_oSome : Wp (oSome a ρ μ) O = Wp (a ρ μ) (kOS O) := by
  unfold oSome
  simp only [Wp_bind]
  rfl
def kIN (k : Bool) (Q : Dv → Store → Prop) : Dv → Store → Prop := fun b μ => Wp (dIsN k b (.d .none) μ) Q
@[simp ↓] theorem kIN_r {b : Dv} {k : Bool} : kIN k Q b μ = Wp (dIsN k b (.d .none) μ) Q := id rfl
@[simp ↓] theorem Wp_eIsN {k : Bool} : Wp (eIsN k a ρ μ) Q = Wp (a ρ μ) (kIN k Q) := by
  unfold eIsN
  simp only [Wp_bind]
  rfl
def kLc (f : OpN) (g : MG) (tt : MT) (c : ME) (vs : List Nat) (ρ : DEnv) (Q : Dv → Store → Prop) : List Dv → Store → Prop := fun b μ => Wp (lcF f g tt c vs ρ b μ) Q
@[simp ↓] theorem kLc_r {b : List Dv} {f : OpN} {vs : List Nat} : kLc f g tt c vs ρ Q b μ = Wp (lcF f g tt c vs ρ b μ) Q := id rfl
@[simp ↓] theorem Wp_eLc {f : OpN} {vs : List Nat} : Wp (eLc f mi g tt c vs ρ μ) Q = Wp (mi ρ μ) (kLc f g tt c vs ρ Q) := by
  unfold eLc
  simp only [Wp_bind]
  rfl
def kLcC (f : OpN) (g : MG) (tt : MT) (c : ME) (vs : List Nat) (n : Nat) (ρ : DEnv) (Q : Dv → Store → Prop) : Dv → Store → Prop := fun b μ => Wp (lcCb f g tt c vs n ρ b μ) Q
@[simp ↓] theorem kLcC_r {b : Dv} {f : OpN} {vs : List Nat} : kLcC f g tt c vs n ρ Q b μ = Wp (lcCb f g tt c vs n ρ b μ) Q := id rfl
@[simp ↓] theorem Wp_eLcC {f : OpN} {vs : List Nat} : Wp (eLcC f a g tt c vs n ρ μ) Q = Wp (a ρ μ) (kLcC f g tt c vs n ρ Q) := by
  unfold eLcC
  simp only [Wp_bind]
  rfl
def kIS (A : List Dv → Store → Prop) : Dv → Store → Prop := fun b μ => Wp (walkD b μ) A
@[simp ↓] theorem kIS_r {b : Dv}  : kIS A b μ = Wp (walkD b μ) A := id rfl
@[simp ↓] theorem Wp_iSeq : Wp (iSeq a ρ μ) A = Wp (a ρ μ) (kIS A) := by
  unfold iSeq
  simp only [Wp_bind]
  rfl
def kIR (f : List Dv → Store → Out (List Dv)) (A : List Dv → Store → Prop) : List Dv → Store → Prop := fun b μ => Wp (f b μ) A
@[simp ↓] theorem kIR_r {b : List Dv} {f : List Dv → Store → Out (List Dv)} : kIR f A b μ = Wp (f b μ) A := id rfl
@[simp ↓] theorem Wp_iRng {f : List Dv → Store → Out (List Dv)} : Wp (iRng f ma ρ μ) A = Wp (ma ρ μ) (kIR f A) := by
  unfold iRng
  simp only [Wp_bind]
  rfl
def kIf (t u : MS) (ρ : DEnv) (P : Fl → Store → Prop) : Bool → Store → Prop := fun b μ => match b with
  | true => Wp (t ρ μ) P
  | false => Wp (u ρ μ) P
@[simp ↓] theorem kIf_t : kIf t u ρ P true μ = Wp (t ρ μ) P := id rfl
@[simp ↓] theorem kIf_f : kIf t u ρ P false μ = Wp (u ρ μ) P := id rfl
theorem kIf_s {b : Bool} (h1 : b = true → Wp (t ρ μ) P) (h2 : b = false → Wp (u ρ μ) P) : kIf t u ρ P b μ := by
  cases b with
  | true => exact h1 rfl
  | false => exact h2 rfl
@[simp ↓] theorem Wp_sIf : Wp (sIf tt t u ρ μ) P = Wp (tt ρ μ) (kIf t u ρ P) := by
  unfold sIf
  rw [Wp_bind]
  congr 1
  funext b μ
  cases b
  · first | rfl | exact Wp_ok | (simp only [Bool.false_eq_true, if_false]; first | rfl | exact Wp_ok)
  · first | rfl | exact Wp_ok | (simp only [if_true]; first | rfl | exact Wp_ok)
def kAnd (x : MT) (ρ : DEnv) (B : Bool → Store → Prop) : Bool → Store → Prop := fun b μ => match b with
  | true => Wp (x ρ μ) B
  | false => B false μ
@[simp ↓] theorem kAnd_t : kAnd x ρ B true μ = Wp (x ρ μ) B := id rfl
@[simp ↓] theorem kAnd_f : kAnd x ρ B false μ = B false μ := id rfl
theorem kAnd_s {b : Bool} (h1 : b = true → Wp (x ρ μ) B) (h2 : b = false → B false μ) : kAnd x ρ B b μ := by
  cases b with
  | true => exact h1 rfl
  | false => exact h2 rfl
@[simp ↓] theorem Wp_tAndM : Wp (tAndM tt x ρ μ) B = Wp (tt ρ μ) (kAnd x ρ B) := by
  unfold tAndM
  rw [Wp_bind]
  congr 1
  funext b μ
  cases b
  · first | rfl | exact Wp_ok | (simp only [Bool.false_eq_true, if_false]; first | rfl | exact Wp_ok)
  · first | rfl | exact Wp_ok | (simp only [if_true]; first | rfl | exact Wp_ok)
def kOr (x : MT) (ρ : DEnv) (B : Bool → Store → Prop) : Bool → Store → Prop := fun b μ => match b with
  | true => B true μ
  | false => Wp (x ρ μ) B
@[simp ↓] theorem kOr_t : kOr x ρ B true μ = B true μ := id rfl
@[simp ↓] theorem kOr_f : kOr x ρ B false μ = Wp (x ρ μ) B := id rfl
theorem kOr_s {b : Bool} (h1 : b = true → B true μ) (h2 : b = false → Wp (x ρ μ) B) : kOr x ρ B b μ := by
  cases b with
  | true => exact h1 rfl
  | false => exact h2 rfl
@[simp ↓] theorem Wp_tOrM : Wp (tOrM tt x ρ μ) B = Wp (tt ρ μ) (kOr x ρ B) := by
  unfold tOrM
  rw [Wp_bind]
  congr 1
  funext b μ
  cases b
  · first | rfl | exact Wp_ok | (simp only [Bool.false_eq_true, if_false]; first | rfl | exact Wp_ok)
  · first | rfl | exact Wp_ok | (simp only [if_true]; first | rfl | exact Wp_ok)
def kEI (a c : ME) (ρ : DEnv) (Q : Dv → Store → Prop) : Bool → Store → Prop := fun b μ => match b with
  | true => Wp (a ρ μ) Q
  | false => Wp (c ρ μ) Q
@[simp ↓] theorem kEI_t : kEI a c ρ Q true μ = Wp (a ρ μ) Q := id rfl
@[simp ↓] theorem kEI_f : kEI a c ρ Q false μ = Wp (c ρ μ) Q := id rfl
theorem kEI_s {b : Bool} (h1 : b = true → Wp (a ρ μ) Q) (h2 : b = false → Wp (c ρ μ) Q) : kEI a c ρ Q b μ := by
  cases b with
  | true => exact h1 rfl
  | false => exact h2 rfl
@[simp ↓] theorem Wp_eIf : Wp (eIf tt a c ρ μ) Q = Wp (tt ρ μ) (kEI a c ρ Q) := by
  unfold eIf
  rw [Wp_bind]
  congr 1
  funext b μ
  cases b
  · first | rfl | exact Wp_ok | (simp only [Bool.false_eq_true, if_false]; first | rfl | exact Wp_ok)
  · first | rfl | exact Wp_ok | (simp only [if_true]; first | rfl | exact Wp_ok)
def kEA (c : ME) (ρ : DEnv) (Q : Dv → Store → Prop) : Bool → Store → Prop := fun b μ => match b with
  | true => Wp (c ρ μ) Q
  | false => Q (.d (.bool false)) μ
@[simp ↓] theorem kEA_t : kEA c ρ Q true μ = Wp (c ρ μ) Q := id rfl
@[simp ↓] theorem kEA_f : kEA c ρ Q false μ = Q (.d (.bool false)) μ := id rfl
theorem kEA_s {b : Bool} (h1 : b = true → Wp (c ρ μ) Q) (h2 : b = false → Q (.d (.bool false)) μ) : kEA c ρ Q b μ := by
  cases b with
  | true => exact h1 rfl
  | false => exact h2 rfl
def kEA0 (c : ME) (ρ : DEnv) (Q : Dv → Store → Prop) : Dv → Store → Prop := fun b μ => Wp (asBool b μ) (kEA c ρ Q)
@[simp ↓] theorem kEA0_r {b : Dv} : kEA0 c ρ Q b μ = Wp (asBool b μ) (kEA c ρ Q) := id rfl
@[simp ↓] theorem Wp_eAnd : Wp (eAnd a c ρ μ) Q = Wp (a ρ μ) (kEA0 c ρ Q) := by
  unfold eAnd
  simp only [Wp_bind]
  congr 1
  funext b μ
  unfold kEA0
  congr 1
  funext k μ
  cases k
  · first | rfl | exact Wp_ok | (simp only [Bool.false_eq_true, if_false]; first | rfl | exact Wp_ok)
  · first | rfl | exact Wp_ok | (simp only [if_true]; first | rfl | exact Wp_ok)
def kEO (c : ME) (ρ : DEnv) (Q : Dv → Store → Prop) : Bool → Store → Prop := fun b μ => match b with
  | true => Q (.d (.bool true)) μ
  | false => Wp (c ρ μ) Q
@[simp ↓] theorem kEO_t : kEO c ρ Q true μ = Q (.d (.bool true)) μ := id rfl
@[simp ↓] theorem kEO_f : kEO c ρ Q false μ = Wp (c ρ μ) Q := id rfl
theorem kEO_s {b : Bool} (h1 : b = true → Q (.d (.bool true)) μ) (h2 : b = false → Wp (c ρ μ) Q) : kEO c ρ Q b μ := by
  cases b with
  | true => exact h1 rfl
  | false => exact h2 rfl
def kEO0 (c : ME) (ρ : DEnv) (Q : Dv → Store → Prop) : Dv → Store → Prop := fun b μ => Wp (asBool b μ) (kEO c ρ Q)
@[simp ↓] theorem kEO0_r {b : Dv} : kEO0 c ρ Q b μ = Wp (asBool b μ) (kEO c ρ Q) := id rfl
@[simp ↓] theorem Wp_eOr : Wp (eOr a c ρ μ) Q = Wp (a ρ μ) (kEO0 c ρ Q) := by
  unfold eOr
  simp only [Wp_bind]
  congr 1
  funext b μ
  unfold kEO0
  congr 1
  funext k μ
  cases k
  · first | rfl | exact Wp_ok | (simp only [Bool.false_eq_true, if_false]; first | rfl | exact Wp_ok)
  · first | rfl | exact Wp_ok | (simp only [if_true]; first | rfl | exact Wp_ok)
def kEN1 (Q : Dv → Store → Prop) : Bool → Store → Prop := fun k μ => Q (.d (.bool (!k))) μ
@[simp ↓] theorem kEN1_r {k : Bool} : kEN1 Q k μ = Q (.d (.bool (!k))) μ := id rfl
def kEN (Q : Dv → Store → Prop) : Dv → Store → Prop := fun b μ => Wp (asBool b μ) (kEN1 Q)
@[simp ↓] theorem kEN_r {b : Dv} : kEN Q b μ = Wp (asBool b μ) (kEN1 Q) := id rfl
@[simp ↓] theorem Wp_eNot : Wp (eNot a ρ μ) Q = Wp (a ρ μ) (kEN Q) := by
  unfold eNot
  simp only [Wp_bind, Wp_ok]
  rfl
@[simp ↓] theorem Wp_fCall {F : OpN} {bs : List Dv} (h : bs.length = n) : Wp (fCall n F bs μ) Q = Wp (F bs μ) Q := by
  rw [fCall_r, if_pos h]
def kM2 (f : Dv → OpN) (v : Dv) (Q : Dv → Store → Prop) : List Dv → Store → Prop := fun b μ => Wp (f v b μ) Q
@[simp ↓] theorem kM2_r {f : Dv → OpN} {v : Dv} {b : List Dv} : kM2 f v Q b μ = Wp (f v b μ) Q := id rfl
def kM (k : Dv → Store → Bool) (f : Dv → OpN) (ma : MA) (ρ : DEnv) (Q : Dv → Store → Prop) : Dv → Store → Prop := fun b μ => k b μ = true ∧ Wp (ma ρ μ) (kM2 f b Q)
@[simp ↓] theorem kM_r {k : Dv → Store → Bool} {f : Dv → OpN} {b : Dv} (h : k b μ = true) : kM k f ma ρ Q b μ = Wp (ma ρ μ) (kM2 f b Q) := by
  unfold kM
  simp [h]
@[simp ↓] theorem Wp_eM {k : Dv → Store → Bool} {f : Dv → OpN} : Wp (eM k f a ma ρ μ) Q = Wp (a ρ μ) (kM k f ma ρ Q) := by
  unfold eM
  rw [Wp_bind]
  congr 1
  funext b μ
  unfold kM
  split
  · rename_i h
    rw [Wp_bind]
    simp only [h, true_and]
    rfl
  · rename_i h
    simp only [h, false_and]
    simp [Wp_bad]
def kGs (r : MGs) (bs : List Dv) (E : DEnv → Store → Prop) : DEnv → Store → Prop := fun ρ μ => Wp (r bs ρ μ) E
@[simp ↓] theorem kGs_r {bs : List Dv} : kGs r bs E ρ μ = Wp (r bs ρ μ) E := id rfl
@[simp ↓] theorem Wp_gsCons {b : Dv} {bs : List Dv} : Wp (gsCons g r (b :: bs) ρ μ) E = Wp (g b ρ μ) (kGs r bs E) := by
  show Wp ((g b ρ μ).bind fun ρ μ => r bs ρ μ) E = _
  rw [Wp_bind]
  rfl
@[simp ↓] theorem Wp_gT {ds : List D} (h : ds.length = n) : Wp (gT n r (.d (.tuple ds)) ρ μ) E = Wp (r (ds.map .d) ρ μ) E := by
  rw [gT_r, if_pos h]
def kK2 (n m : Nat) (ix : List Nat) (F : OpN) (bs : List Dv) (Q : Dv → Store → Prop) : List Dv → Store → Prop := fun cs μ => cs.length = m ∧ Wp (fCall n F (pickL (.d .none) ix (bs ++ cs)) μ) Q
@[simp ↓] theorem kK2_r {ix : List Nat} {F : OpN} {bs cs : List Dv} (h : cs.length = m) : kK2 n m ix F bs Q cs μ = Wp (fCall n F (pickL (.d .none) ix (bs ++ cs)) μ) Q := by
  unfold kK2
  simp [h]
def kK1 (n m : Nat) (ix : List Nat) (F : OpN) (mk : MA) (ρ : DEnv) (Q : Dv → Store → Prop) : List Dv → Store → Prop := fun bs μ => Wp (mk ρ μ) (kK2 n m ix F bs Q)
@[simp ↓] theorem kK1_r {ix : List Nat} {F : OpN} {bs : List Dv} : kK1 n m ix F mk ρ Q bs μ = Wp (mk ρ μ) (kK2 n m ix F bs Q) := id rfl
@[simp ↓] theorem Wp_eCallK {ix : List Nat} {F : OpN} : Wp (eCallK n m ix F ma mk ρ μ) Q = Wp (ma ρ μ) (kK1 n m ix F mk ρ Q) := by
  unfold eCallK
  simp only [Wp_bind]
  congr 1
  funext bs μ
  unfold kK1
  congr 1
  funext cs μ
  unfold kK2
  split
  · rename_i h
    simp only [h, true_and]
  · rename_i h
    simp only [h, false_and]
    simp [Wp_bad]
end
end DL

/-! repr of data in bounds; lists that can be sorted. -/
namespace DL
open PySem PySem.Spec PyProof.Rows L2
/-- k: how deep at most, c: how long its repr is at most -/
structure Sm (k c : Nat) (d : D) : Prop where
  sh : d.showable = true
  nd : nodict d = true
  hd : d.hasDict = false
  dp : d.depth ≤ k
  ln : d.shown.length ≤ c
theorem Sm.mono {k c k' c' : Nat} {d : D} (h : Sm k c d) (hk : k ≤ k') (hc : c ≤ c') : Sm k' c' d := ⟨h.sh, h.nd, h.hd, Nat.le_trans h.dp hk, Nat.le_trans h.ln hc⟩
theorem Sm.int {i : Int} (h : i.natAbs < 10 ^ 40) : Sm 0 41 (.int i) := by
  have s : smallD (.int i) = true := decide_eq_true h
  obtain ⟨a, b, c, d⟩ := small_show s
  exact ⟨a, b, c, by rw [d]; exact Nat.le_refl _, small_len s⟩
theorem Sm.none : Sm 0 4 .none := ⟨rfl, rfl, rfl, Nat.le_refl _, by decide +kernel⟩
theorem Sm.bool (b : Bool) : Sm 0 5 (.bool b) := ⟨rfl, rfl, rfl, Nat.le_refl _, by cases b <;> decide +kernel⟩
theorem Sm.str {l : List Nat} (h : ∀ c ∈ l, c < 16 ^ 8) : Sm 0 (10 * l.length + 2) (.str (T l)) := by
  refine ⟨rfl, rfl, rfl, Nat.le_refl _, ?_⟩
  have := StrLaws.reprText_len (T l) h
  rw [T_len] at this
  rw [PyData.shown_str]
  exact this
theorem sm_all {k c : Nat} : ∀ {ds : List D}, (∀ d ∈ ds, Sm k c d) → PyData.showableAll ds = true ∧ nodicts ds = true ∧ PyData.hasDictAll ds = false ∧ PyData.depthAll ds ≤ k ∧ piled (PyData.shownAll ds) ≤ ds.length * (c + 2) ∧ (PyData.shownAll ds).length = ds.length
  | [], _ => ⟨rfl, rfl, rfl, Nat.zero_le _, Nat.zero_le _, rfl⟩
  | d :: ds, h => by
    obtain ⟨a1, a2, a3, a4, a5, a6⟩ := sm_all (ds := ds) fun e he => h e (List.mem_cons_of_mem _ he)
    obtain ⟨b1, b2, b3, b4, b5⟩ := h d List.mem_cons_self
    refine ⟨?_, ?_, ?_, ?_, ?_, ?_⟩
    · simp [PyData.showableAll, a1, b1]
    · simp [nodicts, a2, b2]
    · simp [PyData.hasDictAll, a3, b3]
    · simp only [PyData.depthAll]; omega
    · rw [PyData.shownAll, piled_cons, List.length_cons, Nat.succ_mul]; omega
    · rw [PyData.shownAll, List.length_cons, List.length_cons, a6]
theorem join_le : ∀ ts : List Str, (Str.join ", " ts).length ≤ piled ts
  | [] => Nat.zero_le _
  | t :: ts => by
    have := join_length_add (t :: ts) (by simp)
    omega
theorem listText_le : ∀ ts : List Str, (listText ts).length ≤ piled ts + 2
  | [] => by decide +kernel
  | t :: ts => by
    unfold listText
    rw [str_len_app]
    have e1 : Str.length ("]" : Str) = 1 := by decide +kernel
    have e2 : textFrom 0 "[" (t :: ts) = textFrom 1 (("[" : Str) ++ (if (0 : Nat) > 0 then ", " else "" : String) ++ t) ts := rfl
    rw [e1, e2, textFrom_length_pos ts 1 _ (by omega), piled_cons, str_len_app, str_len_app]
    have e3 : Str.length ("[" : Str) = 1 := by decide +kernel
    have e4 : Str.length (Str.ofString (if (0 : Nat) > 0 then ", " else "" : String)) = 0 := by decide +kernel
    rw [e3, e4]
    omega
theorem tupleText_le (ts : List Str) : (tupleText ts).length ≤ piled ts + 3 := by
  unfold tupleText
  rw [str_len_app, str_len_app]
  have h := join_le ts
  have e1 : Str.length ("(" : Str) = 1 := by decide +kernel
  have e2 : Str.length (Str.ofString (if ts.length == 1 then ",)" else ")" : String)) ≤ 2 := by
    split <;> decide +kernel
  rw [e1]
  omega
theorem Sm.list {k c n : Nat} {ds : List D} (h : ∀ d ∈ ds, Sm k c d) (hn : ds.length ≤ n) : Sm (k + 1) (n * (c + 2) + 3) (.list ds) := by
  obtain ⟨a1, a2, a3, a4, a5, a6⟩ := sm_all h
  have m : ds.length * (c + 2) ≤ n * (c + 2) := Nat.mul_le_mul_right _ hn
  refine ⟨by simpa [PyData.showable] using a1, by simpa [nodict] using a2, by simpa [PyData.hasDict] using a3, by simp only [PyData.depth]; omega, ?_⟩
  have := listText_le (PyData.shownAll ds)
  rw [PyData.shown]
  omega
theorem Sm.tup {k c n : Nat} {ds : List D} (h : ∀ d ∈ ds, Sm k c d) (hn : ds.length ≤ n) : Sm (k + 1) (n * (c + 2) + 3) (.tuple ds) := by
  obtain ⟨a1, a2, a3, a4, a5, a6⟩ := sm_all h
  have m : ds.length * (c + 2) ≤ n * (c + 2) := Nat.mul_le_mul_right _ hn
  refine ⟨by simpa [PyData.showable] using a1, by simpa [nodict] using a2, by simpa [PyData.hasDict] using a3, by simp only [PyData.depth]; omega, ?_⟩
  have := tupleText_le (PyData.shownAll ds)
  rw [PyData.shown]
  omega
theorem dRepr_sm {d : D} {μ : Store} (h : Sm 40 16000000 d) : dRepr [.d d] μ = .ok (.d (.str d.shown)) μ := by
  obtain ⟨a, b, c, e, f⟩ := h
  have hb := line_big
  show (if (d.showable && nodict d && !d.hasDict && decide (d.depth ≤ 40) && decide (d.shown.length ≤ sizeLine)) = true then Out.ok (Dv.d (.str d.shown)) μ else .bad) = _
  rw [if_pos]
  simp only [a, b, c, Bool.not_false, Bool.true_and, Bool.and_eq_true, decide_eq_true_eq]
  exact ⟨e, by omega⟩
/-! ### sorting -/
theorem sort_ints {ds : List D} (h : ∀ d ∈ ds, ∃ i, d = .int i) : canSort ds = true := by
  unfold canSort
  simp only [Bool.and_eq_true, Bool.or_eq_true, List.all_eq_true, decide_eq_true_eq]
  refine ⟨⟨⟨fun d hd e he => ?_, .inr fun d hd => ?_⟩, fun d hd => ?_⟩, ?_⟩
  · obtain ⟨i, rfl⟩ := h d hd
    obtain ⟨j, rfl⟩ := h e he
    rfl
  · obtain ⟨i, rfl⟩ := h d hd
    rfl
  · obtain ⟨i, rfl⟩ := h d hd
    exact Nat.zero_le _
  · induction ds with
    | nil => rfl
    | cons d ds ih =>
      obtain ⟨i, rfl⟩ := h d List.mem_cons_self
      exact ih fun e he => h e (List.mem_cons_of_mem _ he)
theorem sort_strs {ds : List D} (h : ∀ d ∈ ds, ∃ x, d = .str x) : canSort ds = true := by
  unfold canSort
  simp only [Bool.and_eq_true, Bool.or_eq_true, List.all_eq_true, decide_eq_true_eq]
  refine ⟨⟨⟨fun d hd e he => ?_, .inr fun d hd => ?_⟩, fun d hd => ?_⟩, ?_⟩
  · obtain ⟨i, rfl⟩ := h d hd
    obtain ⟨j, rfl⟩ := h e he
    rfl
  · obtain ⟨i, rfl⟩ := h d hd
    rfl
  · obtain ⟨i, rfl⟩ := h d hd
    exact Nat.zero_le _
  · induction ds with
    | nil => rfl
    | cons d ds ih =>
      obtain ⟨i, rfl⟩ := h d List.mem_cons_self
      exact ih fun e he => h e (List.mem_cons_of_mem _ he)
theorem sort_pairs {ds : List D} (h : ∀ d ∈ ds, ∃ x y, d = .tuple [.str x, .str y]) : canSort ds = true := by
  unfold canSort
  simp only [Bool.and_eq_true, Bool.or_eq_true, List.all_eq_true, decide_eq_true_eq]
  refine ⟨⟨⟨fun d hd e he => ?_, .inl fun d hd => ?_⟩, fun d hd => ?_⟩, ?_⟩
  · obtain ⟨i, k, rfl⟩ := h d hd
    obtain ⟨j, l, rfl⟩ := h e he
    rfl
  · obtain ⟨i, k, rfl⟩ := h d hd
    rfl
  · obtain ⟨i, k, rfl⟩ := h d hd
    simp [PyData.depth, PyData.depthAll]
  · induction ds with
    | nil => rfl
    | cons d ds ih =>
      obtain ⟨i, k, rfl⟩ := h d List.mem_cons_self
      exact ih fun e he => h e (List.mem_cons_of_mem _ he)
theorem dSort_d {ds : List D} {b : Dv} {μ : Store} (e : items b μ = some (ds.map .d)) (h : canSort ds = true) (n : ds.length ≤ 16000000) : dSort [b] μ = .ok (.d (.list (srt ds))) μ := by
  show (match items b μ with | some bs => _ | none => _) = _
  rw [e]
  show (match allD (ds.map Dv.d) with | some ds => (if canSort ds = true then dList ((srt ds).map .d) μ else .bad) | none => .bad) = _
  rw [allD_map]
  show (if canSort ds = true then _ else _) = _
  rw [if_pos h, dList_d (by rw [srt_len]; exact Nat.le_trans n line_big)]
theorem keysD_strs : ∀ {ds : List D}, (∀ d ∈ ds, ∃ x, d = .str x) → ∃ ks, keysD ds = some ks ∧ ks.length = ds.length ∧ ∀ k ∈ ks, ∃ x, k = .inr x ∧ PyData.str x ∈ ds
  | [], _ => ⟨[], rfl, rfl, fun k h => by cases h⟩
  | d :: ds, h => by
    obtain ⟨x, rfl⟩ := h d List.mem_cons_self
    obtain ⟨ks, e, l, m⟩ := keysD_strs (ds := ds) fun e he => h e (List.mem_cons_of_mem _ he)
    refine ⟨.inr x :: ks, ?_, by rw [List.length_cons, List.length_cons, l], fun k hk => ?_⟩
    · show (match some (Sum.inr x : Key), keysD ds with | some k, some ks => some (k :: ks) | _, _ => none) = _
      rw [e]
    · rcases List.mem_cons.mp hk with e | hk
      · exact ⟨x, e, List.mem_cons_self⟩
      · obtain ⟨y, e1, e2⟩ := m k hk
        exact ⟨y, e1, List.mem_cons_of_mem _ e2⟩
theorem keysD_ints : ∀ {ds : List D}, (∀ d ∈ ds, ∃ x, d = .int x) → ∃ ks, keysD ds = some ks ∧ ks.length = ds.length ∧ ∀ k ∈ ks, ∃ x, k = .inl x ∧ PyData.int x ∈ ds
  | [], _ => ⟨[], rfl, rfl, fun k h => by cases h⟩
  | d :: ds, h => by
    obtain ⟨x, rfl⟩ := h d List.mem_cons_self
    obtain ⟨ks, e, l, m⟩ := keysD_ints (ds := ds) fun e he => h e (List.mem_cons_of_mem _ he)
    refine ⟨.inl x :: ks, ?_, by rw [List.length_cons, List.length_cons, l], fun k hk => ?_⟩
    · show (match some (Sum.inl x : Key), keysD ds with | some k, some ks => some (k :: ks) | _, _ => none) = _
      rw [e]
    · rcases List.mem_cons.mp hk with e | hk
      · exact ⟨x, e, List.mem_cons_self⟩
      · obtain ⟨y, e1, e2⟩ := m k hk
        exact ⟨y, e1, List.mem_cons_of_mem _ e2⟩
/-- sorted(set(xs)): some list of the items -/
theorem dSortSet_d {ds : List D} {b : Dv} {μ : Store} (e : items b μ = some (ds.map .d)) (h : (∀ d ∈ ds, ∃ x, d = .str x) ∨ ∀ d ∈ ds, ∃ x, d = .int x) (n : ds.length ≤ 1000) :
    ∃ es, dSortSet b μ = .ok (.d (.list es)) μ ∧ es.length ≤ ds.length ∧ ∀ d ∈ es, d ∈ ds := by
  obtain ⟨ks, e1, l, m⟩ : ∃ ks, keysD ds = some ks ∧ ks.length = ds.length ∧ ((∀ k ∈ ks, ∃ x, k = .inr x ∧ PyData.str x ∈ ds) ∨ ∀ k ∈ ks, ∃ x, k = .inl x ∧ PyData.int x ∈ ds) := by
    rcases h with h | h
    · obtain ⟨ks, a, b, c⟩ := keysD_strs h
      exact ⟨ks, a, b, .inl c⟩
    · obtain ⟨ks, a, b, c⟩ := keysD_ints h
      exact ⟨ks, a, b, .inr c⟩
  obtain ⟨d1, d2, d3⟩ := ddK_facts ks
  have cs : canSort ((ddK ks).map kD) = true := by
    rcases m with m | m
    · refine sort_strs fun d hd => ?_
      obtain ⟨k, hk, rfl⟩ := List.mem_map.mp hd
      obtain ⟨x, rfl, _⟩ := m k ((d2 k).mp hk)
      exact ⟨x, rfl⟩
    · refine sort_ints fun d hd => ?_
      obtain ⟨k, hk, rfl⟩ := List.mem_map.mp hd
      obtain ⟨x, rfl, _⟩ := m k ((d2 k).mp hk)
      exact ⟨x, rfl⟩
  refine ⟨(srtK (ddK ks)).map kD, ?_, ?_, fun d hd => ?_⟩
  · unfold dSortSet
    simp only [e, allD_map, e1, cs]
    have : decide (ks.length ≤ 1000) = true := decide_eq_true (by omega)
    rw [this]
    rfl
  · rw [List.length_map, (List.mergeSort_perm _ _).length_eq]
    omega
  · obtain ⟨k, hk, rfl⟩ := List.mem_map.mp hd
    have hk := (d2 k).mp ((List.mergeSort_perm _ _).mem_iff.mp hk)
    rcases m with m | m
    · obtain ⟨x, rfl, hx⟩ := m k hk
      exact hx
    · obtain ⟨x, rfl, hx⟩ := m k hk
      exact hx
end DL

/-! repr of data with dicts in it. -/
namespace DL
open PySem PySem.Spec PyProof.Rows L2
theorem depth_kD (k : Key) : (kD k).depth = 0 := by cases k <;> simp [kD, PyData.depth]
section
variable {X : Cx} {pins : List (Addr × Obj)} {σ : L2.St} {H : Hp} {s : Shared}
theorem keyRepr {knd : KeyKind X.prog X.w Key} (hk : ∀ k v, knd.is k v = true → RelV (kV k) v) {k : Key} {v : Value} (h : knd.is k v = true) (hs : (kD k).showable = true) (hz : (kD k).shown.length ≤ sizeLine) {h0 : Heap} :
    Reads h0 v (kD k) [] ∧ ReprK X.prog X.w [] h0 0 v (kD k).shown := by
  have r := hk k v h
  cases k with
  | inl i =>
    obtain ⟨t, rfl⟩ := r
    exact ⟨.int i t, by simp only [kD, PyData.shown]; exact .of_is (ReprIs.int t (by simpa [kD, PyData.showable] using hs)) _ _ _⟩
  | inr x =>
    obtain ⟨t, rfl⟩ := r
    exact ⟨.str x t, by simp only [kD, PyData.shown]; exact .of_is (ReprIs.str x t (by simpa only [kD, PyData.shown] using hz)) _ _ _⟩
theorem mixRel {P : Program} {w : World} (k : Key) (v : Value) (h : (mixKind P w).is k v = true) : RelV (kV k) v := by
  rcases keyIs_shape h with ⟨i, t, rfl, rfl⟩ | ⟨x, t, rfl, rfl⟩
  · exact ⟨t, rfl⟩
  · exact ⟨t, rfl⟩
mutual
theorem reprG (I : Inv X pins σ H s) : ∀ (d : D) (v : V) (u : Value), Rp X.K H v d → RelV v u → d.showable = true → d.shown.length ≤ sizeLine →
    ∃ as bs, Reads s.heap u d as ∧ ReadAtMost s.heap d.depth bs ∧ ReprK X.prog X.w bs s.heap d.depth u d.shown
  | .none, _, _, h, r, _, _ => by
    cases h
    cases r
    exact ⟨_, [], .none, (fun _ h => nomatch h), by simp only [PyData.shown]; exact .of_is ReprIs.none _ _ _⟩
  | .bool b, _, _, h, r, _, _ => by
    cases h
    cases r
    exact ⟨_, [], .bool b, (fun _ h => nomatch h), by simp only [PyData.shown]; exact .of_is (ReprIs.bool b) _ _ _⟩
  | .int i, _, _, h, r, hs, _ => by
    cases h
    obtain ⟨t, rfl⟩ := r
    exact ⟨_, [], .int i t, (fun _ h => nomatch h), by simp only [PyData.shown]; exact .of_is (ReprIs.int t (by simpa [PyData.showable] using hs)) _ _ _⟩
  | .str x, _, _, h, r, _, hz => by
    cases h
    obtain ⟨t, rfl⟩ := r
    exact ⟨_, [], .str x t, (fun _ h => nomatch h), by simp only [PyData.shown]; exact .of_is (ReprIs.str x t (by simpa only [PyData.shown] using hz)) _ _ _⟩
  | .list ds, _, _, h, r, hs, hz => by
    cases h with
    | @lst a _ _ hs' ha =>
      cases r
      obtain ⟨its, rv, ⟨o, n, ho, hc, _, hd⟩, _⟩ := I.list hs'
      have hz' : (listText (PyData.shownAll ds)).length ≤ sizeLine := by simpa only [PyData.shown] using hz
      obtain ⟨as, bs, hr, hb, hk⟩ := reprGs I ds _ its ha rv (by simpa [PyData.showable] using hs) (fun t ht => Nat.le_trans (listText_mem_le ht) hz')
      have r : Reads s.heap (.ref a) (.list ds) _ := .list ho hc hd hr
      have hna : a ∉ bs := not_mem_of_deeper r (by simp only [PyData.depth]; omega) hb
      refine ⟨_, a :: bs, r, ReadAtMost.cons r (by simp only [PyData.depth]; omega) hb, ?_⟩
      simp only [PyData.depth, PyData.shown]
      cases its with
      | nil =>
        cases hr
        simp only [PyData.shownAll, listText_nil]
        exact ReprK.listEmpty ho hc hd
      | cons x l => exact ReprK.list ho hc hd hna (by simpa using hk.length_eq) (fun i y e => hk.item i y (by simpa using e))
  | .tuple ds, _, _, h, r, hs, hz => by
    cases h with
    | @tup a _ _ hs' ha =>
      cases r
      obtain ⟨its, rv, ⟨o, ho, hc, n, hd⟩, _⟩ := I.tuple hs'.t
      have hz' : (tupleText (PyData.shownAll ds)).length ≤ sizeLine := by simpa only [PyData.shown] using hz
      obtain ⟨as, bs, hr, hb, hk⟩ := reprGs I ds _ its ha rv (by simpa [PyData.showable] using hs) (fun t ht => Nat.le_trans (tupleText_mem_le ht) hz')
      have r : Reads s.heap (.ref a) (.tuple ds) _ := .tuple ho hc hd hr
      have hna : a ∉ bs := not_mem_of_deeper r (by simp only [PyData.depth]; omega) hb
      refine ⟨_, a :: bs, r, ReadAtMost.cons r (by simp only [PyData.depth]; omega) hb, ?_⟩
      simp only [PyData.depth, PyData.shown]
      exact ReprK.tuple ho hc hd hna hk
  | .dict ps, _, _, h, r, hs, hz => by
    cases h with
    | @dic a kvs _ hd ha =>
      cases r
      obtain ⟨_, hsys, vs, kv, o, es, ep, ho, hx, hdt, _, pr, _⟩ := dk_of I.hok hd
      have hz' : (dictText (PyData.shownKv ps)).length ≤ sizeLine := by simpa only [PyData.shown] using hz
      obtain ⟨a1, a2, bs, r1, r2, hb, hk⟩ := reprGk I ps _ vs es.toList ha kv pr (by simpa [PyData.showable] using hs) (fun t ht => Nat.le_trans (dictText_mem_le ht) hz')
      have r : Reads s.heap (.ref a) (.dict ps) _ := .dict ho hx.1 hdt r1 r2
      have hna : a ∉ bs := not_mem_of_deeper r (by simp only [PyData.depth]; omega) hb
      refine ⟨_, a :: bs, r, ReadAtMost.cons r (by simp only [PyData.depth]; omega) hb, ?_⟩
      simp only [PyData.depth, PyData.shown]
      exact ReprK.dict ho hx.1 hdt hsys hna hk
theorem reprGs (I : Inv X pins σ H s) : ∀ (ds : List D) (vs : List V) (us : List Value), RpA X.K H vs ds → Vals vs us → PyData.showableAll ds = true → (∀ t ∈ PyData.shownAll ds, t.length ≤ sizeLine) →
    ∃ as bs, ReadsAll s.heap us ds as ∧ ReadAtMost s.heap (PyData.depthAll ds) bs ∧ ReprAllK X.prog X.w bs s.heap (PyData.depthAll ds) us (PyData.shownAll ds)
  | [], _, _, h, r, _, _ => by
    cases h
    cases r
    exact ⟨_, [], .nil, (fun _ h => nomatch h), by simp only [PyData.shownAll]; exact .nil⟩
  | d :: ds, _, _, h, r, hs, hz => by
    cases h with
    | cons h1 h2 =>
      cases r with
      | cons r1 r2 =>
        have hs' : d.showable = true ∧ PyData.showableAll ds = true := by simpa [PyData.showableAll] using hs
        obtain ⟨a1, b1, q1, hb1, k1⟩ := reprG I d _ _ h1 r1 hs'.1 (hz _ (by simp only [PyData.shownAll]; exact List.mem_cons_self ..))
        obtain ⟨a2, b2, q2, hb2, k2⟩ := reprGs I ds _ _ h2 r2 hs'.2 (fun t ht => hz t (by simp only [PyData.shownAll]; exact List.mem_cons_of_mem _ ht))
        refine ⟨_, b1 ++ b2, .cons q1 q2, ?_, ?_⟩
        · simp only [PyData.depthAll]
          exact (hb1.mono (Nat.le_max_left _ _)).append (hb2.mono (Nat.le_max_right _ _))
        · simp only [PyData.depthAll, PyData.shownAll]
          exact .cons ((k1.more fun b hb => List.mem_append_left _ hb).level_le (Nat.le_max_left _ _)) (k2.more_le (fun b hb => List.mem_append_right _ hb) (Nat.le_max_right _ _))
theorem reprGk (I : Inv X pins σ H s) : ∀ (ps : List (D × D)) (kvs : List (Key × V)) (vs : List (Key × Value)) (es : List DictEntry), RpK X.K H kvs ps → KV kvs vs → Pairs (mixKind X.prog X.w) es vs → PyData.showableKv ps = true → (∀ t ∈ PyData.shownKv ps, t.length ≤ sizeLine) →
    ∃ a1 a2 bs, ReadsAll s.heap (es.map (·.key)) (ps.map (·.1)) a1 ∧ ReadsAll s.heap (es.map (·.val)) (ps.map (·.2)) a2 ∧ ReadAtMost s.heap (PyData.depthKv ps) bs ∧ ReprEntriesK X.prog X.w bs s.heap (PyData.depthKv ps) es (PyData.shownKv ps)
  | [], _, _, _, h, r, p, _, _ => by
    cases h
    cases r
    cases p
    exact ⟨_, _, [], .nil, .nil, (fun _ h => nomatch h), by simp only [PyData.shownKv]; exact .nil⟩
  | (kd, d) :: ps, _, _, _, h, r, p, hs, hz => by
    cases h with
    | @cons k v kvs _ _ h1 h2 =>
      cases r with
      | @cons _ b _ bs0 r1 r2 =>
        obtain ⟨k', u⟩ := b
        obtain ⟨e1, ru⟩ := r1
        have e1 : k = k' := e1
        subst e1
        cases p with
        | @cons e _ es _ p1 p2 p3 =>
          have hs' : ((kD k).showable = true ∧ d.showable = true) ∧ PyData.showableKv ps = true := by simpa [PyData.showableKv] using hs
          have hl : ((kD k).shown ++ ": " ++ d.shown).length ≤ sizeLine := hz _ (by simp only [PyData.shownKv]; exact List.mem_cons_self ..)
          rw [strLen_append, strLen_append] at hl
          have p1 : (mixKind X.prog X.w).is k e.key = true := p1
          obtain ⟨q1, m1⟩ := keyRepr (X := X) (h0 := s.heap) mixRel p1 hs'.1.1 (by omega)
          have p2' : e.val = u := p2
          obtain ⟨a2, b2, q2, hb2, m2⟩ := reprG I d _ e.val h1 (by rw [p2']; exact ru) hs'.1.2 (by omega)
          obtain ⟨a3, a4, b3, q3, q4, hb3, m3⟩ := reprGk I ps _ _ _ h2 r2 p3 hs'.2 (fun t ht => hz t (by simp only [PyData.shownKv]; exact List.mem_cons_of_mem _ ht))
          refine ⟨_, _, b2 ++ b3, .cons q1 q3, .cons q2 q4, ?_, ?_⟩
          · simp only [PyData.depthKv]
            exact (hb2.mono (by omega)).append (hb3.mono (by omega))
          · simp only [PyData.depthKv, PyData.shownKv]
            refine .cons ((m1.more fun b hb => nomatch hb).level_le (Nat.zero_le _)) ((m2.more fun b hb => List.mem_append_left _ hb).level_le (by omega)) ?_
            have mm : ∀ {es : List DictEntry} {ts : List Str} {d d' : Nat} {as as' : List Addr}, (∀ b ∈ as, b ∈ as') → d ≤ d' → ReprEntriesK X.prog X.w as s.heap d es ts → ReprEntriesK X.prog X.w as' s.heap d' es ts := by
              intro es ts d d' as as' hsub hd h
              induction h with
              | nil => exact .nil
              | cons a b _ ih => exact .cons ((a.more hsub).level_le hd) ((b.more hsub).level_le hd) ih
            exact mm (fun b hb => List.mem_append_right _ hb) (by omega) m3
end
end

section
variable {X : Cx} {pins : List (Addr × Obj)} {σ : L2.St} {H : Hp} {s : Shared}
theorem showsG (I : Inv X pins σ H s) {a : Addr} {d : D} (h : Rp X.K H (.ref a) d) (hs : d.showable = true) (hz : d.shown.length ≤ sizeLine) : ∃ T idr, ShowsBy X.prog X.w s.heap a d T idr := by
  cases h with
  | @lst _ xs ds hs' ha =>
    obtain ⟨its, rv, ⟨o, n, ho, hc, _, hd⟩, _⟩ := I.list hs'
    have hz' : (listText (PyData.shownAll ds)).length ≤ sizeLine := by simpa only [PyData.shown] using hz
    obtain ⟨as, bs, hr, hb, hk⟩ := reprGs I ds _ its ha rv (by simpa [PyData.showable] using hs) (fun t ht => Nat.le_trans (listText_mem_le ht) hz')
    have hna : a ∉ bs := not_mem_of_deeper (.list ho hc hd hr) (by simp only [PyData.depth]; omega) hb
    refine ⟨"list", "list.__repr__", F.slot_list_repr.toG, F.slot_list_str, F.slot_list_format, fun s hk0 => ⟨o, hk0 _ _ ho, hc⟩, fun A E s Q hg hu hk0 hQ => ?_⟩
    simp only [PyData.depth] at hu
    simp only [PyData.shown] at hQ
    cases its with
    | nil =>
      cases hr
      simp only [PyData.shownAll, listText_nil] at hQ
      exact call_list_repr_empty ⟨o, hk0 _ _ ho, hc⟩ (hk0 _ _ ho) hd (hQ s.heap _ _ fun _ _ e => e)
    | cons x l => exact call_list_reprK ho hc hd hna (by simpa using hk.length_eq) (fun i y e => hk.item i y (by simpa using e)) hg (fun b _ => Clear.nil b) hu hk0 hQ hz'
  | @tup _ xs ds hs' ha =>
    obtain ⟨its, rv, ⟨o, ho, hc, n, hd⟩, _⟩ := I.tuple hs'.t
    have hz' : (tupleText (PyData.shownAll ds)).length ≤ sizeLine := by simpa only [PyData.shown] using hz
    obtain ⟨as, bs, hr, hb, hk⟩ := reprGs I ds _ its ha rv (by simpa [PyData.showable] using hs) (fun t ht => Nat.le_trans (tupleText_mem_le ht) hz')
    have hna : a ∉ bs := not_mem_of_deeper (.tuple ho hc hd hr) (by simp only [PyData.depth]; omega) hb
    refine ⟨"tuple", "tuple.__repr__", F.slot_tuple_repr, F.slot_tuple_str, F.slot_tuple_format, fun s hk0 => ⟨o, hk0 _ _ ho, hc⟩, fun A E s Q hg hu hk0 hQ => ?_⟩
    simp only [PyData.depth] at hu
    simp only [PyData.shown] at hQ
    exact call_tuple_reprK ho hc hd hna hk hg (fun b _ => Clear.nil b) hu hk0 hQ hz'
  | @dic _ kvs ps hd ha =>
    obtain ⟨_, hsys, vs, kv, o, es, ep, ho, hx, hdt, _, pr, _⟩ := dk_of I.hok hd
    have hz' : (dictText (PyData.shownKv ps)).length ≤ sizeLine := by simpa only [PyData.shown] using hz
    obtain ⟨a1, a2, bs, r1, r2, hb, hk⟩ := reprGk I ps _ vs es.toList ha kv pr (by simpa [PyData.showable] using hs) (fun t ht => Nat.le_trans (dictText_mem_le ht) hz')
    have hna : a ∉ bs := not_mem_of_deeper (.dict ho hx.1 hdt r1 r2) (by simp only [PyData.depth]; omega) hb
    refine ⟨"dict", "dict.__repr__", F.slot_dict_repr, F.slot_dict_str, F.slot_dict_format, fun s hk0 => ⟨o, hk0 _ _ ho, hx.1⟩, fun A E s Q hg hu hk0 hQ => ?_⟩
    simp only [PyData.depth] at hu
    simp only [PyData.shown] at hQ
    exact call_dict_reprK ho hx.1 hdt hsys hna hk hg (fun b _ => Clear.nil b) hu hk0 hQ hz'
end
def rReprG (K : PySem.W.Frag) : List V → Hp → VK → Prop := fun xs H Q => ∃ x d, xs = [x] ∧ Rp K H x d ∧ d.showable = true ∧ d.depth ≤ 40 ∧ d.shown.length ≤ sizeLine ∧ Q (.str d.shown) H
theorem call_reprG {X : Cx} (g : X.A.guards = some []) (hu : X.A.units + 64 < cLine) : CallR X (.builtin "repr") (rReprG X.K) := by
  intro pins s σ H xs us Q I r h
  obtain ⟨x, d, rfl, dp, sh, dep, sz, q⟩ := h
  obtain ⟨u, rfl, r1⟩ := vals1 r
  have fin : ∀ h' u tk, (∀ b o, s.heap.get? b = some o → h'.get? b = some o) → EP X pins σ Q (.str d.shown u) { s with heap := h', toks := tk } := fun h' u tk hk => ⟨.str d.shown, H, I.kept hk, ⟨u, rfl⟩, q⟩
  have go : ∀ a, x = .ref a → wpAny (model X.prog X.w) X.A (call (.builtin "repr") [u]) (EP X pins σ Q) X.xe s := fun a ea => by
    subst ea
    cases r1
    obtain ⟨T, idr, S⟩ := showsG I dp sh sz
    exact call_repr_slot (by omega) (S.typeIs s fun _ _ e => e) S.slotRepr (S.call X.A.in1 _ s _ g (by show X.A.units + 1 + d.depth < cLine; omega) (fun _ _ e => e) fun h' u tk hk => ⟨_, _, rfl, fin h' u tk hk⟩)
  cases d with
  | none => cases dp; cases r1; exact PySem.P.repr_of_none (fin s.heap _ _ fun _ _ e => e)
  | bool b => cases dp; cases r1; exact PySem.P.repr_of_bool (fin s.heap _ _ fun _ _ e => e)
  | int i => cases dp; obtain ⟨t, rfl⟩ := r1; exact PySem.P.repr_of_int (by simpa [PyData.showable] using sh) (fin s.heap _ _ fun _ _ e => e)
  | str z => cases dp; obtain ⟨t, rfl⟩ := r1; exact PySem.P.repr_of_str (fin s.heap _ _ fun _ _ e => e) (hsz := by simpa [PyData.shown] using sz)
  | list ds => cases dp; exact go _ rfl
  | tuple ds => cases dp; exact go _ rfl
  | dict ds => cases dp; exact go _ rfl
/-- repr of any data -/
def dReprG : OpN := n1 fun b μ => match view b μ with
  | some d => if (d.showable && decide (d.depth ≤ 40) && decide (d.shown.length ≤ sizeLine)) = true then .ok (.d (.str d.shown)) μ else .bad
  | none => .bad
theorem ok_reprG {G : GT} : OkN G (rReprG G.K) dReprG := by
  apply ok_n1
  intro W σ w μ H x b Q l r p
  split at p
  · rename_i d h
    split at p
    · rename_i h2
      simp only [Bool.and_eq_true, decide_eq_true_eq] at h2
      exact ⟨x, d, rfl, view_ok l r h, h2.1.1, h2.1.2, h2.2, p w _ H w.le_refl l (.str _)⟩
    · exact p.elim
  · exact p.elim
end DL

/-! Dicts: as cells that change, as data; d[k], d.get, d[k] = v, k in d, dict(pairs). -/
namespace DL
open PySem PySem.Spec PyProof.Rows L2
abbrev KvR (G : GT) (w : Wd) : List (Key × V) → List (Key × Dv) → Prop := Paired fun p q => p.1 = q.1 ∧ Rv G w p.2 q.2
theorem KvR.mono {G : GT} {w w' : Wd} (l : w.le w') {a : List (Key × V)} {b : List (Key × Dv)} (r : KvR G w a b) : KvR G w' a b := Paired.imp (fun _ _ z => ⟨z.1, z.2.mono l⟩) r
/-- a datum's pairs, its keys read -/
def kvD : List (D × D) → Option (List (Key × Dv))
  | [] => some []
  | (k, d) :: r => match keyOf k, kvD r with
    | some k, some t => some ((k, .d d) :: t)
    | _, _ => none
theorem kvD_map : ∀ kvs : List (Key × D), kvD (kvs.map fun p => (kD p.1, p.2)) = some (kvs.map fun p => (p.1, .d p.2))
  | [] => rfl
  | p :: r => by simp [kvD, keyOf_kD, kvD_map r]
/-- a dict's pairs, frozen or a cell -/
def dpairs : Dv → Store → Option (List (Key × Dv))
  | .d (.dict ps), _ => kvD ps
  | .c n, μ => match μ[n]? with
    | some (.dic kvs) => some kvs
    | _ => none
  | _, _ => none
section
variable {G : GT} {w : Wd} {v : V}
theorem kvD_ok {I : Hp} {F : Hp} {α : List Addr} : ∀ {ps : List (D × D)} {kvs : List (Key × Dv)} {ws : List (Key × V)}, kvD ps = some kvs → RpK G.K I ws ps → KvR G ⟨I, α, F⟩ ws kvs
  | [], _, _, h, r => by cases h; cases r; exact .nil
  | (k, d) :: ps, _, _, h, r => by
    cases r with
    | @cons k' v ws _ _ a t =>
      unfold kvD at h
      rw [keyOf_kD] at h
      cases q : kvD ps with
      | none => rw [q] at h; cases h
      | some l => rw [q] at h; cases h; exact .cons ⟨rfl, a⟩ (kvD_ok q t)
theorem dpairs_ok {μ : Store} {H : Hp} {b : Dv} {kvs : List (Key × Dv)} (l : Lay G w μ H) (r : Rv G w v b) (e : dpairs b μ = some kvs) : ∃ a ws, v = .ref a ∧ H a = some (.dK ws) ∧ KvR G w ws kvs := by
  unfold dpairs at e
  split at e
  · rename_i ps
    have r : Rp G.K w.I v (.dict ps) := r
    cases r with
    | @dic a ws _ h1 h2 => exact ⟨a, ws, rfl, l.same _ _ h1, kvD_ok e h2⟩
  · split at e
    · rename_i h
      cases e
      obtain ⟨a, h1, rfl⟩ := r
      obtain ⟨_, ws, h2, h3⟩ := l.at_ _ _ a h h1
      exact ⟨a, ws, rfl, h2, h3⟩
    · cases e
  · cases e
def valD (kvs : List (Key × Dv)) (k : Key) : Option Dv := (kvs.find? fun kv => decide (kv.1 = k)).map (·.2)
theorem valD_ok {ws : List (Key × V)} {kvs : List (Key × Dv)} (r : KvR G w ws kvs) (k : Key) : (∃ v b, valV ws k = some v ∧ valD kvs k = some b ∧ Rv G w v b) ∨ (valV ws k = none ∧ valD kvs k = none) := by
  induction r with
  | nil => exact .inr ⟨rfl, rfl⟩
  | @cons p q ws kvs r t ih =>
    obtain ⟨e1, e2⟩ := r
    by_cases h : p.1 = k
    · exact .inl ⟨p.2, q.2, valV_pos h, by simp [valD, List.find?_cons, ← e1, h], e2⟩
    · rw [valV_neg h]
      have : valD (q :: kvs) k = valD kvs k := by
        have h' : ¬ q.1 = k := by rw [← e1]; exact h
        simp [valD, List.find?_cons, h']
      rw [this]
      exact ih
def putD (kvs : List (Key × Dv)) (k : Key) (v : Dv) : List (Key × Dv) :=
  if (kvs.any fun kv => decide (kv.1 = k)) = true then kvs.map (fun kv => if kv.1 = k then (kv.1, v) else kv) else kvs ++ [(k, v)]
theorem any_ok {ws : List (Key × V)} {kvs : List (Key × Dv)} (r : KvR G w ws kvs) (k : Key) : (ws.any fun kv => decide (kv.1 = k)) = (kvs.any fun kv => decide (kv.1 = k)) := by
  induction r with
  | nil => rfl
  | cons r t ih => rw [List.any_cons, List.any_cons, ih, r.1]
theorem putD_map {ws : List (Key × V)} {kvs : List (Key × Dv)} (r : KvR G w ws kvs) (k : Key) {v : V} {b : Dv} (rv : Rv G w v b) : KvR G w (ws.map fun kv => if kv.1 = k then (kv.1, v) else kv) (kvs.map fun kv => if kv.1 = k then (kv.1, b) else kv) := by
  induction r with
  | nil => exact .nil
  | @cons p q ws kvs r t ih =>
    obtain ⟨e1, e2⟩ := r
    rw [List.map_cons, List.map_cons]
    refine .cons ?_ ih
    by_cases h : p.1 = k
    · rw [if_pos h, if_pos (by rw [← e1]; exact h)]; exact ⟨e1, rv⟩
    · rw [if_neg h, if_neg (by rw [← e1]; exact h)]; exact ⟨e1, e2⟩
theorem putD_ok {ws : List (Key × V)} {kvs : List (Key × Dv)} (r : KvR G w ws kvs) (k : Key) {v : V} {b : Dv} (rv : Rv G w v b) : KvR G w (putK ws k v) (putD kvs k b) := by
  unfold putK putD
  rw [any_ok r k]
  split
  · exact putD_map r k rv
  · exact Paired.rec (motive := fun l m _ => KvR G w (l ++ [(k, v)]) (m ++ [(k, b)])) (.cons ⟨rfl, rv⟩ .nil) (fun r _ ih => .cons r ih) r
end
/-! ### d[k] -/
def dDG : Op2 := fun x y μ => match dpairs x μ, y with
  | some kvs, .d k => match keyOf k with
    | some k => match valD kvs k with
      | some v => .ok v μ
      | none => .bad
    | none => .bad
  | _, _ => .bad
section
variable {X : Cx} {G : GT} {W : WX} {o i e f : Expr} {mo mi me mf : ME} {pos apos cpos : Pos}
theorem de_dg (hu : X.A.units + 64 < cLine) (ho : DE X G W o mo) (hi : DE X G W i mi) (hs : NoSl i := by exact fun _ _ => rfl) : DE X G W (.Subscript o i pos) (e2 dDG mo mi) := by
  refine PE.imp (pe_dget (by omega) ho hi hs) ?_
  rintro σ H Q ⟨w, μ, ρ, hl, he, p⟩
  refine tD.seq (k := fun ρ x μ => (mi ρ μ).bind fun y μ => dDG x y μ) hl he p fun w1 μ1 H1 v b l1 lay1 en1 r1 p1 => ?_
  refine tD.seq (k := fun ρ y μ => dDG b y μ) lay1 en1 p1 fun w2 μ2 H2 u c l2 lay2 en2 r2 p2 => ?_
  unfold dDG at p2
  split at p2
  · rename_i kvs k hp
    split at p2
    · rename_i k' hk
      split at p2
      · rename_i d hd
        obtain ⟨a, ws, rfl, e1, rk⟩ := dpairs_ok lay2 (r1.mono l2) hp
        have r2 : Rp G.K w2.I u k := r2
        rw [keyOf_eq hk] at r2
        rw [rp_key r2]
        rcases valD_ok rk k' with ⟨x, b', h1, h2, h3⟩ | ⟨h1, h2⟩
        · rw [hd] at h2
          cases h2
          refine ⟨a, x, rfl, ?_, p2 w2 _ H2 w2.le_refl lay2 h3⟩
          rw [← h1]
          exact DGet.k e1
        · rw [hd] at h2; cases h2
      · exact p2.elim
    · exact p2.elim
  · exact p2.elim
/-! ### k in d -/
def dInD (neg : Bool) : Op2 := fun y x μ => match dpairs x μ, y with
  | some kvs, .d k => match keyOf k with
    | some k => .ok (.d (.bool (if neg then !(valD kvs k).isSome else (valD kvs k).isSome))) μ
    | none => .bad
  | _, _ => .bad
theorem din_of {w : Wd} {μ : Store} {H : Hp} {σ : L2.St} {v u : V} {x y : Dv} {neg : Bool} {Q : VK} (l : Lay G w μ H) (rx : Rv G w u x) (ry : Rv G w v y) (p : Pst G W σ (Rv G) w (dInD neg y x μ) Q) :
    ∃ a o, u = .ref a ∧ DGet H a v o ∧ Q (.bl (if neg then !o.isSome else o.isSome)) H := by
  unfold dInD at p
  split at p
  · rename_i kvs k hp
    split at p
    · rename_i k' hk
      obtain ⟨a, ws, rfl, e1, rk⟩ := dpairs_ok l rx hp
      have ry : Rp G.K w.I v k := ry
      rw [keyOf_eq hk] at ry
      rw [rp_key ry]
      refine ⟨a, valV ws k', rfl, DGet.k e1, ?_⟩
      have : (valV ws k').isSome = (valD kvs k').isSome := by
        rcases valD_ok rk k' with ⟨x, b', h1, h2, h3⟩ | ⟨h1, h2⟩ <;> rw [h1, h2] <;> rfl
      rw [this]
      exact p w _ H w.le_refl l (.bl _)
    · exact p.elim
  · exact p.elim
end
/-! ### a display as a cell -/
def allPv : List (Dv × Dv) → Option (List (Key × Dv))
  | [] => some []
  | (.d k, x) :: r => match keyOf k, allPv r with
    | some k, some ps => some ((k, x) :: ps)
    | _, _ => none
  | _ :: _ => none
theorem allPv_ok {G : GT} {w : Wd} : ∀ {bs : List (Dv × Dv)} {kvs : List (Key × Dv)} {vs : List (V × V)}, allPv bs = some kvs → Rpp G w vs bs → ∃ ws : List (Key × V), vs = (ws.map fun kv => (kV kv.1, kv.2)) ∧ KvR G w ws kvs
  | [], _, _, h, r => by cases h; cases r; exact ⟨[], rfl, .nil⟩
  | (.d k, x) :: bs, kvs, _, h, r => by
    unfold allPv at h
    cases hk : keyOf k with
    | none => rw [hk] at h; cases h
    | some k' =>
      cases hr : allPv bs with
      | none => rw [hk, hr] at h; cases h
      | some ps =>
        rw [hk, hr] at h
        cases h
        cases r with
        | @cons v _ vs _ a t =>
          obtain ⟨ws, e, rw'⟩ := allPv_ok hr t
          obtain ⟨v1, v2⟩ := v
          have a1 : Rp G.K w.I v1 k := a.1
          rw [keyOf_eq hk] at a1
          have := rp_key a1
          subst this
          exact ⟨(k', v2) :: ws, by rw [e]; rfl, .cons ⟨rfl, a.2⟩ rw'⟩
  | (.c _, _) :: _, _, _, h, _ => by cases h
  | (.f _, _) :: _, _, _, h, _ => by cases h
def cDicF (ps : List (Dv × Dv)) (μ : Store) : Out Dv := match allPv ps with
  | some kvs => if (kvs.map Prod.fst).Nodup ∧ kvs.length ≤ 15 then .ok (.c μ.length) (μ ++ [.dic kvs]) else .bad
  | none => .bad
def cDic (l : ML) : ME := fun ρ μ => (prsM l ρ μ).bind cDicF
theorem KvR.fst {G : GT} {w : Wd} {ws : List (Key × V)} {kvs : List (Key × Dv)} (r : KvR G w ws kvs) : ws.map Prod.fst = kvs.map Prod.fst := by
  induction r with
  | nil => rfl
  | cons r t ih => rw [List.map_cons, List.map_cons, ih, r.1]
section
variable {G : GT} {W : WX}
theorem cdic_imp {l : ML} : ∀ σ H Q, tE G W (cDic l) σ H Q → tDisp (l.map fun p => (tE G W p.1, tE G W p.2)) σ H Q := by
  rintro σ H Q ⟨w, μ, ρ, hl, he, p⟩
  intro a na
  obtain ⟨n1, n2, n3⟩ := hl.na na
  have lay0 := hl.other n1 n2 n3 (.dK [])
  obtain ⟨lp, layp⟩ := lay0.priv n1 n2 n3 upd_same
  refine prs_imp l σ _ _ ⟨w.priv a (.dK []), μ, ρ, layp, he.mono lp, ?_⟩
  unfold cDic at p
  cases e : prsM l ρ μ with
  | bad => rw [e] at p; exact p.elim
  | ex x μ1 => rw [e] at p; exact fun w' c d H' l' lay' r' => p w' c d H' (lp.trans l') lay' r'
  | ok ps μ1 =>
    rw [e] at p
    intro w1 vs H1 l1 lay1 r1
    have p : Pst G W σ (Rv G) w (cDicF ps μ1) Q := p
    unfold cDicF at p
    cases ea : allPv ps with
    | none => rw [ea] at p; exact p.elim
    | some kvs =>
      rw [ea] at p
      have p : Pst G W σ (Rv G) w (if (kvs.map Prod.fst).Nodup ∧ kvs.length ≤ 15 then .ok (.c μ1.length) (μ1 ++ [.dic kvs]) else .bad) Q := p
      by_cases hz : (kvs.map Prod.fst).Nodup ∧ kvs.length ≤ 15
      · rw [if_pos hz] at p
        obtain ⟨ws, ev, rw'⟩ := allPv_ok ea r1
        have hm : mergeK [] ws = ws := by
          refine mergeK_new _ [] ?_
          rw [List.nil_append, rw'.fst]
          exact hz.1
        obtain ⟨le2, lay2, e2, i2, a2⟩ := lay1.unp l1 n3 (.dK (mergeK [] ws))
        have e0 : upd H1 a (.dK (mergeK [] ws)) a = some (.dK ws) := by rw [upd_same, hm]
        obtain ⟨le3, lay3⟩ := lay2.adopt (c := .dic kvs) i2 a2 (if_pos rfl) e0 (fun H' e' => ⟨i2, ws, e', Paired.imp (fun _ _ z => ⟨z.1, Rv.mono (w := w1.unp a) (w' := (w1.unp a).ext a) ⟨Same.refl _, List.prefix_append _ _, Same.refl _⟩ (Rv.cong (w := w1) (w' := w1.unp a) rfl rfl z.2)⟩) rw'⟩)
        refine ⟨e2, ws, ev, by rw [Paired.length rw']; exact hz.2, ?_⟩
        refine p _ (.ref a) _ (le2.trans le3) lay3 ⟨a, ?_, rfl⟩
        show ((w1.unp a).α ++ [a])[μ1.length]? = some a
        rw [← lay2.len]
        simp
      · rw [if_neg hz] at p; exact p.elim
end
theorem de_cdic {X : Cx} {G : GT} {W : WX} {pos : Pos} {ks : List (Option Expr)} {vs : List Expr} {l : ML} (h : DPs X G W pos ks vs l) (hall : ks.all (·.isSome) = true := by rfl) (hl : ks.length = vs.length := by rfl) (h0 : ks ≠ [] := by intro z; cases z) (h15 : ks.length ≤ 15 := by decide) : DE X G W (.Dict ks vs pos) (cDic l) := PE.imp (pe_disp h hall hl h0 h15) cdic_imp
/-- {} as a cell -/
def cDic0 : ME := fun _ μ => .ok (.c μ.length) (μ ++ [.dic []])
theorem de_cdic0 {X : Cx} {G : GT} {W : WX} {pos : Pos} : DE X G W (.Dict [] [] pos) cDic0 := by
  refine PE.imp pe_dnewK ?_
  rintro σ H Q ⟨w, μ, ρ, hl, he, p⟩
  intro a na
  obtain ⟨n1, n2, n3⟩ := hl.na na
  obtain ⟨le, lay⟩ := hl.cell na (o := .dK []) (c := .dic []) fun H' e => ⟨n1, [], e, .nil⟩
  exact p _ (.ref a) _ le lay ⟨a, by show (w.α ++ [a])[μ.length]? = some a; rw [← hl.len]; simp, rfl⟩
end DL

/-! Dicts: d[k] = v, d.get, frozen, dict(pairs), dict(zip(a, b)), sorted(d). -/
namespace DL
open PySem PySem.Spec PyProof.Rows L2
/-! ### d[k] = v -/
def dSetD (x i v : Dv) (μ : Store) : Option Store := match x, i with
  | .c n, .d k => match μ[n]?, keyOf k with
    | some (.dic kvs), some k => if kvs.length < sizeLine then some (μ.set n (.dic (putD kvs k v))) else none
    | _, _ => none
  | _, _ => none
def sSetD (m mo mi : ME) : MS := fun ρ μ => (m ρ μ).bind fun v μ => (mo ρ μ).bind fun x μ => (mi ρ μ).bind fun i μ => optN (dSetD x i v μ) ρ
section
variable {X : Cx} {G : GT} {W : WX} {a b c e o tg : Expr} {es : List Expr} {m mo mi : ME} {mas : MA} {pos p : Pos} {S : List Nat}
theorem ds_setD {i : Expr} {pos' : Pos} (hu : X.A.units + 64 < cLine) (hv : DE X G W e m) (ho : DE X G W o mo) (hi : DE X G W i mi) (hs : swapsWithSole [.Subscript o i pos'] e pos.line X.env = pure false := by rfl) (hw : swappedStores [.Subscript o i pos'] e X.env = pure none := by rfl)
    (h1 : (assignEach [.Subscript o i pos'] X.env).map (·.2) = [assign (.Subscript o i pos') X.env] := by rfl)
    (ha : ∀ v, assign (.Subscript o i pos') X.env v = (do
      let ov ← holding [v] (eval o X.env)
      let iv ← holding [v, ov] (eval i X.env)
      standAt pos'
      holding [v, ov, iv] (setItem ov iv v)
      release [v, ov, iv] []) := by intro _; rfl) : DS X G W (.Assign [.Subscript o i pos'] e pos) (sSetD m mo mi) := by
  refine PS.imp (ps_asg hv (pg_sub ho hi (set_dict (by omega)) ha) hs hw h1) ?_
  rintro D σ H ⟨w, μ, ρ, hl, he, p⟩
  refine tD.seqS (k := fun ρ v μ => (mo ρ μ).bind fun x μ => (mi ρ μ).bind fun i μ => optN (dSetD x i v μ) ρ) hl he p fun w1 μ1 H1 v v' l1 lay1 en1 r1 p1 => ?_
  refine tD.seqS (k := fun ρ x μ => (mi ρ μ).bind fun i μ => optN (dSetD x i v' μ) ρ) lay1 en1 p1 fun w2 μ2 H2 x x' l2 lay2 en2 r2 p2 => ?_
  refine tD.seqS (k := fun ρ i μ => optN (dSetD x' i v' μ) ρ) lay2 en2 p2 fun w3 μ3 H3 y y' l3 lay3 en3 r3 p3 => ?_
  have r1 := (r1.mono l2).mono l3
  have r2 := r2.mono l3
  cases x' with
  | d _ => exact p3.elim
  | f _ => exact p3.elim
  | c n =>
    cases y' with
    | c _ => exact p3.elim
    | f _ => exact p3.elim
    | d k =>
    unfold dSetD at p3
    simp only at p3
    split at p3
    · rename_i kvs k' e hk
      by_cases hz : kvs.length < sizeLine
      · rw [if_pos hz] at p3
        obtain ⟨a, g1, rfl⟩ := r2
        obtain ⟨nI, ws, g2, g3⟩ := lay3.at_ n _ a e g1
        have r3 : Rp G.K w3.I y k := r3
        rw [keyOf_eq hk] at r3
        rw [rp_key r3]
        refine ⟨a, _, rfl, DPut.k g2 (by rw [Paired.length g3]; exact hz), ?_⟩
        exact p3 w3 σ _ w3.le_refl (lay3.write g1 nI fun H' e => ⟨nI, _, e, putD_ok g3 k' r1⟩) en3
      · rw [if_neg hz] at p3; exact p3.elim
    · exact p3.elim
end
/-! ### frozen -/
/-- the pairs as data -/
def allKD : List (Key × Dv) → Option (List (Key × D))
  | [] => some []
  | (k, .d x) :: r => match allKD r with
    | some xs => some ((k, x) :: xs)
    | none => none
  | _ :: _ => none
theorem allKD_map : ∀ ds : List (Key × D), allKD (ds.map fun p => (p.1, .d p.2)) = some ds
  | [] => rfl
  | d :: ds => by simp [allKD, allKD_map ds]
theorem allKD_eq : ∀ {bs : List (Key × Dv)} {ds : List (Key × D)}, allKD bs = some ds → bs = ds.map fun p => (p.1, .d p.2)
  | [], _, h => by cases h; rfl
  | (k, .d x) :: r, _, h => by
    unfold allKD at h
    cases q : allKD r with
    | none => rw [q] at h; cases h
    | some xs => rw [q] at h; cases h; rw [allKD_eq q]; rfl
  | (_, .c _) :: _, _, h => by cases h
  | (_, .f _) :: _, _, h => by cases h
theorem RpK_of_KvR {G : GT} {w : Wd} : ∀ {ws : List (Key × V)} {ds : List (Key × D)}, KvR G w ws (ds.map fun p => (p.1, .d p.2)) → RpK G.K w.I ws (ds.map fun p => (kD p.1, p.2))
  | _, [], h => by cases h; exact .nil
  | _, d :: ds, h => by
    cases h with
    | @cons p _ ws _ r t =>
      obtain ⟨k, v⟩ := p
      obtain ⟨e1, e2⟩ := r
      have e1 : k = d.1 := e1
      subst e1
      exact .cons e2 (RpK_of_KvR t)
def dFrzA : Op1 := fun x μ => match x with
  | .d y => .ok (.d y) μ
  | .c n => match μ[n]? with
    | some (.lst xs) => match allD xs with
      | some ds => .ok (.d (.list ds)) (μ.set n .dead)
      | none => .bad
    | some (.dic kvs) => match allKD kvs with
      | some ds => .ok (.d (dicOf ds)) (μ.set n .dead)
      | none => .bad
    | _ => .bad
  | .f _ => .bad
theorem Lay.freezeO {G : GT} {w : Wd} {μ : Store} {H : Hp} (l : Lay G w μ H) {n : Nat} {a : Addr} {o : HO} (ha : w.α[n]? = some a) (nI : w.I a = none) (e : H a = some o) : w.le (w.put a o) ∧ Lay G (w.put a o) (μ.set n .dead) H := by
  have nF := l.fd a (List.mem_of_getElem? ha)
  refine ⟨⟨same_upd nI, List.prefix_refl _, Same.refl _⟩, fun b u q => ?_, by rw [List.length_set]; exact l.len, l.nd, l.lv, l.fr, l.fd, fun b u q => ?_, fun m c b q1 q2 => ?_⟩
  · by_cases z : b = a
    · subst z; have q : upd w.I b o b = some u := q; rw [upd_same] at q; rw [← q]; exact e
    · have q : upd w.I a o b = some u := q; rw [upd_ne z] at q; exact l.same b u q
  · have : b ≠ a := fun z => by rw [z, nF] at q; cases q
    show upd w.I a _ b = none
    rw [upd_ne this]; exact l.di b u q
  · by_cases z : n = m
    · subst z
      have hn : n < μ.length := by rw [← l.len]; exact (List.getElem?_eq_some_iff.mp ha).1
      rw [List.getElem?_set_self hn] at q1
      cases q1
      trivial
    · rw [List.getElem?_set_ne z] at q1
      have ne : b ≠ a := fun y => z (get_nodup l.nd ha (y ▸ q2))
      exact CellAt.cong (w' := w.put a o) (fun z => by show upd w.I a _ b = none; rw [upd_ne ne]; exact z) ⟨same_upd nI, List.prefix_refl _⟩ rfl (l.at_ m c b q1 q2)
section
variable {X : Cx} {G : GT} {W : WX} {e : Expr} {m : ME}
theorem de_frzA (he : DE X G W e m) : DE X G W e (e1 dFrzA m) := by
  refine PE.imp he ?_
  rintro σ H Q ⟨w, μ, ρ, hl, he, p⟩
  refine ⟨w, μ, ρ, hl, he, ?_⟩
  have p : Pst G W σ (Rv G) w ((m ρ μ).bind fun x μ => dFrzA x μ) Q := p
  cases q : m ρ μ with
  | bad => rw [q] at p; exact p.elim
  | ex _ _ => rw [q] at p; exact p
  | ok b μ1 =>
    rw [q] at p
    intro w1 v H1 l1 lay1 r1
    have p1 : Pst G W σ (Rv G) w (dFrzA b μ1) Q := p
    have p1 := Pst.mono l1 p1
    cases b with
    | d x => exact p1 w1 v H1 w1.le_refl lay1 r1
    | f n => exact p1.elim
    | c n =>
      unfold dFrzA at p1
      simp only at p1
      cases e : μ1[n]? with
      | none => simp only [e] at p1; exact p1.elim
      | some cl =>
        cases cl with
        | lst xs =>
          simp only [e] at p1
          cases q2 : allD xs with
          | none => simp only [q2] at p1; exact p1.elim
          | some ds =>
            simp only [q2] at p1
            obtain ⟨a, g1, rfl⟩ := r1
            obtain ⟨nI, vs, g2, g3⟩ := lay1.at_ n _ a e g1
            obtain ⟨le, l2⟩ := lay1.freezeO g1 nI g2
            rw [allD_eq q2] at g3
            exact p1 _ _ H1 le l2 (.lst (SqL.of upd_same) (RpA.mono le.1 _ _ (RpA_of_Rvs g3)))
        | dic kvs =>
          simp only [e] at p1
          cases q2 : allKD kvs with
          | none => simp only [q2] at p1; exact p1.elim
          | some ds =>
            simp only [q2] at p1
            obtain ⟨a, g1, rfl⟩ := r1
            obtain ⟨nI, ws, g2, g3⟩ := lay1.at_ n _ a e g1
            obtain ⟨le, l2⟩ := lay1.freezeO g1 nI g2
            rw [allKD_eq q2] at g3
            exact p1 _ _ H1 le l2 (.dic (kvs := ws) upd_same (RpK.mono le.1 _ _ (RpK_of_KvR g3)))
        | _ => simp only [e] at p1; exact p1.elim
end
/-! ### d.get(k, x), of a dict that is data; k may be None -/
def keyN : D → Option (Option Key)
  | .none => some none
  | d => match keyOf d with
    | some k => some (some k)
    | none => none
def dGet2F (x k d : Dv) (μ : Store) : Out Dv := match dpairs x μ, k with
  | some kvs, .d k => match keyN k with
    | some none => .ok d μ
    | some (some k) => .ok ((valD kvs k).getD d) μ
    | none => .bad
  | _, _ => .bad
def isDp (x : Dv) (μ : Store) : Bool := (dpairs x μ).isSome
def eGet2 (mo mk md : ME) : ME := fun ρ μ => (mo ρ μ).bind fun x μ => if isDp x μ = true then (mk ρ μ).bind fun k μ => (md ρ μ).bind fun d μ => dGet2F x k d μ else .bad
def rDG2 (H : Hp) (a : Addr) (y z : V) (Q : VK) : Prop := (∃ o, DGet H a y o ∧ Q (o.getD z) H) ∨ ∃ kvs, y = .non ∧ Rd H a (.dK kvs) ∧ Q z H
def tDGet2N (td ty tx : TE) : TE := fun σ H Q => td σ H fun x H1 => ∃ a, x = .ref a ∧ IsD H1 a ∧ ty σ H1 fun y H2 => tx σ H2 fun z H3 => rDG2 H3 a y z Q
theorem pe_dget2N {X : Cx} {o e f : Expr} {apos cpos : Pos} {td ty tx : TE} (hu : X.A.units + 1 < cLine) (ho : PE X o td) (he : PE X e ty) (hf : PE X f tx) (m : M2 X o "get" apos e f cpos) : PE X (.Call (.Attribute o "get" apos) [e, f] [] cpos) (tDGet2N td ty tx) := by
  refine ⟨fun pins s σ H Q I h => ?_⟩
  refine wpAny_Call_method m.base m.few m.line PySem.F.plainAttrs_dict PySem.F.slot_dict_get PySem.F.type_dict_get (thn (ho.run pins s σ H _ I h) fun u s1 ⟨x, H1, I1, rx, a, ex, d, q1⟩ => ?_)
  subst ex
  obtain rfl : u = Value.ref a := rx
  obtain ⟨t1, t2, _⟩ := isD_at I1 d
  refine ⟨t1, t2, ?_⟩
  rw [m.trees]
  refine Calls.callWith_builtin rfl (Calls.evalArgs_plain (Calls.spliced_cons (thn (he.run pins s1 σ H1 _ I1 q1) fun iv s2 ⟨y, H2, I2, ry, q2⟩ =>
    Calls.spliced_cons (thn (hf.run pins s2 σ H2 _ I2 q2) fun fv s3 ⟨z, H3, I3, rz, q3⟩ => Calls.spliced_nil ?_))))
  rcases q3 with ⟨ov, g, q3⟩ | ⟨kvs, ey, g, q3⟩
  · exact d_get2 hu I3 g ry rz fun w' s4 I4 rw' => ⟨_, H3, I4, rw', q3⟩
  · subst ey
    cases ry
    obtain ⟨_, hd, vs, rel, dd⟩ := dk_rd I3.hok g
    obtain ⟨f, mp, fn⟩ := none_map dd
    refine call_meetsIn PySem.F.slot_dict_get dd.typeIs PySem.F.entry_dict_get (PySem.F.args_dict_get_3 _ _ _) (meets_dict_get_default (noneKind X.prog X.w) a (k := none) rfl hd fv) ⟨_, mp, z, H3, I3.tok _, ?_, q3⟩
    rw [fn]
    exact rz
section
variable {X : Cx} {G : GT} {W : WX} {o e f : Expr} {mo mk md : ME} {apos cpos : Pos}
theorem de_get2 (hu : X.A.units + 64 < cLine) (ho : DE X G W o mo) (he : DE X G W e mk) (hf : DE X G W f md)
    (hbase : attributeBase o "get" X.env (eval o X.env) = eval o X.env := by rfl)
    (hfew : ((backTo cpos (starEach [e, f] X.env)).all (fun x => !x.1) && (backToKw cpos (keywordEach [] X.env)).all (fun x => x.1.isSome)
      && decide (([e, f] : List Expr).length + ([] : List Keyword).length + (if ([] : List Keyword).isEmpty then 0 else 1) < 30)) = true := by rfl)
    (hline : (apos.endLine == cpos.line) = true := by rfl) (htr : backTo cpos (starEach [e, f] X.env) = [(false, eval e X.env), (false, eval f X.env)] := by rfl) :
    DE X G W (.Call (.Attribute o "get" apos) [e, f] [] cpos) (eGet2 mo mk md) := by
  refine PE.imp (pe_dget2N (by omega) ho he hf ⟨hbase, hfew, hline, htr⟩) ?_
  rintro σ H Q ⟨w, μ, ρ, hl, he, p⟩
  refine tD.seq (k := fun ρ x μ => if isDp x μ = true then (mk ρ μ).bind fun k μ => (md ρ μ).bind fun d μ => dGet2F x k d μ else .bad) hl he p fun w1 μ1 H1 v b l1 lay1 en1 r1 p1 => ?_
  by_cases hd : isDp b μ1 = true
  · rw [if_pos hd] at p1
    obtain ⟨kvs, hp⟩ := Option.isSome_iff_exists.mp hd
    obtain ⟨a, ws, rfl, e1, rk⟩ := dpairs_ok lay1 r1 hp
    refine ⟨a, rfl, .inl ⟨ws, .inl e1⟩, ?_⟩
    refine tD.seq (k := fun ρ k μ => (md ρ μ).bind fun d μ => dGet2F b k d μ) lay1 en1 p1 fun w2 μ2 H2 u k l2 lay2 en2 r2 p2 => ?_
    refine tD.seq (k := fun ρ d μ => dGet2F b k d μ) lay2 en2 p2 fun w3 μ3 H3 u3 d l3 lay3 en3 r3 p3 => ?_
    unfold dGet2F at p3
    split at p3
    · rename_i kvs3 k3 hp3
      have r2' : Rp G.K w3.I u k3 := Rp.mono l3.1 _ _ r2
      obtain ⟨a', ws3, ea, e3, rk3⟩ := dpairs_ok lay3 (r1.mono (l2.trans l3)) hp3
      cases ea
      split at p3
      · rename_i hk
        have : k3 = .none := by
          cases k3 with
          | none => rfl
          | _ => simp [keyN, keyOf] at hk
        subst this
        cases r2'
        exact .inr ⟨ws3, rfl, .inl e3, p3 w3 _ H3 w3.le_refl lay3 r3⟩
      · rename_i k' hk
        have hk' : keyOf k3 = some k' := by
          cases k3 with
          | none => simp [keyN] at hk
          | int i => simpa [keyN, keyOf] using hk
          | str z => simpa [keyN, keyOf] using hk
          | _ => simp [keyN, keyOf] at hk
        rw [keyOf_eq hk'] at r2'
        rw [rp_key r2']
        refine .inl ⟨_, DGet.k e3, ?_⟩
        rcases valD_ok rk3 k' with ⟨x, b', h1, h2, h3⟩ | ⟨h1, h2⟩
        · rw [h1]
          rw [h2] at p3
          exact p3 w3 _ H3 w3.le_refl lay3 h3
        · rw [h1]
          rw [h2] at p3
          exact p3 w3 _ H3 w3.le_refl lay3 r3
      · exact p3.elim
    · exact p3.elim
  · rw [if_neg hd] at p1
    exact p1.elim
end
end DL

/-! dict(zip(a, b)) of lists, tuples, texts in any mix: a zip whose tuples are held. -/
namespace PySem
section
variable {prog : Program} {w : World} {A : Around} {E : Value → Shared → Prop} {s : Shared} {z TI TO T i1 i2 : Addr} {f : Bool} {oT : Obj} {fp1 fp2 : List Addr} {n1 n2 i : Nat} {P1 P2 : Nat → Value → Prop} {St1 St2 : Nat → Heap → Prop} {a1 a2 : Value}
theorem zipH_next_item {Q : Value → Shared → Prop} (S : ZipSep2 z TI TO i1 i2 fp1 fp2) (D1 : Draws prog w A i1 fp1 n1 P1 St1) (D2 : Draws prog w A i2 fp2 n2 P2 St2)
    (hz : IsZipHeld s.heap z TI TO T f) (hT : s.heap.get? T = some oT) (hTI : IsPair s.heap TI (.ref i1) (.ref i2)) (st1 : St1 i s.heap) (st2 : St2 i s.heap) (hlt1 : i < n1) (hlt2 : i < n2)
    (hQ : ∀ x y h' tk, P1 i x → P2 i y → IsZipHeld h' z TI TO T true → St1 (i + 1) h' → St2 (i + 1) h' → IsPair h' s.heap.objs.size x y → h'.objs.size = s.heap.objs.size + 1 →
      (∀ c o, c ≠ z → c ≠ i1 → c ≠ i2 → s.heap.get? c = some o → h'.get? c = some o) → Q (.ref s.heap.objs.size) { s with heap := h', toks := tk }) :
    wpAny (model prog w) A (Builtin.«zip.__next__» ⟨[.ref z], []⟩) (fun fin s' => ∃ v, fin = .done (.ret v) ∧ Q v s') E s := by
  show wpAny _ _ (field (.ref z) 2 >>= _) _ _ _
  refine wpAny_bind (wpAny_field hz rfl (x := .bool false) rfl ?_)
  show wpAny _ _ (field (.ref z) 3 >>= _) _ _ _
  refine wpAny_bind (wpAny_field hz rfl (x := .ref TI) rfl ?_)
  refine wpAny_bind (wpAny_seqItems hTI rfl ?_)
  show wpAny _ _ (Builtin.SmallTypes.ownedTupleIsFree (.ref z) >>= _) _ _ _
  refine wpAny_bind (wpAny_tupleHeld_zip hz hT fun h₁ hz₁ hs₁ => ?_)
  simp only [Bool.false_eq_true, if_false]
  refine wpAny_bind ?_
  rw [← Array.forIn_toList]
  simp only [List.forIn_cons, List.forIn_nil]
  refine wpAny_bind (wpAny_bind (wpAny_holding ?_))
  show wpAny _ _ (Builtin.SmallTypes.nextOf (.ref i1) >>= _) _ _ _
  refine wpAny_bind (D1.item i { s with heap := h₁ } _ _ hlt1 (D1.over st1 hs₁ S.zf1) fun x h₂ tk2 hx sn1 hs₂ => wpAny_pure ?_)
  refine wpAny_pure ?_
  refine wpAny_bind (wpAny_bind (wpAny_holding ?_))
  show wpAny _ _ (Builtin.SmallTypes.nextOf (.ref i2) >>= _) _ _ _
  refine wpAny_bind (D2.item i { s with heap := h₂, toks := tk2 } _ _ hlt2 (D2.over (D2.over st2 hs₁ S.zf2) hs₂ S.sep1_2) fun y h₃ tk3 hy sn2 hs₃ => wpAny_pure ?_)
  refine wpAny_pure (wpAny_pure ?_)
  show wpAny _ _ (newTuple [x, y] >>= _) _ _ _
  refine wpAny_bind (wpAny_newTuple ?_)
  replace hs₂ : Heap.SameBut i1 h₁ h₂ := hs₂
  replace hs₃ : Heap.SameBut i2 h₂ h₃ := hs₃
  have hsz : h₃.objs.size = s.heap.objs.size := by rw [hs₃.1, hs₂.1, hs₁.1]
  have hz₃ : IsZipHeld h₃ z TI TO T true := hs₃.extBut _ _ S.zi2 (hs₂.extBut _ _ S.zi1 hz₁)
  have hk : ∀ c o, c ≠ z → c ≠ i1 → c ≠ i2 → s.heap.get? c = some o → h₃.get? c = some o := fun c o c1 c2 c3 e => hs₃.extBut _ _ c3 (hs₂.extBut _ _ c2 (hs₁.extBut _ _ c1 e))
  have sn1' : St1 (i + 1) h₃ := D1.over sn1 hs₃ S.sep2_1
  refine wpAny_pure ⟨_, rfl, ?_⟩
  show Q (.ref h₃.objs.size) _
  have hp : IsPair (h₃.push { cls := .type "tuple", data := .seq #[x, y] }) h₃.objs.size x y := Heap.get?_push_size _ rfl
  have hz4 : (h₃.push { cls := .type "tuple", data := .seq #[x, y] }).objs.size = h₃.objs.size + 1 := Heap.size_push ..
  rw [hsz] at hp hz4 ⊢
  exact hQ _ _ _ tk3 hx hy (Heap.get?_push_of_some _ hz₃) (D1.frame _ _ _ sn1' fun b hb o e => Heap.get?_push_of_some _ e) (D2.frame _ _ _ sn2 fun b hb o e => Heap.get?_push_of_some _ e) hp hz4 fun c o c1 c2 c3 e => Heap.get?_push_of_some _ (hk c o c1 c2 c3 e)
theorem zipH_next_end {Q : Fin → Shared → Prop} (S : ZipSep2 z TI TO i1 i2 fp1 fp2) (D1 : Draws prog w A i1 fp1 n1 P1 St1) (D2 : Draws prog w A i2 fp2 n2 P2 St2)
    (hz : IsZipHeld s.heap z TI TO T f) (hT : s.heap.get? T = some oT) (hTI : IsPair s.heap TI (.ref i1) (.ref i2)) (st1 : St1 i s.heap) (st2 : St2 i s.heap) (hle1 : i ≤ n1) (hle2 : i ≤ n2) (hend : i = n1 ∨ i = n2)
    (hE : ∀ h' tk e, (∀ c o, c ≠ z → c ≠ i1 → c ≠ i2 → s.heap.get? c = some o → h'.get? c = some o) → (∃ o, h'.get? e = some o ∧ o.cls = .type "StopIteration") → E (.ref e) { s with heap := h', toks := tk }) :
    wpAny (model prog w) A (Builtin.«zip.__next__» ⟨[.ref z], []⟩) Q E s := by
  show wpAny _ _ (field (.ref z) 2 >>= _) _ _ _
  refine wpAny_bind (wpAny_field hz rfl (x := .bool false) rfl ?_)
  show wpAny _ _ (field (.ref z) 3 >>= _) _ _ _
  refine wpAny_bind (wpAny_field hz rfl (x := .ref TI) rfl ?_)
  refine wpAny_bind (wpAny_seqItems hTI rfl ?_)
  show wpAny _ _ (Builtin.SmallTypes.ownedTupleIsFree (.ref z) >>= _) _ _ _
  refine wpAny_bind (wpAny_tupleHeld_zip hz hT fun h₁ hz₁ hs₁ => ?_)
  simp only [Bool.false_eq_true, if_false]
  refine wpAny_bind ?_
  rw [← Array.forIn_toList]
  simp only [List.forIn_cons, List.forIn_nil]
  refine wpAny_bind (wpAny_bind (wpAny_holding ?_))
  show wpAny _ _ (Builtin.SmallTypes.nextOf (.ref i1) >>= _) _ _ _
  by_cases hlt1 : i < n1
  · refine wpAny_bind (D1.item i { s with heap := h₁ } _ _ hlt1 (D1.over st1 hs₁ S.zf1) fun x h₂ tk2 hx sn1 hs₂ => wpAny_pure ?_)
    refine wpAny_pure ?_
    refine wpAny_bind (wpAny_bind (wpAny_holding ?_))
    show wpAny _ _ (Builtin.SmallTypes.nextOf (.ref i2) >>= _) _ _ _
    have hi2 : i = n2 := by omega
    refine wpAny_bind (D2.done { s with heap := h₂, toks := tk2 } _ _ (by rw [← hi2]; exact D2.over (D2.over st2 hs₁ S.zf2) hs₂ S.sep1_2) fun h₃ e hs₃ he => ?_)
    exact hE h₃ tk2 e (fun c o c1 c2 c3 x => hs₃ _ _ c3 (hs₂.extBut _ _ c2 (hs₁.extBut _ _ c1 x))) he
  · have hi1 : i = n1 := by omega
    refine wpAny_bind (D1.done { s with heap := h₁ } _ _ (by rw [← hi1]; exact D1.over st1 hs₁ S.zf1) fun h₂ e hs₂ he => ?_)
    exact hE h₂ s.toks e (fun c o c1 c2 _ x => hs₂ _ _ c2 (hs₁.extBut _ _ c1 x)) he
theorem pyNext_zipH_item {Q : Option Value → Shared → Prop} (S : ZipSep2 z TI TO i1 i2 fp1 fp2) (D1 : Draws prog w A.in1 i1 fp1 n1 P1 St1) (D2 : Draws prog w A.in1 i2 fp2 n2 P2 St2)
    (hz : IsZipHeld s.heap z TI TO T f) (hT : s.heap.get? T = some oT) (hTI : IsPair s.heap TI (.ref i1) (.ref i2)) (st1 : St1 i s.heap) (st2 : St2 i s.heap) (hlt1 : i < n1) (hlt2 : i < n2)
    (hQ : ∀ x y h' tk, P1 i x → P2 i y → IsZipHeld h' z TI TO T true → St1 (i + 1) h' → St2 (i + 1) h' → IsPair h' s.heap.objs.size x y → h'.objs.size = s.heap.objs.size + 1 →
      (∀ c o, c ≠ z → c ≠ i1 → c ≠ i2 → s.heap.get? c = some o → h'.get? c = some o) → Q (some (.ref s.heap.objs.size)) { s with heap := h', toks := tk }) :
    wpAny (model prog w) A (pyNext (.ref z)) Q E s := by
  have hTy : s.TypeIs (.ref z) "zip" := ⟨_, hz, rfl⟩
  unfold pyNext
  exact wpAny_bind (wpAny_attempt (wpAny_callSpecial?_slot (name := Str.ofString "__next__") hTy F.slot_zip_next
    (wpAny_call_entry F.slot_zip_next hTy F.entry_zip_next
      (zipH_next_item S D1 D2 hz hT hTI st1 st2 hlt1 hlt2 fun x y h' tk p1 p2 a1 a3 a4 a5 a6 a7 => wpAny_pure (hQ x y h' tk p1 p2 a1 a3 a4 a5 a6 a7)) (F.args_zip_next_1 _))))
theorem pyNext_zipH_end {Q : Option Value → Shared → Prop} (S : ZipSep2 z TI TO i1 i2 fp1 fp2) (D1 : Draws prog w A.in1 i1 fp1 n1 P1 St1) (D2 : Draws prog w A.in1 i2 fp2 n2 P2 St2)
    (hz : IsZipHeld s.heap z TI TO T f) (hT : s.heap.get? T = some oT) (hTI : IsPair s.heap TI (.ref i1) (.ref i2)) (st1 : St1 i s.heap) (st2 : St2 i s.heap) (hle1 : i ≤ n1) (hle2 : i ≤ n2) (hend : i = n1 ∨ i = n2)
    (hQ : ∀ h' tk, (∀ c o, c ≠ z → c ≠ i1 → c ≠ i2 → s.heap.get? c = some o → h'.get? c = some o) → Q none { s with heap := h', toks := tk }) : wpAny (model prog w) A (pyNext (.ref z)) Q E s := by
  have hTy : s.TypeIs (.ref z) "zip" := ⟨_, hz, rfl⟩
  unfold pyNext
  refine wpAny_bind (wpAny_attempt (wpAny_callSpecial?_slot (name := Str.ofString "__next__") hTy F.slot_zip_next
    (wpAny_call_entry F.slot_zip_next hTy F.entry_zip_next (zipH_next_end S D1 D2 hz hT hTI st1 st2 hle1 hle2 hend fun h' tk e hk he => ?_) (F.args_zip_next_1 _))))
  obtain ⟨o, ho, hc⟩ := he
  refine wpAny_bind (wpAny_isInstance (T := "StopIteration") (b := true) ⟨o, ho, hc⟩ isSubtype_stop ?_)
  exact wpAny_pure (hQ _ _ hk)
end
/-- a zip of two walked things as dict()'s argument -/
theorem PairArg.zipX {prog : Program} {w : World} {z TI TO i1 i2 : Addr} {fp1 fp2 : List Addr} {n1 n2 : Nat} {P1 P2 : Nat → Value → Prop} {St1 St2 : Nat → Heap → Prop} (S : ZipSep2 z TI TO i1 i2 fp1 fp2)
    (D1 : ∀ A : Around, A.handled = none → Draws prog w A i1 fp1 n1 P1 St1) (D2 : ∀ A : Around, A.handled = none → Draws prog w A i2 fp2 n2 P2 St2)
    (f1 : ∀ h, St1 0 h → ∀ b ∈ fp1, ∃ o, h.get? b = some o) (f2 : ∀ h, St2 0 h → ∀ b ∈ fp2, ∃ o, h.get? b = some o) :
    PairArg prog w "zip" z ([z, TI, TO] ++ fp1 ++ fp2) [z, TO, i1, i2] (min n1 n2) (fun i k v => P1 i k ∧ P2 i v)
      (fun h => IsZip h z TI TO .none ∧ IsPair h TI (.ref i1) (.ref i2) ∧ (∃ a b, IsPair h TO a b) ∧ St1 0 h ∧ St2 0 h) where
  type := fun s ok => ⟨_, ok.1, rfl⟩
  notDict := by decide
  keep := fun h h' ok hk => by
    obtain ⟨hz, hTI, ⟨a, b, hTO⟩, h1, h2⟩ := ok
    exact ⟨hk _ _ hz, hk _ _ hTI, ⟨a, b, hk _ _ hTO⟩, (D1 {} rfl).frame _ _ _ h1 fun b hb o e => hk b o e, (D2 {} rfl).frame _ _ _ h2 fun b hb o e => hk b o e⟩
  there := fun h ok b hb => by
    obtain ⟨hz, hTI, ⟨a, c, hTO⟩, h1, h2⟩ := ok
    simp only [List.mem_append, List.mem_cons, List.not_mem_nil, or_false] at hb
    rcases hb with ((e | e | e) | hb) | hb
    · rw [e]; exact ⟨_, hz⟩
    · rw [e]; exact ⟨_, hTI⟩
    · rw [e]; exact ⟨_, hTO⟩
    · exact f1 h h1 b hb
    · exact f2 h h2 b hb
  sub := fun b hb => by
    simp only [List.mem_append, List.mem_cons, List.not_mem_nil, or_false] at hb ⊢
    rcases hb with e | e | e | e
    · exact .inl (.inl (.inl e))
    · exact .inl (.inl (.inr (.inr e)))
    · exact .inl (.inr (e ▸ S.mem1))
    · exact .inr (e ▸ S.mem2)
  noKeys := fun A s Q E hA ok h => getAttrOr_miss_zip ok.1 rfl rfl rfl zip_no_keys (by decide +kernel) hA h
  iter := fun A s d Q E hA ok hd hdf h => by
    obtain ⟨hz, hTI, ⟨a, b, hTO⟩, h1, h2⟩ := ok
    simp only [List.mem_append, List.mem_cons, List.not_mem_nil, or_false, not_or] at hdf
    obtain ⟨⟨⟨dz, dTI, dTO⟩, df1⟩, df2⟩ := hdf
    have di1 : d ≠ i1 := fun e => df1 (e ▸ S.mem1)
    have di2 : d ≠ i2 := fun e => df2 (e ▸ S.mem2)
    have hA1 : A.in1.handled = none := hA
    refine wpAny_pyIter_zip hz (h z [z, TO, i1, i2] (fun i h => IsPair h TI (.ref i1) (.ref i2) ∧ St1 i h ∧ St2 i h ∧
      ((IsZip h z TI TO .none ∧ ∃ a b, IsPair h TO a b) ∨ ∃ T f oT, IsZipHeld h z TI TO T f ∧ h.get? T = some oT ∧ T ≠ z ∧ T ≠ i1 ∧ T ≠ i2 ∧ T ≠ d)) s.heap s.toks ?_
      ⟨hTI, h1, h2, .inl ⟨hz, a, b, hTO⟩⟩ (fun _ _ e => e) fun b hb => .inl hb)
    exact {
      off := fun hm => by
        simp only [List.mem_cons, List.not_mem_nil, or_false] at hm
        rcases hm with e | e | e | e
        · exact dz e
        · exact dTO e
        · exact di1 e
        · exact di2 e
      frame := fun i h₁ h₂ st hk => by
        obtain ⟨hTI, h1, h2, hz⟩ := st
        refine ⟨hk _ _ (Ne.symm dTI) hTI, (D1 A hA).frame _ _ _ h1 fun b hb o e => hk b o (fun q => df1 (q ▸ hb)) e, (D2 A hA).frame _ _ _ h2 fun b hb o e => hk b o (fun q => df2 (q ▸ hb)) e, ?_⟩
        rcases hz with ⟨hz, a, b, hTO⟩ | ⟨T, f, oT, hz, hT, r1, r2, r3, r4⟩
        · exact .inl ⟨hk _ _ (Ne.symm dz) hz, a, b, hk _ _ (Ne.symm dTO) hTO⟩
        · exact .inr ⟨T, f, oT, hk _ _ (Ne.symm dz) hz, hk _ _ r4 hT, r1, r2, r3, r4⟩
      item := fun i s₁ Q₁ E₁ hi st hds hQ => by
        obtain ⟨hTI, h1, h2, hz⟩ := st
        have hix : i < n1 := Nat.lt_of_lt_of_le hi (Nat.min_le_left ..)
        have hiy : i < n2 := Nat.lt_of_lt_of_le hi (Nat.min_le_right ..)
        have lt : ∀ {c o}, s₁.heap.get? c = some o → s₁.heap.objs.size ≠ c := fun e => Nat.ne_of_gt (Heap.lt_size e)
        have m1 : s₁.heap.objs.size ≠ i1 := let ⟨_, e⟩ := (D1 A hA).live _ _ h1; lt e
        have m2 : s₁.heap.objs.size ≠ i2 := let ⟨_, e⟩ := (D2 A hA).live _ _ h2; lt e
        rcases hz with ⟨hz, a, b, hTO⟩ | ⟨T, f, oT, hz, hT, r1, r2, r3, r4⟩
        · refine wpAny_pyNext_zipD2_item S (D1 A.in1 hA1) (D2 A.in1 hA1) hz hTI hTO h1 h2 hix hiy fun x y h' tk p1 p2 a1 a2 a3 a4 a5 a6 hk => ?_
          exact hQ s₁.heap.objs.size _ _ h' tk ⟨p1, p2⟩ (.inl ⟨_, a5, rfl, _, rfl⟩)
            ⟨hk _ _ S.TIz S.TITO S.TIi1 S.TIi2 hTI, a3, a4, .inr ⟨s₁.heap.objs.size, false, _, a1, a5, lt hz, m1, m2, Nat.ne_of_gt hds⟩⟩
            fun c o hc e => hk c o (fun x => hc (by simp [x])) (fun x => hc (by simp [x])) (fun x => hc (by simp [x])) (fun x => hc (by simp [x])) e
        · refine pyNext_zipH_item S (D1 A.in1 hA1) (D2 A.in1 hA1) hz hT hTI h1 h2 hix hiy fun x y h' tk p1 p2 a1 a3 a4 a5 a6 hk => ?_
          exact hQ s₁.heap.objs.size _ _ h' tk ⟨p1, p2⟩ (.inl ⟨_, a5, rfl, _, rfl⟩)
            ⟨hk _ _ S.TIz S.TIi1 S.TIi2 hTI, a3, a4, .inr ⟨T, true, oT, a1, hk _ _ r1 r2 r3 hT, r1, r2, r3, r4⟩⟩
            fun c o hc e => hk c o (fun x => hc (by simp [x])) (fun x => hc (by simp [x])) (fun x => hc (by simp [x])) e
      done := fun s₁ Q₁ E₁ st hQ => by
        obtain ⟨hTI, h1, h2, hz⟩ := st
        rcases hz with ⟨hz, a, b, hTO⟩ | ⟨T, f, oT, hz, hT, r1, r2, r3, r4⟩
        · exact wpAny_pyNext_zipD2_end S (D1 A.in1 hA1) (D2 A.in1 hA1) hz hTI hTO h1 h2 (Nat.min_le_left ..) (Nat.min_le_right ..) (by omega) fun h' tk hk => hQ h' tk fun c o hc e => hk c o (fun x => hc (by simp [x])) (fun x => hc (by simp [x])) (fun x => hc (by simp [x])) (fun x => hc (by simp [x])) e
        · exact pyNext_zipH_end S (D1 A.in1 hA1) (D2 A.in1 hA1) hz hT hTI h1 h2 (Nat.min_le_left ..) (Nat.min_le_right ..) (by omega) fun h' tk hk => hQ h' tk fun c o hc e => hk c o (fun x => hc (by simp [x])) (fun x => hc (by simp [x])) (fun x => hc (by simp [x])) e }
end PySem

/-! dict(pairs), dict(zip(a, b)) as data. -/
namespace DL
open PySem PySem.Spec PyProof.Rows L2
/-! ### dict(x), x a list or tuple of pairs -/
def rDictP (K : PySem.W.Frag) : List V → Hp → VK → Prop := fun xs H Q => ∃ (a : Addr) (ps : List Addr) (kvs : List (Key × V)), xs = [.ref a] ∧ (SqL K H a (ps.map V.ref) ∨ SqS K H a (ps.map V.ref)) ∧ Paired (fun p kv => SqT K H p [kV kv.1, kv.2]) ps kvs ∧ (kvs.map Prod.fst).Nodup ∧
  ∀ p, H p = none → Q (.ref p) (upd H p (.dK kvs))
theorem plain_tup {X : Cx} {pins : List (Addr × Obj)} {σ : L2.St} {H : Hp} {s : Shared} {a : Addr} {xs : List V} (I : Inv X pins σ H s) (h : SqS X.K H a xs) : ∃ its : List Value, Vals xs its ∧ PlainSeq "tuple" s.heap a its.toArray ∧ xs.length ≤ sizeLine := by
  rcases h with ⟨o, h, hd⟩ | ⟨o, its, n, h1, h2, h3, h4, h5, h6⟩
  · obtain ⟨e, z, its, rv, o', e', hc, n, hdt⟩ := (show ObjOk X.prog X.w H s.heap a (.frz o (.tup xs)) from I.hok a _ h)
    rw [e] at e'
    cases e'
    exact ⟨its, rv, ⟨o, n, e, hc, hd, hdt⟩, z⟩
  · refine ⟨its.toList, h6, ⟨o, n, I.kIn a o h1, h2, h3, by simpa using h4⟩, ?_⟩
    have := h6.length
    rw [this, Array.length_toList]
    exact h5
theorem mergeKn {kvs : List (Key × V)} (h : (kvs.map Prod.fst).Nodup) : mergeK [] kvs = kvs := by rw [mergeK_new _ [] (by simpa using h)]; rfl
theorem call_dictP2 {X : Cx} (hcalm : X.calm = true) : CallR X (.type "dict") (rDictP X.K) := by
  intro pins s σ H xs us Q I r q
  obtain ⟨a, ps, kvs, ex, hq, hp, hn, q⟩ := q
  subst ex
  obtain ⟨u, eu, rx⟩ := vals1 r
  subst eu
  cases rx
  obtain ⟨prs, rel, hl, hpr⟩ := pairs_of I hp
  have hkl : kvs.length = prs.length := rel.length
  have fin : ∀ h' tk, h'.DictOf (mixKind X.prog X.w) s.heap.objs.size (merged [] prs) → kvs.length ≤ sizeLine → (∀ b o, s.heap.get? b = some o → h'.get? b = some o) → EP X pins σ Q (.ref s.heap.objs.size) { s with heap := h', toks := tk } := fun h' tk hd' hz k => by
    have hm : (s.heap.objs.size == sysModules) = false := beq_eq_false_iff_ne.mpr (Nat.ne_of_gt I.big)
    have hd2 := KV.merge (kvs := []) (vs := []) rel .nil
    rw [mergeKn hn] at hd2
    exact ⟨.ref s.heap.objs.size, upd H s.heap.objs.size (.dK kvs), I.laid (t' := tk) k (Nat.le_refl _) (show ObjOk X.prog X.w _ _ _ (.dK kvs) from ⟨hz, hm, merged [] prs, hd2, hd'⟩), rfl, q _ (I.hok.fresh (Nat.le_refl _))⟩
  obtain ⟨us, hus⟩ : ∃ us : List (Value × Value), us.length = prs.length ∧ ∀ (j : Nat) (q' : Key × Value), prs[j]? = some q' → ∃ (b : Addr) (u : Value), ps[j]? = some b ∧ us[j]? = some (u, q'.2) ∧ IsTup s.heap b #[u, q'.2] ∧ keyIs q'.1 u = true := by
    clear fin rel hkl
    induction prs generalizing ps kvs with
    | nil => exact ⟨[], rfl, fun j q' e => by simp at e⟩
    | cons q0 prs ih =>
      obtain ⟨b0, u0, e1, e2, e3⟩ := hpr 0 q0 rfl
      cases ps with
      | nil => simp at e1
      | cons p0 ps =>
        have e1 : p0 = b0 := by simpa using e1
        subst e1
        cases hp with
        | @cons _ kv _ kvs hp1 hp2 =>
          have hqq : ∀ (j : Nat) (q : Key × Value), prs[j]? = some q → ∃ (b : Addr) (u : Value), ps[j]? = some b ∧ IsTup s.heap b #[u, q.2] ∧ keyIs q.1 u = true := fun j q e => by
            obtain ⟨b, u, g1, g2, g3⟩ := hpr (j + 1) q (by simpa using e)
            exact ⟨b, u, by simpa using g1, g2, g3⟩
          obtain ⟨us, h1, h2⟩ : ∃ us : List (Value × Value), us.length = prs.length ∧ ∀ (j : Nat) (q' : Key × Value), prs[j]? = some q' → ∃ (b : Addr) (u : Value), ps[j]? = some b ∧ us[j]? = some (u, q'.2) ∧ IsTup s.heap b #[u, q'.2] ∧ keyIs q'.1 u = true := by
            clear ih
            refine ⟨prs.mapIdx fun j q' => (Classical.epsilon fun u => ∃ b, ps[j]? = some b ∧ IsTup s.heap b #[u, q'.2] ∧ keyIs q'.1 u = true, q'.2), by simp, fun j q' e => ?_⟩
            obtain ⟨b, u, g1, g2, g3⟩ := hqq j q' e
            have hex : ∃ u b, ps[j]? = some b ∧ IsTup s.heap b #[u, q'.2] ∧ keyIs q'.1 u = true := ⟨u, b, g1, g2, g3⟩
            obtain ⟨b', k1, k2, k3⟩ := Classical.epsilon_spec hex
            exact ⟨b', _, k1, by simp [e], k2, k3⟩
          refine ⟨(u0, q0.2) :: us, by simp [h1], fun j q' e => ?_⟩
          cases j with
          | zero =>
            have e : q0 = q' := by simpa using e
            subst e
            exact ⟨p0, u0, rfl, rfl, e2, e3⟩
          | succ j =>
            obtain ⟨b, u, g1, g2, g3⟩ := h2 j q' (by simpa using e)
            exact ⟨b, u, by simpa using g1, by simpa using g2, g3⟩
  obtain ⟨hul, hu⟩ := hus
  have have' : PairsHave (mixKind X.prog X.w) us.length (PairRel us) prs := ⟨hul.symm, fun i key v hr => by
    have hi : i < prs.length := by rw [← hul]; exact (List.getElem?_eq_some_iff.mp hr).1
    obtain ⟨b, u, g1, g2, g3, g4⟩ := hu i prs[i] (by simp [hi])
    have hr : us[i]? = some (key, v) := hr
    rw [g2] at hr
    cases hr
    exact ⟨prs[i].1, by simp [hi], g4⟩⟩
  have items : ∀ its : List Value, Vals (ps.map V.ref) its → PairItems s.heap its.toArray (fun j => (ps[j]?).getD 0) us := fun its rv => by
    have ei := refs_at rv
    subst ei
    refine ⟨by simp [hl, hul], fun j k v hj => ?_⟩
    have hi : j < prs.length := by rw [← hul]; exact (List.getElem?_eq_some_iff.mp hj).1
    obtain ⟨b, u, g1, g2, g3, g4⟩ := hu j prs[j] (by simp [hi])
    rw [g2] at hj
    cases hj
    refine ⟨by simp [g1], .inl ?_⟩
    show IsTup s.heap ((ps[j]?).getD 0) _
    rw [g1]
    exact g3
  rcases hq with hq | hq
  · obtain ⟨its, rv, pl, hz⟩ := I.list hq
    obtain ⟨o, n, ho, hc, hd, hdt⟩ := pl
    rw [List.length_map, ← hl] at hz
    exact PySem.call_dict_pairs (PairArg.list a its.toArray (fun j => (ps[j]?).getD 0) us) (I.ok.hd hcalm) ⟨⟨o, n, ho, hc, hd, hdt⟩, items its rv⟩ have' (by rw [hul]; exact hz) fun h' tk hd' hk => fin h' tk hd' (by rw [hkl]; exact hz) fun b o e => hk b o (fun h => nomatch h) e
  · obtain ⟨its, rv, pl, hz⟩ := plain_tup I hq
    rw [List.length_map, ← hl] at hz
    exact PySem.call_dict_pairs (PairArg.tuple a its.toArray (fun j => (ps[j]?).getD 0) us) (I.ok.hd hcalm) ⟨pl, items its rv⟩ have' (by rw [hul]; exact hz) fun h' tk hd' hk => fin h' tk hd' (by rw [hkl]; exact hz) fun b o e => hk b o (fun h => nomatch h) e
/-- data that are pairs, their keys read -/
def pairsD : List D → Option (List (Key × D))
  | [] => some []
  | .tuple [k, v] :: r => match keyOf k, pairsD r with
    | some k, some ps => some ((k, v) :: ps)
    | _, _ => none
  | _ :: _ => none
theorem pairsD_ok {K : PySem.W.Frag} {I : Hp} : ∀ {ds : List D} {kvs : List (Key × D)} {vs : List V}, pairsD ds = some kvs → RpA K I vs ds → ∃ (ps : List Addr) (ws : List (Key × V)), vs = ps.map V.ref ∧ Paired (fun p kv => SqT K I p [kV kv.1, kv.2]) ps ws ∧ ws.map Prod.fst = kvs.map Prod.fst ∧ RpK K I ws (kvs.map fun p => (kD p.1, p.2))
  | [], _, _, h, r => by cases h; cases r; exact ⟨[], [], rfl, .nil, rfl, .nil⟩
  | .tuple [k, v] :: ds, kvs, _, h, r => by
    unfold pairsD at h
    cases hk : keyOf k with
    | none => rw [hk] at h; cases h
    | some k' =>
      cases hr : pairsD ds with
      | none => rw [hk, hr] at h; cases h
      | some ps =>
        rw [hk, hr] at h
        cases h
        cases r with
        | cons a t =>
          cases a with
          | tup hs ha =>
            cases ha with
            | cons a1 ha =>
              cases ha with
              | cons a2 ha =>
                cases ha
                rw [keyOf_eq hk] at a1
                have := rp_key a1
                subst this
                obtain ⟨p2, w2, e, g1, g2, g3⟩ := pairsD_ok hr t
                exact ⟨_ :: p2, (k', _) :: w2, by rw [e]; rfl, .cons hs.t g1, by simp [g2], .cons a2 g3⟩
  | .none :: _, _, _, h, _ => by cases h
  | .bool _ :: _, _, _, h, _ => by cases h
  | .int _ :: _, _, _, h, _ => by cases h
  | .str _ :: _, _, _, h, _ => by cases h
  | .list _ :: _, _, _, h, _ => by cases h
  | .dict _ :: _, _, _, h, _ => by cases h
  | .tuple [] :: _, _, _, h, _ => by cases h
  | .tuple [_] :: _, _, _, h, _ => by cases h
  | .tuple (_ :: _ :: _ :: _) :: _, _, _, h, _ => by cases h
/-- the data in a list or tuple -/
def seqD : Dv → Store → Option (List D)
  | .d (.list ds), _ => some ds
  | .d (.tuple ds), _ => some ds
  | .c n, μ => match μ[n]? with
    | some (.lst xs) => allD xs
    | _ => none
  | _, _ => none
theorem seqD_ok {G : GT} {w : Wd} {μ : Store} {H : Hp} {v : V} {b : Dv} {ds : List D} (l : Lay G w μ H) (r : Rv G w v b) (h : seqD b μ = some ds) : ∃ a vs, v = .ref a ∧ (SqL G.K H a vs ∨ SqS G.K H a vs) ∧ RpA G.K w.I vs ds := by
  unfold seqD at h
  split at h
  · cases h
    obtain ⟨a, vs, rfl, h1, h2⟩ := rv_lst r
    exact ⟨a, vs, rfl, .inl (seqL l.same h1), h2⟩
  · cases h
    obtain ⟨a, vs, rfl, h1, h2⟩ := rv_tupS r
    exact ⟨a, vs, rfl, .inr (seqS l.same h1), h2⟩
  · split at h
    · rename_i e
      obtain ⟨a, vs, rfl, ha, hI, h2, h3⟩ := cell_lst l r e
      rw [allD_eq h] at h3
      exact ⟨a, vs, rfl, .inl (SqL.of h2), RpA_of_Rvs h3⟩
    · cases h
  · cases h
def dDictP : OpN := n1 fun b μ => match seqD b μ with
  | some ds => match pairsD ds with
    | some kvs => if (kvs.map Prod.fst).Nodup then .ok (.d (dicOf kvs)) μ else .bad
    | none => .bad
  | none => .bad
theorem SqT.mono {K : PySem.W.Frag} {H H' : Hp} (e : Same H H') {a : Addr} {xs : List V} (h : SqT K H a xs) : SqT K H' a xs := seqT e h
theorem ok_dictP {G : GT} : OkN G (rDictP G.K) dDictP := by
  apply ok_n1
  intro W σ w μ H x b Q l r p
  split at p
  · rename_i ds hs
    split at p
    · rename_i kvs hp
      by_cases hn : (kvs.map Prod.fst).Nodup
      · rw [if_pos hn] at p
        obtain ⟨a, vs, rfl, h1, h2⟩ := seqD_ok l r hs
        obtain ⟨ps, ws, rfl, g1, g2, g3⟩ := pairsD_ok hp h2
        refine ⟨a, ps, ws, rfl, h1, Paired.imp (fun _ _ z => seqT l.same z) g1, by rw [g2]; exact hn, fun q nq => ?_⟩
        obtain ⟨le, lay⟩ := l.new nq (.dK ws)
        exact p _ _ _ le lay (.dic (kvs := ws) upd_same (RpK.mono le.1 _ _ g3))
      · rw [if_neg hn] at p; exact p.elim
    · exact p.elim
  · exact p.elim
/-- the same as a cell -/
def cDictP : OpN := n1 fun b μ => match seqD b μ with
  | some ds => match pairsD ds with
    | some kvs => if (kvs.map Prod.fst).Nodup then .ok (.c μ.length) (μ ++ [.dic (kvs.map fun p => (p.1, .d p.2))]) else .bad
    | none => .bad
  | none => .bad
theorem KvR_of_RpK {G : GT} {w : Wd} : ∀ {kvs : List (Key × D)} {ws : List (Key × V)}, RpK G.K w.I ws (kvs.map fun p => (kD p.1, p.2)) → ws.map Prod.fst = kvs.map Prod.fst → KvR G w ws (kvs.map fun p => (p.1, .d p.2))
  | [], _, h, _ => by cases h; exact .nil
  | p :: kvs, ws, h, e => by
    cases ws with
    | nil => cases h
    | cons q ws =>
      obtain ⟨k, v⟩ := q
      rw [List.map_cons, List.map_cons, List.cons.injEq] at e
      rw [List.map_cons] at h
      generalize hk : kD p.1 = kk at h
      cases h with
      | cons a t => exact .cons ⟨e.1, a⟩ (KvR_of_RpK t e.2)
theorem ok_dictC {G : GT} : OkN G (rDictP G.K) cDictP := by
  apply ok_n1
  intro W σ w μ H x b Q l r p
  split at p
  · rename_i ds hs
    split at p
    · rename_i kvs hp
      by_cases hn : (kvs.map Prod.fst).Nodup
      · rw [if_pos hn] at p
        obtain ⟨a, vs, rfl, h1, h2⟩ := seqD_ok l r hs
        obtain ⟨ps, ws, rfl, g1, g2, g3⟩ := pairsD_ok hp h2
        refine ⟨a, ps, ws, rfl, h1, Paired.imp (fun _ _ z => seqT l.same z) g1, by rw [g2]; exact hn, fun q nq => ?_⟩
        obtain ⟨n1, n2, n3⟩ := l.na nq
        have kr := KvR_of_RpK g3 g2
        have le0 : w.le (w.ext q) := ⟨Same.refl _, List.prefix_append _ _, Same.refl _⟩
        obtain ⟨le, lay⟩ := l.cell nq (o := .dK ws) (c := .dic (kvs.map fun p => (p.1, .d p.2))) fun H' e => ⟨n1, ws, e, KvR.mono le0 kr⟩
        exact p _ _ _ le lay ⟨q, by show (w.α ++ [q])[μ.length]? = some q; rw [← l.len]; simp, rfl⟩
      · rw [if_neg hn] at p; exact p.elim
    · exact p.elim
  · exact p.elim
end DL

/-! dict(zip(a, b)) -/
namespace DL
open PySem PySem.Spec PyProof.Rows L2
section
variable {X : Cx} {pins : List (Addr × Obj)} {σ : L2.St} {H : Hp} {s : Shared}
/-- what a walked thing draws, under any around -/
theorem Sc.drawsA (I : Inv X pins σ H s) {it : Addr} : ∀ {c : Sc} {xs : List V}, c.at X.K H xs → c.apart it →
    ∃ (P : Nat → Value → Prop) (St : Nat → Heap → Prop), (∀ A : Around, A.handled = none → Draws X.prog X.w A it (c.fp it) xs.length P St) ∧ (∀ h', (∀ b o, s.heap.get? b = some o → h'.get? b = some o) → c.st it 0 h' → St 0 h') ∧ (∀ h, St 0 h → ∀ b ∈ c.fp it, ∃ o, h.get? b = some o) ∧
      (∀ j v, P j v → ∃ x, xs[j]? = some x ∧ RelV x v) ∧ (c.src.isSome = true → ∃ us : List Value, Vals xs us ∧ ∀ j v, P j v → us[j]? = some v)
  | .li a, xs, h, hn => by
    obtain ⟨its, rv, pl, _⟩ := I.list h
    have hl : its.toArray.size = xs.length := by rw [List.size_toArray]; exact rv.length.symm
    refine ⟨fun j v => its.toArray[j]? = some v, fun i h => h.IsListIter it a i ∧ h.IsList a its.toArray, fun A hh => by have D := Draws.list (prog := X.prog) (w := X.w) (A := A) hh it a hn its.toArray; rw [hl] at D; exact D, fun h' k st => ⟨st, pl.isList.at fun o e => k _ o e⟩, fun h st b hb => ?_, fun j v q => ?_, fun _ => ⟨its, rv, fun j v q => by simpa using q⟩⟩
    · have hb : b = it ∨ b = a := by simpa [Sc.fp] using hb
      obtain ⟨⟨o1, e1, _⟩, ⟨o2, e2, _⟩⟩ := st
      rcases hb with e | e
      · rw [e]; exact ⟨_, e1⟩
      · rw [e]; exact ⟨_, e2⟩
    · have q : its[j]? = some v := by simpa using q
      have hj : j < xs.length := by rw [← hl, List.size_toArray]; exact (List.getElem?_eq_some_iff.mp q).1
      obtain ⟨u, h1, h2⟩ := rv.get (show xs[j]? = some xs[j] by simp [hj])
      rw [q] at h1
      cases h1
      exact ⟨_, by simp [hj], h2⟩
  | .tu a, xs, h, hn => by
    obtain ⟨its, rv, pl, _⟩ := I.tuple h
    have hl : its.toArray.size = xs.length := by rw [List.size_toArray]; exact rv.length.symm
    refine ⟨fun j v => its.toArray[j]? = some v, fun i h => h.IsTupleIter it a i ∧ h.IsTuple a its.toArray, fun A hh => by have D := Draws.tuple (prog := X.prog) (w := X.w) (A := A) hh it a hn its.toArray; rw [hl] at D; exact D, fun h' k st => ⟨st, Heap.IsTuple.at pl fun o e => k _ o e⟩, fun h st b hb => ?_, fun j v q => ?_, fun _ => ⟨its, rv, fun j v q => by simpa using q⟩⟩
    · have hb : b = it ∨ b = a := by simpa [Sc.fp] using hb
      obtain ⟨⟨o1, e1, _⟩, ⟨o2, e2, _⟩⟩ := st
      rcases hb with e | e
      · rw [e]; exact ⟨_, e1⟩
      · rw [e]; exact ⟨_, e2⟩
    · have q : its[j]? = some v := by simpa using q
      have hj : j < xs.length := by rw [← hl, List.size_toArray]; exact (List.getElem?_eq_some_iff.mp q).1
      obtain ⟨u, h1, h2⟩ := rv.get (show xs[j]? = some xs[j] by simp [hj])
      rw [q] at h1
      cases h1
      exact ⟨_, by simp [hj], h2⟩
  | .tx z, xs, h, hn => by
    have h : xs = z.cps.toList.map fun c => V.str ⟨#[c]⟩ := h
    subst h
    have hl : z.cps.size = (z.cps.toList.map fun c => V.str ⟨#[c]⟩).length := by simp
    refine ⟨fun i v => ∃ c u, z.cps[i]? = some c ∧ v = .str ⟨#[c]⟩ u, fun i h => ∃ t, h.IsStrIter it (strIterType z) z t i, fun A hh => ?_, fun h' k st => st, fun h st b hb => ?_, fun j v q => ?_, fun e => nomatch e⟩
    · rw [← hl]
      exact {
        live := fun i h ⟨t, o, e, _⟩ => ⟨o, e⟩
        frame := fun i h h' ⟨t, st⟩ hk => ⟨t, (Draws.text (prog := X.prog) (w := X.w) (A := A) hh it z t).frame i h h' st hk⟩
        item := fun i s Q E hi ⟨t, st⟩ hQ => (Draws.text (prog := X.prog) (w := X.w) (A := A) hh it z t).item i s Q E hi st fun x h' tk p st' sb => hQ x h' tk (by obtain ⟨c, u, p1, p2⟩ := p; exact ⟨c, u, p1, p2⟩) ⟨t, st'⟩ sb
        done := fun s Q E ⟨t, st⟩ hE => (Draws.text (prog := X.prog) (w := X.w) (A := A) hh it z t).done s Q E st hE }
    · have hb : b = it := by simpa [Sc.fp] using hb
      obtain ⟨t, o, e, _⟩ := st
      rw [hb]; exact ⟨o, e⟩
    · obtain ⟨c, u, q, rfl⟩ := q
      refine ⟨.str ⟨#[c]⟩, ?_, ⟨u, rfl⟩⟩
      rw [List.getElem?_map, Array.getElem?_toList, q]
      rfl
end
def tDictZip (K : PySem.W.Frag) (ta : TA) : TE := fun σ H Q => ta σ H fun vs H1 => ∃ (c1 c2 : Sc) (ks : List Key) (ys : List V), vs = [c1.v, c2.v] ∧ c2.src.isSome = true ∧ c1.at K H1 (ks.map kV) ∧ c2.at K H1 ys ∧ (ks.take ys.length).Nodup ∧ ks.length ≤ sizeLine ∧
  ∀ p, H1 p = none → Q (.ref p) (upd H1 p (.dK (ks.zip ys)))
theorem map_fst_zip {α β : Type} : ∀ (l : List α) (m : List β), (l.zip m).map Prod.fst = l.take m.length
  | [], m => by simp
  | _ :: _, [] => by simp
  | a :: l, b :: m => by simp [map_fst_zip l m]
theorem KV_zip {ys : List V} {ws : List Value} (r : Vals ys ws) : ∀ ks : List Key, KV (ks.zip ys) (ks.zip ws) := by
  induction r with
  | nil => intro ks; cases ks <;> exact .nil
  | @cons x y xs us r t ih =>
    intro ks
    cases ks with
    | nil => exact .nil
    | cons k ks => exact .cons ⟨rfl, r⟩ (ih ks)
theorem pe_dictZip {X : Cx} {e e2 : Expr} {ta : TA} {p p2 pos pos2 : Pos} (hc : X.calm = true) (hgd : Gl X "dict") (hmd : X.mg "dict" = none) (hg : Gl X "zip") (hm : X.mg "zip" = none) (ha : PA X [e, e2] ta)
    (hs : starEach [e, e2] X.env = (false, eval e X.env) :: starEach [e2] X.env := by rfl) (hpl : (backTo pos (starEach [e2] X.env)).any (·.1) = false := by rfl)
    (hs2 : starEach [.Call (.Name "zip" p) [e, e2] [] pos] X.env = (false, eval (.Call (.Name "zip" p) [e, e2] [] pos) X.env) :: starEach [] X.env := by rfl) (hpl2 : (backTo pos2 (starEach [] X.env)).any (·.1) = false := by rfl) :
    PE X (.Call (.Name "dict" p2) [.Call (.Name "zip" p) [e, e2] [] pos] [] pos2) (tDictZip X.K ta) := by
  refine ⟨fun pins s σ H Q I h => ?_⟩
  have bd : bootBuiltins "dict" = some (.type "dict") := by decide +kernel
  refine Call_ (ld_blt I hgd hmd bd (PyProof.Rows.callWith_type1 ?_ hs2 hpl2))
  refine Calls.spliced_cons ?_
  refine Call_ (ld_blt I hg hm PyProof.Rows.boot_zip (PyProof.Rows.callWith_type1 (thn (ha.run pos pins s σ H _ I h) fun us s1 ⟨vs, H1, I1, r1, q1⟩ => ?_) hs hpl))
  obtain ⟨c1, c2, ks, ys, ex, hsrc, a1, a2, hnd, hkz, q⟩ := q1
  subst ex
  cases r1 with
  | cons r rr =>
    cases rr with
    | cons r' rr =>
      cases rr
      obtain ⟨o1, H1', B1, b1, k1, _⟩ := Sc.begins I1 a1 r
      obtain ⟨o2, H2', B2, b2, k2, _⟩ := Sc.begins I1 a2 r'
      have lt1 : ∀ a, c1.src = some a → a < s1.heap.objs.size := fun a e => Sc.src_lt I1 a1 e
      have lt2 : ∀ a, c2.src = some a → a < s1.heap.objs.size := fun a e => Sc.src_lt I1 a2 e
      refine zip_begins2 B1 B2 b1 b2 fun h' hz hTI hTO h1 h2 hsz hk => ?_
      have g1 : ∀ b, s1.heap.objs.size < b → b ∉ c1.fp s1.heap.objs.size := fun b hb hm => by
        rcases Sc.fp_mem hm with e | e
        · exact absurd e (Nat.ne_of_gt hb)
        · exact absurd (lt1 b e) (Nat.not_lt_of_gt hb)
      have g2 : ∀ b, s1.heap.objs.size ≤ b → b ≠ s1.heap.objs.size + 1 → b ∉ c2.fp (s1.heap.objs.size + 1) := fun b hb hne hm => by
        rcases Sc.fp_mem hm with e | e
        · exact absurd e hne
        · exact absurd (lt2 b e) (Nat.not_lt_of_ge hb)
      have S : ZipSep2 (s1.heap.objs.size + 4) (s1.heap.objs.size + 2) (s1.heap.objs.size + 3) s1.heap.objs.size (s1.heap.objs.size + 1) (c1.fp s1.heap.objs.size) (c2.fp (s1.heap.objs.size + 1)) := by
        generalize s1.heap.objs.size = n at *
        exact ⟨by simp, by simp, by simp, by simp, Sc.mem_fp, g1 _ (by omega), g1 _ (by omega), by simp, Sc.mem_fp, g2 _ (by omega) (by simp), g2 _ (by omega) (by simp), g2 _ (Nat.le_refl _) (by simp), g1 _ (by omega)⟩
      obtain ⟨P1, St1, D1, i1, t1, e1, _⟩ := Sc.drawsA I1 (it := s1.heap.objs.size) a1 (Sc.apart_of fun a e => Nat.ne_of_lt (lt1 a e))
      obtain ⟨P2, St2, D2, i2, t2, _, e2⟩ := Sc.drawsA I1 (it := s1.heap.objs.size + 1) a2 (Sc.apart_of fun a e => Nat.ne_of_lt (Nat.lt_succ_of_lt (lt2 a e)))
      obtain ⟨ws, rws, e2⟩ := e2 hsrc
      have hlw : ws.length = ys.length := rws.length.symm
      refine Calls.spliced_nil ?_
      refine PySem.call_dict_pairs (knd := mixKind X.prog X.w) (kvs := ks.zip ws) (PairArg.zipX S D1 D2 t1 t2) (I1.ok.hd hc) ⟨hz, hTI, ⟨_, _, hTO⟩, i1 _ hk (k1 _ _ h1), i2 _ hk (k2 _ _ h2)⟩ ⟨by rw [List.length_zip, List.length_map, hlw], fun i key v hr => ?_⟩ (by rw [List.length_map]; exact Nat.le_trans (Nat.min_le_left _ _) hkz) fun h'' tk hd' hkk => ?_
      · obtain ⟨x, hx, rx⟩ := e1 _ _ hr.1
        have hv := e2 _ _ hr.2
        rw [List.getElem?_map] at hx
        cases hk' : ks[i]? with
        | none => rw [hk'] at hx; cases hx
        | some k =>
          rw [hk'] at hx
          cases hx
          exact ⟨k, List.getElem?_zip_eq_some.mpr ⟨hk', hv⟩, kV_is (P := X.prog) (w := X.w) rx⟩
      · have keep : ∀ b o, s1.heap.get? b = some o → h''.get? b = some o := fun b o e => by
          have hb := Heap.lt_size e
          refine hkk b o (fun hm => ?_) (hk b o e)
          have e' : b = s1.heap.objs.size + 4 ∨ b = s1.heap.objs.size + 3 ∨ b = s1.heap.objs.size ∨ b = s1.heap.objs.size + 1 := by simpa using hm
          rcases e' with q | q | q | q <;> rw [q] at hb <;> exact absurd hb (Nat.not_lt_of_ge (by first | exact Nat.le_refl _ | exact Nat.le_add_right _ _))
        have hle : s1.heap.objs.size ≤ h'.objs.size := by omega
        have hm : (h'.objs.size == sysModules) = false := beq_eq_false_iff_ne.mpr (Nat.ne_of_gt (Nat.lt_of_lt_of_le I1.big hle))
        have kv : KV (ks.zip ys) (ks.zip ws) := KV_zip rws ks
        have hd2 := KV.merge (kvs := []) (vs := []) kv .nil
        rw [mergeKn (by rw [map_fst_zip]; exact hnd)] at hd2
        have hlz : (ks.zip ys).length ≤ sizeLine := by rw [List.length_zip]; exact Nat.le_trans (Nat.min_le_left _ _) hkz
        exact ⟨.ref h'.objs.size, upd H1 h'.objs.size (.dK (ks.zip ys)), I1.laid (t' := tk) keep hle (show ObjOk X.prog X.w _ _ _ (.dK (ks.zip ys)) from ⟨hlz, hm, merged [] (ks.zip ws), hd2, hd'⟩), rfl, q _ (I1.hok.fresh hle)⟩
end DL

/-! Own classes: C(..), o.f, o.f = e, o.m(..). -/
namespace DL
open PySem PySem.Spec PyProof.Rows L2
theorem make_guards {A : Around} {C : Addr} {us : List Value} {kw : List (Str × Value)} (g : A.guards = some []) : (A.under (.builtin "type.__call__" ⟨.ref C :: us, kw⟩)).guards = some [] := by
  first | exact g | (simp [Around.under, g]; done) | (unfold Around.under; simp [Code.isGuard, guardIds, g]; done)
section
variable {X : Cx} {G : GT} {W : WX} {e o : Expr} {es : List Expr} {mas : MA} {mo m : ME} {pos p apos : Pos} {x fl : Str} {k n : Nat} {f C : Addr} {fd : FuncData} {ps : List Str} {F : OpN} {sp : Sp} {E : L2.St → XK}
abbrev FlR (G : GT) (w : Wd) : List (Str × V) → List (Str × Dv) → Prop := Paired fun p q => p.1 = q.1 ∧ Rv G w p.2 q.2
theorem flR_lookup {w : Wd} {ws : List (Str × V)} {fs : List (Str × Dv)} (r : FlR G w ws fs) {f : Str} {b : Dv} (h : fs.lookup f = some b) : ∃ v, ws.lookup f = some v ∧ Rv G w v b := by
  induction r with
  | nil => cases h
  | @cons p q ws fs r t ih =>
    obtain ⟨a, v⟩ := p
    obtain ⟨c, d⟩ := q
    obtain ⟨e1, e2⟩ := r
    have e1 : a = c := e1
    subst e1
    by_cases hb : f = a
    · have hb' : (f == a) = true := beq_iff_eq.mpr hb
      simp only [List.lookup, hb'] at h ⊢
      cases h
      exact ⟨v, rfl, e2⟩
    · have hb' : (f == a) = false := beq_eq_false_iff_ne.mpr hb
      simp only [List.lookup, hb'] at h ⊢
      exact ih h
theorem flR_none {w : Wd} {ws : List (Str × V)} {fs : List (Str × Dv)} (r : FlR G w ws fs) {f : Str} (h : fs.lookup f = none) : ws.lookup f = none := by
  induction r with
  | nil => rfl
  | @cons p q ws fs r t ih =>
    obtain ⟨a, v⟩ := p
    obtain ⟨c, d⟩ := q
    obtain ⟨e1, e2⟩ := r
    have e1 : a = c := e1
    subst e1
    by_cases hb : f = a
    · have hb' : (f == a) = true := beq_iff_eq.mpr hb
      simp only [List.lookup, hb'] at h
      cases h
    · have hb' : (f == a) = false := beq_eq_false_iff_ne.mpr hb
      simp only [List.lookup, hb'] at h ⊢
      exact ih h
def putFD (f : Str) (v : Dv) : List (Str × Dv) → List (Str × Dv)
  | [] => [(f, v)]
  | (g, x) :: r => if g = f then (g, v) :: r else (g, x) :: putFD f v r
theorem flR_put {w : Wd} {ws : List (Str × V)} {fs : List (Str × Dv)} (r : FlR G w ws fs) {f : Str} {v : V} {b : Dv} (rv : Rv G w v b) : FlR G w (putF f v ws) (putFD f b fs) := by
  induction r with
  | nil => exact .cons ⟨rfl, rv⟩ .nil
  | @cons p q ws fs r t ih =>
    obtain ⟨a, v'⟩ := p
    obtain ⟨c, d⟩ := q
    obtain ⟨e1, e2⟩ := r
    have e1 : a = c := e1
    subst e1
    unfold putF putFD
    by_cases h : a = f
    · rw [if_pos h, if_pos h]; exact .cons ⟨rfl, rv⟩ t
    · rw [if_neg h, if_neg h]; exact .cons ⟨rfl, e2⟩ ih
theorem cell_obj {w : Wd} {μ : Store} {H : Hp} {i : Nat} {C : Nat} {fs : List (Str × Dv)} {v : V} (l : Lay G w μ H) (r : Rv G w v (.c i)) (e : μ[i]? = some (.obj C fs)) : ∃ a Ca dx ws, v = .ref a ∧ w.α[i]? = some a ∧ w.I a = none ∧ G.FA C = some Ca ∧ H a = some (.ins Ca dx ws) ∧ FlR G w ws fs := by
  obtain ⟨a, ha, rfl⟩ := r
  obtain ⟨h1, Ca, dx, ws, h2, h3, h4⟩ := l.at_ i _ a e ha
  exact ⟨a, Ca, dx, ws, rfl, ha, h1, h2, h3, h4⟩
/-- the own class of number n, its attributes' names -/
structure ClsN (K : PySem.W.Frag) (FA : Nat → Option Addr) (n : Nat) (fs ms : List Str) : Prop where
  ex : ∃ C, FA n = some C ∧ Cls K C ∧ ∀ f ∈ fs, NoAttr K C f
/-! ### o.f -/
def dFld (n : Nat) (f : Str) : Op1 := fun x μ => match x with
  | .c i => match μ[i]? with
    | some (.obj C fs) => if C = n then match fs.lookup f with
      | some v => .ok v μ
      | none => .bad
      else .bad
    | _ => .bad
  | _ => .bad
theorem de_fld {fs ms : List Str} (hK : X.K = G.K) (c : ClsN X.K G.FA n fs ms) (hf : fl ∈ fs) (ho : DE X G W o mo) (hb : attributeBase o fl X.env (eval o X.env) = eval o X.env := by rfl) : DE X G W (.Attribute o fl pos) (e1 (dFld n fl) mo) := by
  refine PE.imp (pe_fld ho hb) ?_
  rintro σ H Q ⟨w, μ, ρ, hl, he, p⟩
  refine tD.seq (k := fun ρ x μ => dFld n fl x μ) hl he p fun w1 μ1 H1 v b l1 lay1 en1 r1 p1 => ?_
  unfold dFld at p1
  split at p1
  · rename_i i
    split at p1
    · rename_i C gs e
      by_cases hC : C = n
      · rw [if_pos hC] at p1
        split at p1
        · rename_i v' hv
          subst hC
          obtain ⟨a, Ca, dx, ws, rfl, ha, hI, hA, h2, h3⟩ := cell_obj lay1 r1 e
          obtain ⟨C', c1, c2, c3⟩ := c.ex
          rw [hA] at c1
          cases c1
          obtain ⟨u, l2, r2⟩ := flR_lookup h3 hv
          exact ⟨a, Ca, dx, ws, u, rfl, h2, c2, c3 _ hf, l2, p1 w1 _ H1 w1.le_refl lay1 r2⟩
        · exact p1.elim
      · rw [if_neg hC] at p1; exact p1.elim
    · exact p1.elim
  · exact p1.elim
/-! ### o.f = e -/
def dSetF (n : Nat) (f : Str) (x v : Dv) (μ : Store) : Option Store := match x with
  | .c i => match μ[i]? with
    | some (.obj C fs) => if C = n ∧ fs.length < 1000 then some (μ.set i (.obj C (putFD f v fs))) else none
    | _ => none
  | _ => none
def sSetF (n : Nat) (f : Str) (m mo : ME) : MS := fun ρ μ => (m ρ μ).bind fun v μ => (mo ρ μ).bind fun x μ => optN (dSetF n f x v μ) ρ
theorem ds_setF {pos' : Pos} {fs ms : List Str} (hK : X.K = G.K) (c : ClsN X.K G.FA n fs ms) (hf : fl ∈ fs) (hv : DE X G W e m) (ho : DE X G W o mo) (hs : swapsWith e (some (.Attribute o fl pos')) pos.line X.env = pure false := by rfl) : DS X G W (.Assign [.Attribute o fl pos'] e pos) (sSetF n fl m mo) := by
  refine PS.imp (ps_fld ho hv hs) ?_
  rintro D σ H ⟨w, μ, ρ, hl, he, p⟩
  refine tD.seqS (k := fun ρ v μ => (mo ρ μ).bind fun x μ => optN (dSetF n fl x v μ) ρ) hl he p fun w1 μ1 H1 v v' l1 lay1 en1 r1 p1 => ?_
  refine tD.seqS (k := fun ρ x μ => optN (dSetF n fl x v' μ) ρ) lay1 en1 p1 fun w2 μ2 H2 x x' l2 lay2 en2 r2 p2 => ?_
  have r1 := r1.mono l2
  cases x' with
  | d _ => exact p2.elim
  | f _ => exact p2.elim
  | c i =>
    unfold dSetF at p2
    simp only at p2
    split at p2
    · rename_i C gs e
      by_cases hC : C = n ∧ gs.length < 1000
      · rw [if_pos hC] at p2
        obtain ⟨hC, hz⟩ := hC
        subst hC
        obtain ⟨a, Ca, dx, ws, rfl, ha, hI, hA, h2, h3⟩ := cell_obj lay2 r2 e
        obtain ⟨C', c1, c2, c3⟩ := c.ex
        rw [hA] at c1
        cases c1
        refine ⟨a, Ca, dx, ws, rfl, h2, c2, c3 _ hf, by rw [Paired.length h3]; exact hz, ?_⟩
        exact p2 w2 σ _ w2.le_refl (lay2.write ha hI fun H' e => ⟨hI, Ca, dx, _, hA, e, flR_put h3 r1⟩) en2
      · rw [if_neg hC] at p2; exact p2.elim
    · exact p2.elim
/-! ### o.m(..) -/
/-- the method m of the class of number n -/
structure CalM (P : Program) (w : World) (G : GT) (mg : Str → Option Value) (base : Heap) (n : Nat) (m : Str) (k : Nat) (ps : List Str) (F : OpN) : Prop where
  ex : ∃ (C f : Addr) (fd : FuncData), G.FA n = some C ∧ Cls G.K C ∧ Meth G.K C m f ∧ FnG P w G.K mg base k f fd ps (spD G ps.length F) ∧ Binds G.K fd ps []
def eMeth (n k : Nat) (m : Str) (F : OpN) (mo : ME) (mas : MA) : ME := fun ρ μ => (mo ρ μ).bind fun x μ => match x with
  | .c i => match μ[i]? with
    | some (.obj C fs) => if C = n ∧ fs.lookup m = none then (mas ρ μ).bind fun bs μ => fCall k F (.c i :: bs) μ else .bad
    | _ => .bad
  | _ => .bad
theorem runF {pins : List (Addr × Obj)} {σ : L2.St} {H : Hp} {s : Shared} {Q : VK} {us : List Value} {vs : List V} {sp : Sp} (hF : FnG X.prog X.w X.K X.mg X.base k f fd ps sp) (g : X.A.guards = some []) (hr : Room k X.A) (hb : Binds X.K fd ps []) (tk : Takes X W) (I : Inv X pins σ H s) (r : Vals vs us) (q : sp vs H Q (WE W σ)) :
    wpAny (model X.prog X.w) X.A (call (.ref f) us) (EP X pins σ Q) X.xe s := by
  have hl : (us ++ ([] : List Value)).length = ps.length := by rw [List.append_nil, ← r.length]; exact hF.len _ _ _ _ q
  have hb1 := hb s us I.kIn hl
  rw [List.append_nil] at hb1
  apply wpAny_call
  apply codeAny_mono (runG hF g hr (E := WE W) (fun _ _ _ _ _ I c => passAt tk σ _ _ _ _ _ I c) I hb1 r q)
  rintro (e | fl) s' q
  · exact q
  · cases fl with
    | ret u => exact q
    | next => exact q.elim
    | brk => exact q.elim
    | cont => exact q.elim
theorem de_meth {pl : Sem Bool} {nm : Str} {kk : Nat} (hK : X.K = G.K) (M : CalM X.prog X.w G X.mg X.base n nm k ps F) (g : X.A.guards = some []) (hr : Room k X.A) (tk : Takes X W) (ho : DE X G W o mo) (ha : DA X G W (e :: es) mas) (hn : ps.length = kk := by rfl)
    (hst : starEach (e :: es) X.env = (false, eval e X.env) :: starEach es X.env := by rfl) (hpl : (backTo pos (starEach es X.env)).any (·.1) = false := by rfl)
    (ht : eval (.Call (.Attribute o nm apos) (e :: es) [] pos) X.env = (do
      let ov ← eval o X.env
      standAt apos.atName
      let (f, first) ← holding [ov] (getMethod ov nm pl)
      callWith pos f first (backTo pos (starEach (e :: es) X.env)) (backToKw pos (keywordEach [] X.env))) := by rfl) :
    DE X G W (.Call (.Attribute o nm apos) (e :: es) [] pos) (eMeth n kk nm F mo mas) := by
  subst hn
  obtain ⟨C, f, fd, c1, c2, c3, c4, c5⟩ := M.ex
  rw [← hK] at c2 c3 c4 c5
  refine ⟨fun pins s σ H Q I h => ?_⟩
  obtain ⟨w, μ, ρ, hl, he, p⟩ := h
  have p : Pst G W σ (Rv G) w ((mo ρ μ).bind fun x μ => match x with
    | .c i => match μ[i]? with
      | some (.obj C fs) => if C = n ∧ fs.lookup nm = none then (mas ρ μ).bind fun bs μ => fCall ps.length F (.c i :: bs) μ else .bad
      | _ => .bad
    | _ => .bad) Q := p
  refine PySem.W.methodCall_KW (pl := pl) (thn (ho.run pins s σ H (fun v H1 => ∃ a dx fs, v = .ref a ∧ H1 a = some (.ins C dx fs) ∧ fs.lookup nm = none ∧ tA G W mas σ H1 fun vs H2 => spD G ps.length F (.ref a :: vs) H2 Q (WE W σ)) I (tD.seq (k := fun ρ x μ => match x with
    | .c i => match μ[i]? with
      | some (.obj C fs) => if C = n ∧ fs.lookup nm = none then (mas ρ μ).bind fun bs μ => fCall ps.length F (.c i :: bs) μ else .bad
      | _ => .bad
    | _ => .bad) hl he p fun w1 μ1 H1 v b l1 lay1 en1 r1 p1 => ?_)) fun u s1 ⟨x, H1, I1, rx, a, dx, fs, ex, ea, l, q⟩ => ?_) ht
  · cases b with
    | d _ => exact p1.elim
    | f _ => exact p1.elim
    | c i =>
      simp only at p1
      split at p1
      · rename_i C' gs e
        by_cases hC : C' = n ∧ gs.lookup nm = none
        · rw [if_pos hC] at p1
          obtain ⟨hC, hz⟩ := hC
          subst hC
          obtain ⟨a, Ca, dx, ws, rfl, ha', hI, hA, h2, h3⟩ := cell_obj lay1 r1 e
          rw [hA] at c1
          cases c1
          refine ⟨a, dx, ws, rfl, h2, flR_none h3 hz, ?_⟩
          refine tD.seq (k := fun ρ bs μ => fCall ps.length F (.c i :: bs) μ) lay1 en1 p1 fun w2 μ2 H2 vs bs l2 lay2 en2 r2 p2 => ?_
          unfold fCall at p2
          by_cases q : (Dv.c i :: bs).length = ps.length
          · rw [if_pos q] at p2
            refine ⟨by rw [List.length_cons, Paired.length r2]; exact q, w2, μ2, _, lay2, .cons (r1.mono l2) r2, ?_⟩
            cases z : F (.c i :: bs) μ2 with
            | ok c μ2 => rw [z] at p2; exact p2
            | ex c μ2 => rw [z] at p2; exact p2
            | bad => rw [z] at p2; exact p2
          · rw [if_neg q] at p2; exact p2.elim
        · rw [if_neg hC] at p1; exact p1.elim
      · exact p1.elim
  · subst ex
    obtain rfl : u = Value.ref a := rx
    refine getmeth_ok I1 ea c2 c3 l ?_
    refine PySem.W.callWith_K (first := [.ref a]) (h₀ := X.base) I.ok.mod.kin c3.kp (thn (ha.run pos pins s1 σ H1 _ I1 q) fun us s2 ⟨vs, H2, I2, r, q2⟩ => ⟨I2.kIn, ?_⟩) hst hpl
    exact runF (us := .ref a :: us) (vs := .ref a :: vs) c4 g hr c5 tk I2 (.cons rfl r) q2
/-! ### C(..) -/
structure CalI (P : Program) (w : World) (G : GT) (mg : Str → Option Value) (base : Heap) (x : Str) (n : Nat) (k : Nat) (ps : List Str) (F : OpN) : Prop where
  ex : ∃ (C f : Addr) (fd : FuncData), G.FA n = some C ∧ mg x = some (.ref C) ∧ Mk G.K C f ∧ FnG P w G.K mg base k f fd ps (spD G ps.length F) ∧ Binds G.K fd ps []
def eMake (n k : Nat) (F : OpN) (mas : MA) : ME := fun ρ μ => (mas ρ μ).bind fun bs μ => if bs.length + 1 = k then (F (.c μ.length :: bs) (μ ++ [.obj n []])).bind fun r μ' => match r with
  | .d .none => .ok (.c μ.length) μ'
  | _ => .bad
  else .bad
theorem de_make {kk : Nat} (hK : X.K = G.K) (M : CalI X.prog X.w G X.mg X.base x n k ps F) (g : X.A.guards = some []) (hr : Room (k + 1) X.A) (tk : Takes X W) (hg : Gl X x) (ha : DA X G W (e :: es) mas) (hn : ps.length = kk := by rfl)
    (hdb : (x == ("__debug__" : Str)) = false := by decide) (he : starEach (e :: es) X.env = (false, eval e X.env) :: starEach es X.env := by rfl) (hpl : (backTo pos (starEach es X.env)).any (·.1) = false := by rfl) :
    DE X G W (.Call (.Name x p) (e :: es) [] pos) (eMake n kk F mas) := by
  subst hn
  obtain ⟨C, f, fd, c1, hm, M, c4, c5⟩ := M.ex
  rw [← hK] at M c4 c5
  refine ⟨fun pins s σ H Q I h => ?_⟩
  obtain ⟨w, μ, ρ, hl, hen, pp⟩ := h
  refine wpAny_Call_Name_kw (ld_glob I hg hm ?_ hdb)
  have pp : Pst G W σ (Rv G) w ((mas ρ μ).bind fun bs μ => if bs.length + 1 = ps.length then (F (.c μ.length :: bs) (μ ++ [.obj n []])).bind fun r μ' => match r with
    | .d .none => .ok (.c μ.length) μ'
    | _ => .bad
    else .bad) Q := pp
  refine PySem.W.callWith_K (h₀ := X.base) I.ok.mod.kin M.kp (thn (ha.run pos pins s σ H (fun vs H1 => ∀ x dx, H1 x = none → H1 dx = none → dx ≠ x → spD G ps.length F (.ref x :: vs) (upd (upd H1 dx (.own x)) x (.ins C dx [])) (fun v H2 => v = .non ∧ Q (.ref x) H2) (WE W σ)) I (tD.seq (k := fun ρ bs μ => if bs.length + 1 = ps.length then (F (.c μ.length :: bs) (μ ++ [.obj n []])).bind fun r μ' => match r with
    | .d .none => Out.ok (Dv.c μ.length) μ'
    | _ => .bad
    else .bad) hl hen pp fun w1 μ1 H1 vs bs l1 lay1 en1 r1 p1 => ?_)) fun us s1 ⟨vs, H1, I1, r, h⟩ => ⟨I1.kIn, ?_⟩) he hpl
  · intro x dx nx ndx nex
    by_cases hb : bs.length + 1 = ps.length
    · rw [if_pos hb] at p1
      obtain ⟨d1, d2, d3⟩ := lay1.na ndx
      have layd := lay1.other d1 d2 d3 (.own x)
      have nx' : upd H1 dx (.own x) x = none := by rw [upd_ne (Ne.symm nex)]; exact nx
      obtain ⟨n1, n2, n3⟩ := layd.na nx'
      obtain ⟨le, lay2⟩ := layd.cell nx' (o := .ins C dx []) (c := .obj n []) fun H' e => ⟨n1, C, dx, [], c1, e, .nil⟩
      refine ⟨by rw [List.length_cons, Paired.length r1]; exact hb, w1.ext x, μ1 ++ [.obj n []], .c μ1.length :: bs, lay2, .cons ⟨x, by show (w1.α ++ [x])[μ1.length]? = some x; rw [← lay1.len]; simp, rfl⟩ (Rvs.mono le r1), ?_⟩
      cases z : F (.c μ1.length :: bs) (μ1 ++ [.obj n []]) with
      | bad => rw [z] at p1; exact p1.elim
      | ex c μ2 =>
        rw [z] at p1
        exact fun w' cls d H' l' lay' r' => p1 w' cls d H' (le.trans l') lay' r'
      | ok r μ2 =>
        rw [z] at p1
        intro w' v H' l' lay' r'
        cases r with
        | d y =>
          cases y with
          | none =>
            have r' : Rp G.K w'.I v .none := r'
            cases r'
            refine ⟨rfl, p1 w' (.ref x) H' (le.trans l') lay' ⟨x, pre_get l'.2.1 (by show (w1.α ++ [x])[μ1.length]? = some x; rw [← lay1.len]; simp), rfl⟩⟩
          | _ => exact p1.elim
        | _ => exact p1.elim
    · rw [if_neg hb] at p1; exact p1.elim
  · have hq := h (s1.heap.objs.size + 1) s1.heap.objs.size (I1.hok.fresh (Nat.le_succ _)) (I1.hok.fresh (Nat.le_refl _)) (Nat.ne_of_lt (Nat.lt_succ_self _))
    have I2 := Inv.made (C := C) I1
    have r2 : Vals (V.ref (s1.heap.objs.size + 1) :: vs) (Value.ref (s1.heap.objs.size + 1) :: us) := .cons rfl r
    have hl2 : ((Value.ref (s1.heap.objs.size + 1) :: us) ++ ([] : List Value)).length = ps.length := by
      rw [List.append_nil, ← r2.length]
      exact c4.len _ _ _ _ hq
    have hb1 := c5 _ (Value.ref (s1.heap.objs.size + 1) :: us) I2.kIn hl2
    rw [List.append_nil] at hb1
    refine wpAny_call (make_map (f := f) I1.kIn M.makes M.init (beq_iff_eq.mp M.fn) (codeAny_mono (c4.run _ X.stack _ _ ⟨Value.ref (s1.heap.objs.size + 1) :: us, []⟩ (Value.ref (s1.heap.objs.size + 1) :: us) _ _ (WE W σ) (make_guards g) (hr.make C us [])
      (I2.env0.make C us []) hb1 r2 hq) fun r s' hq' => ?_))
    cases r with
    | error e => exact passAt tk σ pins _ _ _ _ I2 hq'
    | ok fl =>
      cases fl with
      | ret u =>
        obtain ⟨v, H', I3, rv, ev, q3⟩ := I2.after hq'
        subst ev
        exact ⟨rv, ⟨V.ref (s1.heap.objs.size + 1), H', I3, rfl, q3⟩⟩
      | next => exact False.elim hq'
      | brk => exact False.elim hq'
      | cont => exact False.elim hq'
end
end DL

/-! list(zip(a, b)), at the library's level. -/
namespace PySem
open PySem.W
theorem zip_no_len : typeLookup (.type "zip") "__len__" = pure none := am_miss_of_fast (by decide +kernel)
theorem zip_no_hint : typeLookup (.type "zip") "__length_hint__" = pure none := am_miss_of_fast (by decide +kernel)
section
variable {prog : Program} {w : World} {A : Around} {E : Value → Shared → Prop} {s : Shared} {R : Result → Shared → Prop} {z TI TO i1 i2 : Addr} {fp1 fp2 : List Addr} {n1 n2 : Nat} {P1 P2 : Nat → Value → Prop} {St1 St2 : Nat → Heap → Prop}
/-- a zip behind i items, while the list at S is filled -/
def ZpSt (St1 St2 : Nat → Heap → Prop) (z TI TO i1 i2 S : Addr) (i : Nat) (h : Heap) : Prop :=
  IsPair h TI (.ref i1) (.ref i2) ∧ St1 i h ∧ St2 i h ∧ ((IsZip h z TI TO .none ∧ ∃ a b, IsPair h TO a b) ∨ ∃ T f oT, IsZipHeld h z TI TO T f ∧ h.get? T = some oT ∧ T ≠ z ∧ T ≠ i1 ∧ T ≠ i2 ∧ T ≠ S)
theorem ZpSt.keep (S0 : ZipSep2 z TI TO i1 i2 fp1 fp2) (D1 : Draws prog w A i1 fp1 n1 P1 St1) (D2 : Draws prog w A i2 fp2 n2 P2 St2) {S : Addr} {i : Nat} {h h' : Heap} (x : ZpSt St1 St2 z TI TO i1 i2 S i h) (hk : ∀ b o, b ≠ S → h.get? b = some o → h'.get? b = some o)
    (hz : z ≠ S) (hTI : TI ≠ S) (hTO : TO ≠ S) (h1 : S ∉ fp1) (h2 : S ∉ fp2) : ZpSt St1 St2 z TI TO i1 i2 S i h' := by
  obtain ⟨a, b, c, d⟩ := x
  refine ⟨hk _ _ hTI a, D1.frame _ _ _ b fun q hq o e => hk q o (fun e' => h1 (e' ▸ hq)) e, D2.frame _ _ _ c fun q hq o e => hk q o (fun e' => h2 (e' ▸ hq)) e, ?_⟩
  rcases d with ⟨hz', a, b, hTO'⟩ | ⟨T, f, oT, hz', hT, r1, r2, r3, r4⟩
  · exact .inl ⟨hk _ _ hz hz', a, b, hk _ _ hTO hTO'⟩
  · exact .inr ⟨T, f, oT, hk _ _ hz hz', hk _ _ r4 hT, r1, r2, r3, r4⟩
theorem zp_item (S0 : ZipSep2 z TI TO i1 i2 fp1 fp2) (D1 : Draws prog w A.in1 i1 fp1 n1 P1 St1) (D2 : Draws prog w A.in1 i2 fp2 n2 P2 St2) {S : Addr} {i : Nat} {Q : Option Value → Shared → Prop} (hst : ZpSt St1 St2 z TI TO i1 i2 S i s.heap) (hS : S < s.heap.objs.size) (hi : i < min n1 n2)
    (hQ : ∀ x y h' tk, P1 i x → P2 i y → ZpSt St1 St2 z TI TO i1 i2 S (i + 1) h' → h'.get? s.heap.objs.size = some { cls := .type "tuple", data := .seq #[x, y] } → (∀ b o, b ≠ z → b ≠ TO → b ≠ i1 → b ≠ i2 → s.heap.get? b = some o → h'.get? b = some o) → Q (some (.ref s.heap.objs.size)) { s with heap := h', toks := tk }) :
    wpAny (model prog w) A (pyNext (.ref z)) Q E s := by
  obtain ⟨hTI, h1, h2, hz⟩ := hst
  have hix : i < n1 := Nat.lt_of_lt_of_le hi (Nat.min_le_left ..)
  have hiy : i < n2 := Nat.lt_of_lt_of_le hi (Nat.min_le_right ..)
  have lt : ∀ {c o}, s.heap.get? c = some o → s.heap.objs.size ≠ c := fun e => Nat.ne_of_gt (Heap.lt_size e)
  have m1 : s.heap.objs.size ≠ i1 := let ⟨_, e⟩ := D1.live _ _ h1; lt e
  have m2 : s.heap.objs.size ≠ i2 := let ⟨_, e⟩ := D2.live _ _ h2; lt e
  rcases hz with ⟨hz, a, b, hTO⟩ | ⟨T, f, oT, hz, hT, r1, r2, r3, r4⟩
  · refine wpAny_pyNext_zipD2_item S0 D1 D2 hz hTI hTO h1 h2 hix hiy fun x y h' tk p1 p2 a1 a2 a3 a4 a5 a6 hk => ?_
    exact hQ _ _ h' tk p1 p2 ⟨hk _ _ S0.TIz S0.TITO S0.TIi1 S0.TIi2 hTI, a3, a4, .inr ⟨s.heap.objs.size, false, _, a1, a5, lt hz, m1, m2, Nat.ne_of_gt hS⟩⟩ a5 fun b o b1 b2 b3 b4 e => hk b o b1 b2 b3 b4 e
  · refine pyNext_zipH_item S0 D1 D2 hz hT hTI h1 h2 hix hiy fun x y h' tk p1 p2 a1 a3 a4 a5 a6 hk => ?_
    exact hQ _ _ h' tk p1 p2 ⟨hk _ _ S0.TIz S0.TIi1 S0.TIi2 hTI, a3, a4, .inr ⟨T, true, oT, a1, hk _ _ r1 r2 r3 hT, r1, r2, r3, r4⟩⟩ a5 fun b o b1 b2 b3 b4 e => hk b o b1 b3 b4 e
theorem zp_done (S0 : ZipSep2 z TI TO i1 i2 fp1 fp2) (D1 : Draws prog w A.in1 i1 fp1 n1 P1 St1) (D2 : Draws prog w A.in1 i2 fp2 n2 P2 St2) {S : Addr} {i : Nat} {Q : Option Value → Shared → Prop} (hst : ZpSt St1 St2 z TI TO i1 i2 S i s.heap) (hi : i = min n1 n2)
    (hQ : ∀ h' tk, (∀ b o, b ≠ z → b ≠ TO → b ≠ i1 → b ≠ i2 → s.heap.get? b = some o → h'.get? b = some o) → Q none { s with heap := h', toks := tk }) :
    wpAny (model prog w) A (pyNext (.ref z)) Q E s := by
  obtain ⟨hTI, h1, h2, hz⟩ := hst
  rcases hz with ⟨hz, a, b, hTO⟩ | ⟨T, f, oT, hz, hT, r1, r2, r3, r4⟩
  · exact wpAny_pyNext_zipD2_end S0 D1 D2 hz hTI hTO h1 h2 (by omega) (by omega) (by omega) fun h' tk hk => hQ h' tk fun c o c1 c2 c3 c4 e => hk c o c1 c2 c3 c4 e
  · exact pyNext_zipH_end S0 D1 D2 hz hT hTI h1 h2 (by omega) (by omega) (by omega) fun h' tk hk => hQ h' tk fun c o c1 c2 c3 c4 e => hk c o c1 c3 c4 e
/-- the pairs that were made, one behind the other, above lo -/
structure PrG (P1 P2 : Nat → Value → Prop) (lo : Addr) (h : Heap) (as : List Addr) : Prop where
  rise : as.Pairwise (· < ·)
  above : ∀ a ∈ as, lo < a
  pairs : ∀ (j : Nat) (a : Addr), as[j]? = some a → ∃ x y, P1 j x ∧ P2 j y ∧ h.get? a = some { cls := .type "tuple", data := .seq #[x, y] }
theorem PrG.there {lo : Addr} {h : Heap} {as : List Addr} (g : PrG P1 P2 lo h as) {a : Addr} (ha : a ∈ as) : a < h.objs.size := by
  obtain ⟨j, hj⟩ := List.mem_iff_getElem?.mp ha
  obtain ⟨_, _, _, _, e⟩ := g.pairs j a hj
  exact Heap.lt_size e
theorem zp_loop (S0 : ZipSep2 z TI TO i1 i2 fp1 fp2) (D1 : Draws prog w A.in1.in1 i1 fp1 n1 P1 St1) (D2 : Draws prog w A.in1.in1 i2 fp2 n2 P2 St2) {S : Addr} (hz : z < S) (hTI : TI < S) (hTO : TO < S) (hi1 : i1 < S) (hi2 : i2 < S) (h1 : S ∉ fp1) (h2 : S ∉ fp2) (hn : min n1 n2 ≤ sizeLine) (res : Value) {h₁ : Heap}
    (hR : ∀ h' tk acc c as, (∀ b o, b ≠ S → b ≠ z → b ≠ TO → b ≠ i1 → b ≠ i2 → h₁.get? b = some o → h'.get? b = some o) → h'.get? S = some { cls := .type "list", dict := none, data := .seq acc c, slots := #[] } → as.length = min n1 n2 → PrG P1 P2 S h' as →
      acc.toList = as.map Value.ref → R (.ok (.ret res)) { s with heap := h', toks := tk }) :
    ∀ (k i : Nat) (h : Heap) (tk c : Nat) (acc : Array Value) (as : List Addr), min n1 n2 - i = k → i ≤ min n1 n2 → ZpSt St1 St2 z TI TO i1 i2 S i h → (∀ b o, b ≠ S → b ≠ z → b ≠ TO → b ≠ i1 → b ≠ i2 → h₁.get? b = some o → h.get? b = some o) →
      h.get? S = some { cls := .type "list", dict := none, data := .seq acc c, slots := #[] } → acc.toList = as.map Value.ref → as.length = i → PrG P1 P2 S h as →
      codeAny (model prog w) A (.builtin "list.extend.loop" ⟨[.ref S, .ref z, res], []⟩) R { s with heap := h, toks := tk } := by
  have above : ∀ {b : Addr}, S < b → b ≠ z ∧ b ≠ TO ∧ b ≠ i1 ∧ b ≠ i2 := fun {b} hb => ⟨Nat.ne_of_gt (Nat.lt_trans hz hb), Nat.ne_of_gt (Nat.lt_trans hTO hb), Nat.ne_of_gt (Nat.lt_trans hi1 hb), Nat.ne_of_gt (Nat.lt_trans hi2 hb)⟩
  intro k
  induction k with
  | zero =>
    intro i h tk c acc as hk hi hst hkeep hS hacc hal hG
    refine codeAny_builtin PySem.F.entry_extend_loop ?_
    rw [Around.under_plainId PySem.F.plain_extend_loop _]
    show wpAny _ A.in1 (pyNext (.ref z) >>= _) _ _ _
    refine wpAny_bind (zp_done (s := { s with heap := h, toks := tk }) (A := A.in1) S0 D1 D2 hst (by omega) fun h' tk' he => ?_)
    refine wpAny_pure (hR h' tk' acc c as (fun b o b0 b1 b2 b3 b4 e => he b o b1 b2 b3 b4 (hkeep b o b0 b1 b2 b3 b4 e)) (he S _ (Nat.ne_of_gt hz) (Nat.ne_of_gt hTO) (Nat.ne_of_gt hi1) (Nat.ne_of_gt hi2) hS) (by omega) ⟨hG.rise, hG.above, fun j a hj => ?_⟩ hacc)
    obtain ⟨x, y, e1, e2, e3⟩ := hG.pairs j a hj
    obtain ⟨g1, g2, g3, g4⟩ := above (hG.above a (List.mem_of_getElem? hj))
    exact ⟨x, y, e1, e2, he a _ g1 g2 g3 g4 e3⟩
  | succ k ih =>
    intro i h tk c acc as hk hi hst hkeep hS hacc hal hG
    have hlt : i < min n1 n2 := by omega
    have hsz : acc.size = i := by rw [← Array.length_toList, hacc, List.length_map, hal]
    refine codeAny_builtin PySem.F.entry_extend_loop ?_
    rw [Around.under_plainId PySem.F.plain_extend_loop _]
    show wpAny _ A.in1 (pyNext (.ref z) >>= _) _ _ _
    refine wpAny_bind (zp_item (s := { s with heap := h, toks := tk }) (A := A.in1) S0 D1 D2 hst (Heap.lt_size hS) hlt fun x y h' tk' p1 p2 hst' ht hkp => ?_)
    dsimp only at ht hkp ⊢
    have hSl : S < h.objs.size := Heap.lt_size hS
    have hS' := hkp S _ (Nat.ne_of_gt hz) (Nat.ne_of_gt hTO) (Nat.ne_of_gt hi1) (Nat.ne_of_gt hi2) hS
    have up : ∀ b o, b ≠ S → h'.get? b = some o → (h'.update S (Obj.mapSeq (·.push (Value.ref h.objs.size)))).get? b = some o := fun b o hb e => (Heap.get?_update_other _ _ (Ne.symm hb)).trans e
    show wpAny _ A.in1 (updateSeq S (·.push (Value.ref h.objs.size)) >>= _) _ _ _
    refine wpAny_bind ?_
    refine wpAny_updateSeq hS' rfl (wpAny_pure ⟨plainId_quiet PySem.F.plain_extend_loop _, ih (i + 1) _ tk' _ (acc.push (Value.ref h.objs.size)) (as ++ [h.objs.size]) (by omega) hlt
      (ZpSt.keep S0 D1 D2 hst' up (Nat.ne_of_lt hz) (Nat.ne_of_lt hTI) (Nat.ne_of_lt hTO) h1 h2)
      (fun b o b0 b1 b2 b3 b4 e => up b o b0 (hkp b o b1 b2 b3 b4 (hkeep b o b0 b1 b2 b3 b4 e))) (Heap.get?_update_self _ hS' rfl) (by rw [Array.toList_push, hacc, List.map_append]; rfl) (by rw [List.length_append, hal]; rfl) ⟨?_, ?_, ?_⟩⟩) (by rw [hsz]; omega) (by show (acc.push (Value.ref h.objs.size)).size ≤ sizeLine + 1; rw [Array.size_push, hsz]; omega)
    · refine List.pairwise_append.mpr ⟨hG.rise, List.pairwise_singleton _ _, fun a ha b hb => ?_⟩
      rw [List.mem_singleton.mp hb]
      exact hG.there ha
    · intro a ha
      rcases List.mem_append.mp ha with ha | ha
      · exact hG.above a ha
      · rw [List.mem_singleton.mp ha]; exact hSl
    · intro j b hj
      rcases Nat.lt_trichotomy j as.length with q | q | q
      · rw [List.getElem?_append_left q] at hj
        obtain ⟨x', y', e1, e2, e3⟩ := hG.pairs j b hj
        have hb := hG.above b (List.mem_of_getElem? hj)
        obtain ⟨g1, g2, g3, g4⟩ := above hb
        exact ⟨x', y', e1, e2, up b _ (Nat.ne_of_gt hb) (hkp b _ g1 g2 g3 g4 e3)⟩
      · subst q
        have hb : h.objs.size = b := by simpa using hj
        subst hb
        exact ⟨x, y, by rw [hal]; exact p1, by rw [hal]; exact p2, up _ _ (Nat.ne_of_gt hSl) ht⟩
      · have hnone : (as ++ [h.objs.size])[j]? = none := List.getElem?_eq_none (by rw [List.length_append, List.length_singleton]; omega)
        rw [hnone] at hj; cases hj
/-- list(z), z a new zip -/
theorem call_list_zip {Q : Value → Shared → Prop} (hh : A.handled = none) (S0 : ZipSep2 z TI TO i1 i2 fp1 fp2) (D1 : ∀ A : Around, A.handled = none → Draws prog w A i1 fp1 n1 P1 St1) (D2 : ∀ A : Around, A.handled = none → Draws prog w A i2 fp2 n2 P2 St2)
    (hz : IsZip s.heap z TI TO .none) (hTI : IsPair s.heap TI (.ref i1) (.ref i2)) (hTO : ∃ a b, IsPair s.heap TO a b) (st1 : St1 0 s.heap) (st2 : St2 0 s.heap) (f1 : ∀ b ∈ fp1, ∃ o, s.heap.get? b = some o) (f2 : ∀ b ∈ fp2, ∃ o, s.heap.get? b = some o) (hn : min n1 n2 ≤ sizeLine)
    (hQ : ∀ h' tk acc c as, (∀ b o, b ≠ z → b ≠ TO → b ≠ i1 → b ≠ i2 → s.heap.get? b = some o → h'.get? b = some o) → h'.get? s.heap.objs.size = some { cls := .type "list", dict := none, data := .seq acc c, slots := #[] } → as.length = min n1 n2 → PrG P1 P2 s.heap.objs.size h' as →
      acc.toList = as.map Value.ref → Q (.ref s.heap.objs.size) { s with heap := h', toks := tk }) :
    wpAny (model prog w) A (call (.type "list") [.ref z]) Q E s := by
  refine callType_codes (Q₁ := fun obj s₁ => obj = .ref s.heap.objs.size ∧ s₁ = { s with heap := s.heap.push { cls := .type "list", data := .seq #[] } }) PySem.F.called_list (PySem.F.typeCall_list_1 _) PySem.F.entry_list_init
    (code_list_new _ ⟨rfl, rfl⟩) fun obj s₁ h₁ => ?_
  obtain ⟨rfl, rfl⟩ := h₁
  have hS : (s.heap.push { cls := .type "list", data := .seq #[] }).get? s.heap.objs.size = some { cls := .type "list", data := .seq #[] } := Heap.get?_push_size _ rfl
  have lz : z < s.heap.objs.size := Heap.lt_size hz
  have lTI : TI < s.heap.objs.size := Heap.lt_size hTI
  obtain ⟨ta, tb, hTO⟩ := hTO
  have lTO : TO < s.heap.objs.size := Heap.lt_size hTO
  have li1 : i1 < s.heap.objs.size := let ⟨_, e⟩ := f1 _ S0.mem1; Heap.lt_size e
  have li2 : i2 < s.heap.objs.size := let ⟨_, e⟩ := f2 _ S0.mem2; Heap.lt_size e
  have n1' : s.heap.objs.size ∉ fp1 := fun hm => let ⟨_, e⟩ := f1 _ hm; Nat.lt_irrefl _ (Heap.lt_size e)
  have n2' : s.heap.objs.size ∉ fp2 := fun hm => let ⟨_, e⟩ := f2 _ hm; Nat.lt_irrefl _ (Heap.lt_size e)
  have hA1 : A.in1.handled = none := hh
  have key : ∀ (h : Heap) (c₁ tk : Nat), (∀ b o, b ≠ s.heap.objs.size → (s.heap.push { cls := .type "list", data := .seq #[] }).get? b = some o → h.get? b = some o) →
      h.get? s.heap.objs.size = some { cls := .type "list", dict := none, data := .seq #[] c₁, slots := #[] } → codeAny (model prog w) A.in1 (.builtin "list.extend.loop" ⟨[.ref s.heap.objs.size, .ref z, .none], []⟩) (wants (fun r s₂ => r = .none ∧ Q (.ref s.heap.objs.size) s₂) E) { s with heap := h, toks := tk } := by
    intro h c₁ tk hk hS₁
    have up : ∀ b o, s.heap.get? b = some o → h.get? b = some o := fun b o e => hk b o (Nat.ne_of_lt (Heap.lt_size e)) (Heap.get?_push_of_some _ e)
    refine zp_loop (A := A.in1) (s := s) (h₁ := s.heap) S0 (D1 A.in1.in1.in1 hA1) (D2 A.in1.in1.in1 hA1) lz lTI lTO li1 li2 n1' n2' hn .none (fun h' tk' acc c as hk' hS' hl hG hacc => ⟨rfl, hQ h' tk' acc c as (fun b o b1 b2 b3 b4 e => hk' b o (Nat.ne_of_lt (Heap.lt_size e)) b1 b2 b3 b4 e) hS' hl hG hacc⟩)
      (min n1 n2) 0 h tk c₁ #[] [] (Nat.sub_zero _) (Nat.zero_le _) ⟨up _ _ hTI, (D1 A hh).frame _ _ _ st1 fun b _ o e => up b o e, (D2 A hh).frame _ _ _ st2 fun b _ o e => up b o e, .inl ⟨up _ _ hz, ta, tb, up _ _ hTO⟩⟩
      (fun b o _ _ _ _ _ e => up b o e) hS₁ rfl rfl ⟨List.Pairwise.nil, (fun _ ha => nomatch ha), (fun j a hj => by simp at hj)⟩
  have hzT : ∀ {h : Heap} {g d tk os}, IsZip h z TI TO .none → (⟨h, g, d, tk, os⟩ : Shared).TypeIs (.ref z) "zip" := fun e => ⟨_, e, rfl⟩
  refine ⟨⟨_, hS, rfl⟩, PySem.F.args_list_init_2 _ _, ?_⟩
  show wpAny _ _ (do let old ← Builtin.List.listItems (.ref s.heap.objs.size); Builtin.List.listUpdate (.ref s.heap.objs.size) (fun _ => #[]); letGo old.toList.reverse; Builtin.List.listExtendWith (.ref s.heap.objs.size) (.ref z) .none) _ _ _
  refine wpAny_bind ?_
  unfold Builtin.List.listItems
  refine wpAny_bind (wpAny_seqItems hS rfl (wpAny_pure ?_))
  show wpAny _ _ (updateSeq s.heap.objs.size (fun _ => #[]) >>= fun _ => letGo (#[] : Array Value).toList.reverse >>= fun _ => Builtin.List.listExtendWith (.ref s.heap.objs.size) (.ref z) .none) _ _ _
  refine wpAny_bind (wpAny_updateSeq hS rfl ?_)
  have hS₂ := Heap.get?_update_self (Obj.mapSeq (fun _ => (#[] : Array Value))) hS rfl
  have oth : ∀ b o, b ≠ s.heap.objs.size → (s.heap.push { cls := .type "list", data := .seq #[] }).get? b = some o → ((s.heap.push { cls := .type "list", data := .seq #[] }).update s.heap.objs.size (Obj.mapSeq (fun _ => (#[] : Array Value)))).get? b = some o :=
    fun b o hb e => (Heap.get?_update_other _ _ (Ne.symm hb)).trans e
  refine wpAny_bind (wpAny_letGo ?_)
  have hz₂ := oth z _ (Nat.ne_of_lt lz) (Heap.get?_push_of_some _ hz)
  unfold Builtin.List.listExtendWith
  refine wpAny_bind (wpAny_typeOf (hzT hz₂) ?_)
  have q1 : Builtin.List.listSameRef (.ref s.heap.objs.size) (.ref z) = false := by simp [Builtin.List.listSameRef, Nat.ne_of_gt lz]
  have q2 : (Value.type "zip" == Value.type "list") = false := by decide
  have q3 : (Value.type "zip" == Value.type "tuple") = false := by decide
  simp only [q1, q2, q3, Bool.or_false, Bool.false_eq_true, if_false]
  refine wpAny_bind (wpAny_pyIter_zip hz₂ ?_)
  refine wpAny_bind (wpAny_holding ?_)
  unfold Builtin.List.listLengthHint
  refine wpAny_bind (wpAny_specialOf (hzT hz₂) zip_no_len ?_)
  show wpAny _ _ (specialOf (Value.ref z) (Str.ofString "__length_hint__") >>= _) _ _ _
  refine wpAny_bind (wpAny_specialOf (hzT hz₂) zip_no_hint ?_)
  refine wpAny_pure ?_
  show wpAny _ _ (rule "list.extend.makes-room" >>= fun _ => Builtin.List.listTouch (.ref s.heap.objs.size) >>= fun _ =>
    again (.builtin "list.extend.loop" ⟨[.ref s.heap.objs.size, .ref z, .none], []⟩)) _ _ _
  refine wpAny_bind (wpAny_rule ?_)
  refine wpAny_bind ?_
  show wpAny _ _ (updateSeq s.heap.objs.size (·.push .none) >>= fun _ => updateSeq s.heap.objs.size (·.pop)) _ _ _
  refine wpAny_bind (wpAny_updateSeq hS₂ rfl ?_)
  have hS₃ := Heap.get?_update_self (Obj.mapSeq (·.push Value.none)) hS₂ rfl
  refine wpAny_updateSeq (hz := by seq_fits) hS₃ rfl ?_
  have hS₄ := Heap.get?_update_self (Obj.mapSeq (·.pop)) hS₃ rfl
  refine wpAny_pure ⟨plainId_quiet PySem.F.plain_extend_loop _, key _ _ _ (fun b o hb e => ?_) hS₄⟩
  exact (Heap.get?_update_other _ _ (Ne.symm hb)).trans ((Heap.get?_update_other _ _ (Ne.symm hb)).trans (oth b o hb e))
end
end PySem

/-! list(zip(a, b)), list(d.items()), tuple(d.items()) as data. -/
namespace PySem
open Sem (wp)
open AutoSeq1 (wpAny_loadPart')
open PySem.W
section
variable {prog : Program} {w : World} {K : Type} [DecidableEq K] {knd : KeyKind prog w K}
theorem meets_tuple_new_items (r d : Addr) (kvs : List (K × Value)) (ep : Nat) (hn : kvs.length ≤ sizeLine) :
    MeetsIn prog w (Builtin.«tuple.__new__» ⟨[.type "tuple", .ref r], []⟩)
      (fun A R s => A.handled = none ∧ s.heap.IsItemsView r d ∧ s.heap.DictAt knd d kvs ep ∧ ∀ (h' : Heap) (tk : Nat) (as : List Addr), (∀ b o, s.heap.get? b = some o → h'.get? b = some o) → as.length = kvs.length → KdxG knd kvs s.heap.objs.size h' as →
        R (.ok (.ret (.ref h'.objs.size))) { s with heap := h'.push { cls := .type "tuple", data := .seq (as.map Value.ref).toArray }, toks := tk }) :=
  .of_wp fun A R s h => by
    obtain ⟨hh, hv, hm, h⟩ := h
    have hsub := sub_tuple_self
    have hinit := init_tuple_lookup
    have hmh := madeHere_tuple
    have hT : s.TypeIs (.ref r) "dict_items" := hv.typeIs
    have hh1 : A.in1.handled = none := hh
    have hne : ¬ ((Value.type "dict_items" == Value.type "tuple") = true) := by decide
    have col : ∀ (Q : List Value → Shared → Prop) (E : Value → Shared → Prop), (∀ (h' : Heap) (tk : Nat) (as : List Addr), (∀ b o, s.heap.get? b = some o → h'.get? b = some o) → as.length = kvs.length → KdxG knd kvs s.heap.objs.size h' as → Q (as.map Value.ref) { s with heap := h', toks := tk }) →
        wpAny (model prog w) A.in1 (collect (.ref r)) Q E s := fun Q E hq => kdx_collect (knd := knd) hh1 hv hm hn hq
    wp_walk using wpAny_typeOf hT, col
    intro h' tk as hk hl hG
    show wpAny _ _ (Builtin.Tuple.tupleExact (as.map Value.ref).toArray >>= fun v => ret v) _ _ _
    unfold Builtin.Tuple.tupleExact
    refine wpAny_bind (wpAny_newObj_type ?_ (show (as.map Value.ref).toArray.size ≤ sizeLine by rw [List.size_toArray, List.length_map, hl]; exact hn))
    refine wpAny_pure ⟨_, rfl, ?_⟩
    exact h h' tk as hk hl hG
theorem call_tuple_items {A : Around} {E : Value → Shared → Prop} {s : Shared} {r d : Addr} {kvs : List (K × Value)} {ep : Nat} {Q : Value → Shared → Prop} (hh : A.handled = none) (hv : s.heap.IsItemsView r d) (hm : s.heap.DictAt knd d kvs ep) (hn : kvs.length ≤ sizeLine)
    (h : ∀ (h' : Heap) (tk : Nat) (as : List Addr), (∀ b o, s.heap.get? b = some o → h'.get? b = some o) → as.length = kvs.length → KdxG knd kvs s.heap.objs.size h' as →
      Q (.ref h'.objs.size) { s with heap := h'.push { cls := .type "tuple", data := .seq (as.map Value.ref).toArray }, toks := tk }) :
    wpAny (model prog w) A (call (.type "tuple") [.ref r]) Q E s :=
  callType_newIn F.called_tuple (by decide) (F.typeCall_tuple_1 _) (F.newCall_tuple_1 _) (fun obj => F.args_object_init_2 obj _) F.entry_tuple_new
    (meets_tuple_new_items (knd := knd) r d kvs ep hn) ⟨hh, hv, hm, fun h' tk as hk hl hG => ⟨⟨_, Heap.get?_push_size _ rfl, rfl⟩, h h' tk as hk hl hG⟩⟩
end
end PySem
namespace DL
open PySem PySem.Spec PyProof.Rows L2
/-! ### many new tuples at once -/
def putL : Hp → List Addr → List HO → Hp
  | H, a :: as, t :: ts => putL (upd H a t) as ts
  | H, _, _ => H
theorem putL_off {b : Addr} : ∀ (as : List Addr) (ts : List HO) (H : Hp), b ∉ as → putL H as ts b = H b
  | [], _, _, _ => by unfold putL; rfl
  | _ :: _, [], _, _ => by unfold putL; rfl
  | a :: as, t :: ts, H, h => by
    show putL (upd H a t) as ts b = H b
    rw [putL_off as ts _ (fun z => h (List.mem_cons_of_mem _ z)), upd_ne (fun z => h (by rw [z]; exact List.mem_cons_self))]
theorem putL_at : ∀ (as : List Addr) (ts : List HO) (H : Hp), as.Nodup → ∀ {j : Nat} {a : Addr} {t : HO}, as[j]? = some a → ts[j]? = some t → putL H as ts a = some t
  | [], _, _, _, _, _, _, h, _ => by simp at h
  | _ :: _, [], _, _, _, _, _, _, h => by simp at h
  | a :: as, t :: ts, H, hn, 0, b, u, h1, h2 => by
    simp at h1 h2
    subst h1 h2
    show putL (upd H a t) as ts a = some t
    rw [putL_off as ts _ (List.nodup_cons.mp hn).1, upd_same]
  | a :: as, t :: ts, H, hn, j + 1, b, u, h1, h2 => putL_at as ts (upd H a t) (List.nodup_cons.mp hn).2 (j := j) (by simpa using h1) (by simpa using h2)
theorem Inv.laidP {X : Cx} {pins : List (Addr × Obj)} {σ : L2.St} {H : Hp} {s : Shared} {h' : Heap} {tk : Nat} {as : List Addr} {ts : List HO} {S : Addr} {oS : HO} (I : Inv X pins σ H s) (hk : ∀ b o, s.heap.get? b = some o → h'.get? b = some o)
    (nd : as.Nodup) (ge : ∀ a ∈ as, s.heap.objs.size ≤ a) (hS : s.heap.objs.size ≤ S) (nS : S ∉ as) (hl : ts.length = as.length) (hp : ∀ (j : Nat) (a : Addr) (t : HO), as[j]? = some a → ts[j]? = some t → ∀ H', ObjOk X.prog X.w H' h' a t) (new : ∀ H', ObjOk X.prog X.w H' h' S oS) :
    Inv X pins σ (upd (putL H as ts) S oS) { s with heap := h', toks := tk } := by
  have fresh : ∀ a ∈ as, H a = none := fun a ha => I.hok.fresh (ge a ha)
  have fS : H S = none := I.hok.fresh hS
  have low : ∀ b o, s.heap.get? b = some o → b ∉ as ∧ b ≠ S := fun b o e => ⟨fun z => absurd (Heap.lt_size e) (Nat.not_lt.mpr (ge b z)), Nat.ne_of_lt (Nat.lt_of_lt_of_le (Heap.lt_size e) hS)⟩
  have off : ∀ b, b ∉ as → b ≠ S → upd (putL H as ts) S oS b = H b := fun b h1 h2 => by rw [upd_ne h2, putL_off as ts H h1]
  have kp : ∀ b u, H b = some u → upd (putL H as ts) S oS b = some u := fun b u e => by
    rw [off b (fun z => by rw [fresh b z] at e; cases e) (fun z => by rw [z, fS] at e; cases e)]
    exact e
  refine I.call' (ch := []) rfl ⟨fun b o q _ _ _ => hk b o q, fun b o q _ _ _ => ⟨o.slots, hk b o q⟩, fun b o q n _ => ?_, fun b o q _ => ⟨o, hk b o q⟩, fun b xs q => kp b _ q, fun b o u q => kp b _ q, fun b ps q => ⟨#[], by rw [kp b _ q]; simp⟩⟩ (fun b u q => ?_) I.bare (fun b z => absurd z (by simp))
  · obtain ⟨z1, z2⟩ := low b o q
    rw [off b z1 z2]
    exact n
  · by_cases hb2 : b = S
    · rw [hb2] at q ⊢
      rw [upd_same] at q
      cases q
      exact new _
    · by_cases hb : b ∈ as
      · obtain ⟨j, hj⟩ := List.mem_iff_getElem?.mp hb
        have hjl : j < ts.length := by rw [hl]; exact (List.getElem?_eq_some_iff.mp hj).1
        rw [upd_ne hb2, putL_at as ts H nd hj (show ts[j]? = some ts[j] by simp [hjl])] at q
        cases q
        exact hp j b _ hj (by simp [hjl]) _
      · rw [off b hb hb2] at q
        exact (I.hok b u q).stay (fun d v _ y => hk d v y) (fun d y => kp d _ y) fun d xs y => kp d _ y
theorem Lay.putL {G : GT} {μ : Store} : ∀ {as : List Addr} {ts : List HO} {w : Wd} {H : Hp}, Lay G w μ H → as.Nodup → ts.length = as.length → (∀ a ∈ as, H a = none) →
    ∃ w', w.le w' ∧ Lay G w' μ (DL.putL H as ts) ∧ ∀ (j : Nat) (a : Addr) (t : HO), as[j]? = some a → ts[j]? = some t → w'.I a = some t
  | [], [], w, H, l, _, _, _ => ⟨w, w.le_refl, l, fun j a t h => by simp at h⟩
  | [], _ :: _, _, _, _, _, h, _ => by simp at h
  | _ :: _, [], _, _, _, _, h, _ => by simp at h
  | a :: as, t :: ts, w, H, l, nd, hl, hn => by
    obtain ⟨le, l2⟩ := l.new (hn a List.mem_cons_self) t
    have nd' := List.nodup_cons.mp nd
    obtain ⟨w', le', l3, h3⟩ := Lay.putL (as := as) (ts := ts) l2 nd'.2 (by simpa using hl) fun b hb => by
      rw [upd_ne (fun z : b = a => nd'.1 (by rw [← z]; exact hb))]
      exact hn b (List.mem_cons_of_mem _ hb)
    refine ⟨w', le.trans le', l3, fun j b u h1 h2 => ?_⟩
    cases j with
    | zero =>
      simp at h1 h2
      subst h1 h2
      exact le'.1 _ _ upd_same
    | succ j => exact h3 j b u (by simpa using h1) (by simpa using h2)
/-- new pairs at as, then a new thing of them -/
def rPairs (as : List Addr) (qs : List (V × V)) (Q : List HO → Prop) : Prop := ∀ ts : List HO, ts.length = as.length → (∀ (j : Nat) (t : HO), ts[j]? = some t → ∃ its q, qs[j]? = some q ∧ t = frT its [q.1, q.2]) → Q ts
theorem pairs_rp {K : PySem.W.Frag} {I I' : Hp} (le : Same I I') {ds : List (D × D)} {qs : List (V × V)} {as : List Addr} {ts : List HO} (r : Paired (fun (q : V × V) (d : D × D) => Rp K I q.1 d.1 ∧ Rp K I q.2 d.2) qs ds) (hl : ts.length = as.length) (hq : qs.length = as.length)
    (ht : ∀ (j : Nat) (t : HO), ts[j]? = some t → ∃ its q, qs[j]? = some q ∧ t = frT its [q.1, q.2]) (hI : ∀ (j : Nat) (a : Addr) (t : HO), as[j]? = some a → ts[j]? = some t → I' a = some t) : RpA K I' (as.map V.ref) (ds.map fun p => .tuple [p.1, p.2]) := by
  induction r generalizing as ts with
  | nil =>
    cases as with
    | nil => exact .nil
    | cons _ _ => simp at hq
  | @cons q d qs ds r t ih =>
    cases as with
    | nil => simp at hq
    | cons a as =>
      cases ts with
      | nil => simp at hl
      | cons u ts =>
        obtain ⟨its, q', e1, e2⟩ := ht 0 u rfl
        simp at e1
        subst e1
        have := hI 0 a u rfl rfl
        rw [e2] at this
        exact .cons (.tup (SqS.of this) (.cons (Rp.mono le _ _ r.1) (.cons (Rp.mono le _ _ r.2) .nil))) (ih (by simpa using hl) (by simpa using hq) (fun j t h => ht (j + 1) t (by simpa using h)) (fun j a t h1 h2 => hI (j + 1) a t (by simpa using h1) (by simpa using h2)))
/-! ### list(d.items()), tuple(d.items()) -/
def tItemsL (mk : List Addr → HO → Prop) (te : TE) : TE := fun σ H Q => te σ H fun x H1 => ∃ (d : Addr) (kvs : List (Key × V)), x = .ref d ∧ H1 d = some (.dK kvs) ∧
  ∀ (as : List Addr) (ts : List HO) (S : Addr) (oS : HO), as.Nodup → (∀ a ∈ as, H1 a = none) → H1 S = none → S ∉ as → ts.length = as.length → as.length = kvs.length → (∀ (j : Nat) (t : HO), ts[j]? = some t → ∃ its q, kvs[j]? = some q ∧ t = frT its [kV q.1, q.2]) → mk as oS → Q (.ref S) (upd (putL H1 as ts) S oS)
def mkL (as : List Addr) (o : HO) : Prop := o = .lst (as.map V.ref)
def mkT (as : List Addr) (o : HO) : Prop := ∃ its, o = frT its (as.map V.ref)
section
variable {X : Cx} {e : Expr} {te : TE} {p apos cpos pos : Pos}
theorem vals_refs : ∀ as : List Addr, Vals (as.map V.ref) (as.map Value.ref)
  | [] => .nil
  | _ :: as => .cons rfl (vals_refs as)
theorem KV.at {ks : List (Key × V)} {vs : List (Key × Value)} (r : KV ks vs) : ∀ {j : Nat} {p : Key × Value}, vs[j]? = some p → ∃ v, ks[j]? = some (p.1, v) ∧ RelV v p.2 := by
  unfold KV at r
  induction r with
  | nil => intro j p h; simp at h
  | @cons a b l m r t ih =>
    intro j p h
    cases j with
    | zero =>
      simp at h
      subst h
      obtain ⟨a1, a2⟩ := a
      obtain ⟨e1, e2⟩ := r
      have e1 : a1 = b.1 := e1
      subst e1
      exact ⟨a2, rfl, e2⟩
    | succ j => obtain ⟨v, h1, h2⟩ := ih (by simpa using h); exact ⟨v, by simpa using h1, h2⟩
/-- what the pairs that were made are, as the layer sees them -/
theorem kdx_ts {h' : Heap} {lo : Addr} {kvs : List (Key × V)} {vs : List (Key × Value)} {as : List Addr} (kv : KV kvs vs) (hl : as.length = vs.length) (hG : PySem.W.KdxG (mixKind X.prog X.w) vs lo h' as) :
    ∃ ts : List HO, ts.length = as.length ∧ (∀ (j : Nat) (t : HO), ts[j]? = some t → ∃ its q, kvs[j]? = some q ∧ t = frT its [kV q.1, q.2]) ∧ ∀ (j : Nat) (a : Addr) (t : HO), as[j]? = some a → ts[j]? = some t → ∀ H', ObjOk X.prog X.w H' h' a t := by
  have each : ∀ j (hj : j < as.length), ∃ (its : List Value) (q : Key × V), kvs[j]? = some q ∧ Vals [kV q.1, q.2] its ∧ h'.get? as[j] = some { cls := .type "tuple", data := .seq its.toArray } := fun j hj => by
    obtain ⟨key, k, x, f1, f2, f3⟩ := hG.pairs j as[j] (by simp [hj])
    obtain ⟨v, g1, g2⟩ := KV.at kv f1
    exact ⟨[key, x], (k, v), g1, .cons (mixRel (P := X.prog) (w := X.w) k key f2) (.cons g2 .nil), f3⟩
  refine ⟨(List.range as.length).map fun j => if hj : j < as.length then frT (Classical.choose (each j hj)).toArray [kV (Classical.choose (Classical.choose_spec (each j hj))).1, (Classical.choose (Classical.choose_spec (each j hj))).2] else .tup [], by simp, fun j t h => ?_, fun j a t h1 h2 H' => ?_⟩
  · rw [List.getElem?_map] at h
    by_cases hj : j < as.length
    · have : (List.range as.length)[j]? = some j := by simp [hj]
      rw [this] at h
      simp only [Option.map_some, dif_pos hj, Option.some.injEq] at h
      have sp := Classical.choose_spec (Classical.choose_spec (each j hj))
      exact ⟨_, _, sp.1, h.symm⟩
    · rw [List.getElem?_eq_none (by simp; omega)] at h; cases h
  · have hj : j < as.length := (List.getElem?_eq_some_iff.mp h1).1
    rw [List.getElem?_map] at h2
    have : (List.range as.length)[j]? = some j := by simp [hj]
    rw [this] at h2
    simp only [Option.map_some, dif_pos hj, Option.some.injEq] at h2
    have sp := Classical.choose_spec (Classical.choose_spec (each j hj))
    have ea : as[j] = a := by simpa [hj] using h1
    subst ea
    rw [← h2]
    exact frT_ok (by show 2 ≤ sizeLine; decide) sp.2.1 sp.2.2
theorem pe_itemsC {T : String} {mk : List Addr → HO → Prop} (hT : (T = "list" ∧ mk = mkL) ∨ (T = "tuple" ∧ mk = mkT)) (hc : X.calm = true) (he : PE X e te) (hg : Gl X (Str.ofString T)) (hm : X.mg (Str.ofString T) = none) (hv : bootBuiltins (Str.ofString T) = some (.type T))
    (hn : Str.ofString T ≠ "__name__" := by decide) (hdb : (Str.ofString T == ("__debug__" : Str)) = false := by decide) (hbase : attributeBase e "items" X.env (eval e X.env) = eval e X.env := by rfl) (hline : (apos.endLine == cpos.line) = true := by rfl)
    (hs : starEach [.Call (.Attribute e "items" apos) [] [] cpos] X.env = (false, eval (.Call (.Attribute e "items" apos) [] [] cpos) X.env) :: starEach [] X.env := by rfl) :
    PE X (.Call (.Name (Str.ofString T) p) [.Call (.Attribute e "items" apos) [] [] cpos] [] pos) (tItemsL mk te) := by
  refine ⟨fun pins s σ H Q I hq => ?_⟩
  refine wpAny_Call_Name_kw (ld_blt I hg hm hv ?_ hn hdb)
  refine PyProof.Rows.callWith_type1 ?_ hs rfl
  rw [hs]
  show wpAny _ _ (spliced ((false, eval (.Call (.Attribute e "items" apos) [] [] cpos) X.env) :: backTo pos (starEach [] X.env))) _ _ s
  refine Calls.spliced_cons ?_
  refine wpAny_Call_method (T := "dict") (id := "dict.items") hbase rfl hline F.plainAttrs_dict F.slot_dict_items F.type_dict_items (thn (he.run pins s σ H _ I hq) fun u s1 ⟨x, H1, I1, rx, d, kvs, ex, hd, q⟩ => ?_)
  subst ex
  obtain rfl : u = Value.ref d := rx
  obtain ⟨hz, hs0, vs, kv, hdo⟩ := I1.hok d _ hd
  obtain ⟨ep, hat⟩ := hdo.dictAt
  have lk : kvs.length = vs.length := Paired.length kv
  have I2 : Inv X pins σ H1 { s1 with heap := s1.heap.push { cls := .type "dict_items", data := .fields #[.ref d] } } := I1.kept (t' := s1.toks) fun b ob q => Heap.get?_push_of_some _ q
  refine ⟨hdo.typeIs, hdo.mapOf.noDict, ?_⟩
  show wpAny _ _ (callWith cpos (.builtin "dict.items") [.ref d] [] []) _ X.xe s1
  refine method_meetsIn F.slot_dict_items F.entry_dict_items rfl (PySem.evalArgs_none ⟨rfl, hdo.typeIs, F.args_dict_items_1 _, _, meets_dict_items (mixKind X.prog X.w) d hs0, ⟨vs, hdo⟩, ?_⟩)
  refine Calls.spliced_nil ?_
  rcases hT with ⟨rfl, rfl⟩ | ⟨rfl, rfl⟩
  · refine PySem.W.kdx_call (knd := mixKind X.prog X.w) (kvs := vs) (ep := ep) (I1.ok.hd hc) ⟨_, Heap.get?_push_size _ rfl, rfl, rfl⟩ (hat.push _) (by omega) fun h' tk acc c as hk hS hl hG hacc => ?_
    obtain ⟨ts, t1, t2, t3⟩ := kdx_ts kv hl hG
    have nd : as.Nodup := List.Pairwise.imp (fun {a b} (h : a < b) => Nat.ne_of_lt h) hG.rise
    have J := Inv.laidP (tk := tk) (oS := .lst (as.map V.ref)) I2 hk nd (fun a ha => Nat.le_of_lt (hG.above a ha)) (Nat.le_refl _) (fun z => Nat.lt_irrefl _ (hG.above _ z)) t1 t3 fun H' => ⟨by rw [List.length_map]; omega, acc.toList, c, by rw [hacc]; exact vals_refs as, by rw [Array.toArray_toList]; exact hS⟩
    exact ⟨.ref _, _, J, rfl, q as ts _ _ nd (fun a ha => I2.hok.fresh (Nat.le_of_lt (hG.above a ha))) (I2.hok.fresh (Nat.le_refl _)) (fun z => Nat.lt_irrefl _ (hG.above _ z)) t1 (by omega) t2 rfl⟩
  · refine PySem.call_tuple_items (knd := mixKind X.prog X.w) (kvs := vs) (ep := ep) (I1.ok.hd hc) ⟨_, Heap.get?_push_size _ rfl, rfl, rfl⟩ (hat.push _) (by omega) fun h' tk as hk hl hG => ?_
    obtain ⟨ts, t1, t2, t3⟩ := kdx_ts kv hl hG
    have nd : as.Nodup := List.Pairwise.imp (fun {a b} (h : a < b) => Nat.ne_of_lt h) hG.rise
    have lt : ∀ a ∈ as, a < h'.objs.size := fun a ha => hG.there ha
    have szz : (s1.heap.push { cls := .type "dict_items", data := .fields #[.ref d] }).objs.size ≤ h'.objs.size := by
      have e0 : (s1.heap.push { cls := .type "dict_items", data := .fields #[.ref d] }).get? s1.heap.objs.size = some { cls := .type "dict_items", data := .fields #[.ref d] } := Heap.get?_push_size _ rfl
      have := Heap.lt_size (hk _ _ e0)
      rw [Heap.size_push]
      exact this
    have nS : h'.objs.size ∉ as := fun z => Nat.lt_irrefl _ (lt _ z)
    have J := Inv.laidP (tk := tk) (h' := h'.push { cls := .type "tuple", data := .seq (as.map Value.ref).toArray }) (S := h'.objs.size) (oS := frT (as.map Value.ref).toArray (as.map V.ref)) I2 (fun b o e => Heap.get?_push_of_some _ (hk b o e)) nd (fun a ha => Nat.le_of_lt (hG.above a ha)) szz nS t1
      (fun j a t h1 h2 H' => by
        obtain ⟨its, qq, g1, g2⟩ := t2 j t h2
        have ok := t3 j a t h1 h2 H'
        rw [g2] at ok ⊢
        obtain ⟨g3, z, is, g4, ob, g5, g6⟩ := ok
        exact ⟨Heap.get?_push_of_some _ g3, z, is, g4, ob, Heap.get?_push_of_some _ g5, g6⟩)
      fun H' => frT_ok (by rw [List.length_map]; omega) (vals_refs as) (Heap.get?_push_size _ rfl)
    exact ⟨.ref _, _, J, rfl, q as ts _ _ nd (fun a ha => I2.hok.fresh (Nat.le_of_lt (hG.above a ha))) (I2.hok.fresh szz) nS t1 (by omega) t2 ⟨_, rfl⟩⟩
end
end DL

/-! list(zip(a, b)), list(d.items()), tuple(d.items()): the data. -/
namespace DL
open PySem PySem.Spec PyProof.Rows L2
/-! ### items -/
def itemsD (ds : List (Key × D)) : List D := ds.map fun p => .tuple [kD p.1, p.2]
def dItemsF (f : List D → D) : Op1 := fun x μ => match dpairs x μ with
  | some kvs => match allKD kvs with
    | some ds => if ds.length ≤ sizeLine then .ok (.d (f (itemsD ds))) μ else .bad
    | none => .bad
  | none => .bad
theorem pairR_of {G : GT} {w : Wd} : ∀ {ws : List (Key × V)} {ds : List (Key × D)}, KvR G w ws (ds.map fun p => (p.1, .d p.2)) → Paired (fun (q : V × V) (d : D × D) => Rp G.K w.I q.1 d.1 ∧ Rp G.K w.I q.2 d.2) (ws.map fun p => (kV p.1, p.2)) (ds.map fun p => (kD p.1, p.2))
  | _, [], h => by cases h; exact .nil
  | _, d :: ds, h => by
    cases h with
    | @cons p _ ws _ r t =>
      obtain ⟨k, v⟩ := p
      obtain ⟨e1, e2⟩ := r
      have e1 : k = d.1 := e1
      subst e1
      refine .cons ⟨?_, e2⟩ (pairR_of t)
      show Rp G.K w.I (kV d.1) (kD d.1)
      cases d.1 with
      | inl i => exact .int i
      | inr z => exact .str z
section
variable {X : Cx} {G : GT} {W : WX} {e : Expr} {m : ME} {p apos cpos pos : Pos}
theorem items_fin {w : Wd} {μ : Store} {H : Hp} {σ : L2.St} {Q : VK} {ws : List (Key × V)} {ds : List (Key × D)} {r : D} (l : Lay G w μ H) (rk : KvR G w ws (ds.map fun p => (p.1, .d p.2))) {as : List Addr} {ts : List HO} {S : Addr} {oS : HO} (nd : as.Nodup) (ha : ∀ a ∈ as, H a = none) (hS : H S = none) (nS : S ∉ as)
    (hl : ts.length = as.length) (hn : as.length = ws.length) (ht : ∀ (j : Nat) (t : HO), ts[j]? = some t → ∃ its q, ws[j]? = some q ∧ t = frT its [kV q.1, q.2]) (hr : ∀ I : Hp, I S = some oS → RpA G.K I (as.map V.ref) (itemsD ds) → Rp G.K I (.ref S) r) (pp : Pst G W σ (Rv G) w (.ok (.d r) μ) Q) : Q (.ref S) (upd (putL H as ts) S oS) := by
  obtain ⟨w', le', l2, h3⟩ := Lay.putL l nd hl ha
  have hS' : putL H as ts S = none := by rw [putL_off as ts H nS]; exact hS
  obtain ⟨le2, l3⟩ := l2.new hS' oS
  refine pp _ (.ref S) _ (le'.trans le2) l3 ?_
  have hq := pairR_of rk
  have rr := pairs_rp (as := as) (ts := ts) (I' := (w'.put S oS).I) (le'.1.trans le2.1) hq hl (by rw [List.length_map]; exact hn.symm) (fun j t h => by
    obtain ⟨its, q, e1, e2⟩ := ht j t h
    exact ⟨its, _, by rw [List.getElem?_map, e1]; rfl, e2⟩) (fun j a t h1 h2 => le2.1 _ _ (h3 j a t h1 h2))
  rw [List.map_map] at rr
  exact hr _ upd_same rr
theorem de_itemsL (hc : X.calm = true) (hg : Gl X "list") (hm : X.mg "list" = none) (he : DE X G W e m) (hbase : attributeBase e "items" X.env (eval e X.env) = eval e X.env := by rfl) (hline : (apos.endLine == cpos.line) = true := by rfl)
    (hs : starEach [.Call (.Attribute e "items" apos) [] [] cpos] X.env = (false, eval (.Call (.Attribute e "items" apos) [] [] cpos) X.env) :: starEach [] X.env := by rfl) :
    DE X G W (.Call (.Name "list" p) [.Call (.Attribute e "items" apos) [] [] cpos] [] pos) (e1 (dItemsF .list) m) := by
  refine PE.imp (pe_itemsC (T := "list") (mk := mkL) (.inl ⟨rfl, rfl⟩) hc he hg hm (by decide +kernel) (by decide) (by decide) hbase hline hs) ?_
  rintro σ H Q ⟨w, μ, ρ, hl, hen, pp⟩
  refine tD.seq (k := fun ρ x μ => dItemsF .list x μ) hl hen pp fun w1 μ1 H1 v b l1 lay1 en1 r1 p1 => ?_
  unfold dItemsF at p1
  split at p1
  · rename_i kvs hp
    split at p1
    · rename_i ds hd
      split at p1
      · obtain ⟨a, ws, rfl, h1, h2⟩ := dpairs_ok lay1 r1 hp
        rw [allKD_eq hd] at h2
        refine ⟨a, ws, rfl, h1, fun as ts S oS nd ha hS nS hl hn ht hmk => ?_⟩
        have hmk : oS = .lst (as.map V.ref) := hmk
        subst hmk
        exact items_fin (W := W) (σ := σ) lay1 h2 nd ha hS nS hl hn ht (fun I hI rr => .lst (SqL.of hI) rr) p1
      · exact p1.elim
    · exact p1.elim
  · exact p1.elim
theorem de_itemsT (hc : X.calm = true) (hg : Gl X "tuple") (hm : X.mg "tuple" = none) (he : DE X G W e m) (hbase : attributeBase e "items" X.env (eval e X.env) = eval e X.env := by rfl) (hline : (apos.endLine == cpos.line) = true := by rfl)
    (hs : starEach [.Call (.Attribute e "items" apos) [] [] cpos] X.env = (false, eval (.Call (.Attribute e "items" apos) [] [] cpos) X.env) :: starEach [] X.env := by rfl) :
    DE X G W (.Call (.Name "tuple" p) [.Call (.Attribute e "items" apos) [] [] cpos] [] pos) (e1 (dItemsF .tuple) m) := by
  refine PE.imp (pe_itemsC (T := "tuple") (mk := mkT) (.inr ⟨rfl, rfl⟩) hc he hg hm (by decide +kernel) (by decide) (by decide) hbase hline hs) ?_
  rintro σ H Q ⟨w, μ, ρ, hl, hen, pp⟩
  refine tD.seq (k := fun ρ x μ => dItemsF .tuple x μ) hl hen pp fun w1 μ1 H1 v b l1 lay1 en1 r1 p1 => ?_
  unfold dItemsF at p1
  split at p1
  · rename_i kvs hp
    split at p1
    · rename_i ds hd
      split at p1
      · obtain ⟨a, ws, rfl, h1, h2⟩ := dpairs_ok lay1 r1 hp
        rw [allKD_eq hd] at h2
        refine ⟨a, ws, rfl, h1, fun as ts S oS nd ha hS nS hl hn ht hmk => ?_⟩
        obtain ⟨its, hmk⟩ := hmk
        subst hmk
        exact items_fin (W := W) (σ := σ) lay1 h2 nd ha hS nS hl hn ht (fun I hI rr => .tup (SqS.of hI) rr) p1
      · exact p1.elim
    · exact p1.elim
  · exact p1.elim
end
/-! ### list(zip(a, b)) -/
def tListZip (K : PySem.W.Frag) (ta : TA) : TE := fun σ H Q => ta σ H fun vs H1 => ∃ (c1 c2 : Sc) (xs ys : List V), vs = [c1.v, c2.v] ∧ c1.at K H1 xs ∧ c2.at K H1 ys ∧ xs.length ≤ sizeLine ∧
  ∀ (as : List Addr) (ts : List HO) (S : Addr), as.Nodup → (∀ a ∈ as, H1 a = none) → H1 S = none → S ∉ as → ts.length = as.length → as.length = (xs.zip ys).length → (∀ (j : Nat) (t : HO), ts[j]? = some t → ∃ its q, (xs.zip ys)[j]? = some q ∧ t = frT its [q.1, q.2]) → Q (.ref S) (upd (putL H1 as ts) S (.lst (as.map V.ref)))
theorem prg_ts {P : Program} {w : World} {h' : Heap} {lo : Addr} {xs ys : List V} {P1 P2 : Nat → Value → Prop} {as : List Addr} (hG : PrG P1 P2 lo h' as) (r1 : ∀ j v, P1 j v → ∃ x, xs[j]? = some x ∧ RelV x v) (r2 : ∀ j v, P2 j v → ∃ x, ys[j]? = some x ∧ RelV x v) :
    ∃ ts : List HO, ts.length = as.length ∧ (∀ (j : Nat) (t : HO), ts[j]? = some t → ∃ its q, (xs.zip ys)[j]? = some q ∧ t = frT its [q.1, q.2]) ∧ ∀ (j : Nat) (a : Addr) (t : HO), as[j]? = some a → ts[j]? = some t → ∀ H', ObjOk P w H' h' a t := by
  have each : ∀ j (hj : j < as.length), ∃ (its : List Value) (q : V × V), (xs.zip ys)[j]? = some q ∧ Vals [q.1, q.2] its ∧ h'.get? as[j] = some { cls := .type "tuple", data := .seq its.toArray } := fun j hj => by
    obtain ⟨x, y, f1, f2, f3⟩ := hG.pairs j as[j] (by simp [hj])
    obtain ⟨u, g1, g2⟩ := r1 _ _ f1
    obtain ⟨v, g3, g4⟩ := r2 _ _ f2
    exact ⟨[x, y], (u, v), List.getElem?_zip_eq_some.mpr ⟨g1, g3⟩, .cons g2 (.cons g4 .nil), f3⟩
  refine ⟨(List.range as.length).map fun j => if hj : j < as.length then frT (Classical.choose (each j hj)).toArray [(Classical.choose (Classical.choose_spec (each j hj))).1, (Classical.choose (Classical.choose_spec (each j hj))).2] else .tup [], by simp, fun j t h => ?_, fun j a t h1 h2 H' => ?_⟩
  · rw [List.getElem?_map] at h
    by_cases hj : j < as.length
    · have : (List.range as.length)[j]? = some j := by simp [hj]
      rw [this] at h
      simp only [Option.map_some, dif_pos hj, Option.some.injEq] at h
      have sp := Classical.choose_spec (Classical.choose_spec (each j hj))
      exact ⟨_, _, sp.1, h.symm⟩
    · rw [List.getElem?_eq_none (by simp; omega)] at h; cases h
  · have hj : j < as.length := (List.getElem?_eq_some_iff.mp h1).1
    rw [List.getElem?_map] at h2
    have : (List.range as.length)[j]? = some j := by simp [hj]
    rw [this] at h2
    simp only [Option.map_some, dif_pos hj, Option.some.injEq] at h2
    have sp := Classical.choose_spec (Classical.choose_spec (each j hj))
    have ea : as[j] = a := by simpa [hj] using h1
    subst ea
    rw [← h2]
    exact frT_ok (by show 2 ≤ sizeLine; decide) sp.2.1 sp.2.2
theorem pe_listZip {X : Cx} {e e2 : Expr} {ta : TA} {p p2 pos pos2 : Pos} (hc : X.calm = true) (hgd : Gl X "list") (hmd : X.mg "list" = none) (hg : Gl X "zip") (hm : X.mg "zip" = none) (ha : PA X [e, e2] ta)
    (hs : starEach [e, e2] X.env = (false, eval e X.env) :: starEach [e2] X.env := by rfl) (hpl : (backTo pos (starEach [e2] X.env)).any (·.1) = false := by rfl)
    (hs2 : starEach [.Call (.Name "zip" p) [e, e2] [] pos] X.env = (false, eval (.Call (.Name "zip" p) [e, e2] [] pos) X.env) :: starEach [] X.env := by rfl) (hpl2 : (backTo pos2 (starEach [] X.env)).any (·.1) = false := by rfl) :
    PE X (.Call (.Name "list" p2) [.Call (.Name "zip" p) [e, e2] [] pos] [] pos2) (tListZip X.K ta) := by
  refine ⟨fun pins s σ H Q I h => ?_⟩
  have bd : bootBuiltins "list" = some (.type "list") := by decide +kernel
  refine Call_ (ld_blt I hgd hmd bd (PyProof.Rows.callWith_type1 ?_ hs2 hpl2))
  refine Calls.spliced_cons ?_
  refine Call_ (ld_blt I hg hm PyProof.Rows.boot_zip (PyProof.Rows.callWith_type1 (thn (ha.run pos pins s σ H _ I h) fun us s1 ⟨vs, H1, I1, r1, q1⟩ => ?_) hs hpl))
  obtain ⟨c1, c2, xs, ys, ex, a1, a2, hkz, q⟩ := q1
  subst ex
  cases r1 with
  | cons r rr =>
    cases rr with
    | cons r' rr =>
      cases rr
      obtain ⟨o1, H1', B1, b1, k1, _⟩ := Sc.begins I1 a1 r
      obtain ⟨o2, H2', B2, b2, k2, _⟩ := Sc.begins I1 a2 r'
      have lt1 : ∀ a, c1.src = some a → a < s1.heap.objs.size := fun a e => Sc.src_lt I1 a1 e
      have lt2 : ∀ a, c2.src = some a → a < s1.heap.objs.size := fun a e => Sc.src_lt I1 a2 e
      refine zip_begins2 B1 B2 b1 b2 fun h' hz hTI hTO h1 h2 hsz hk => ?_
      have g1 : ∀ b, s1.heap.objs.size < b → b ∉ c1.fp s1.heap.objs.size := fun b hb hm => by
        rcases Sc.fp_mem hm with e | e
        · exact absurd e (Nat.ne_of_gt hb)
        · exact absurd (lt1 b e) (Nat.not_lt_of_gt hb)
      have g2 : ∀ b, s1.heap.objs.size ≤ b → b ≠ s1.heap.objs.size + 1 → b ∉ c2.fp (s1.heap.objs.size + 1) := fun b hb hne hm => by
        rcases Sc.fp_mem hm with e | e
        · exact absurd e hne
        · exact absurd (lt2 b e) (Nat.not_lt_of_ge hb)
      have S : ZipSep2 (s1.heap.objs.size + 4) (s1.heap.objs.size + 2) (s1.heap.objs.size + 3) s1.heap.objs.size (s1.heap.objs.size + 1) (c1.fp s1.heap.objs.size) (c2.fp (s1.heap.objs.size + 1)) := by
        generalize s1.heap.objs.size = n at *
        exact ⟨by simp, by simp, by simp, by simp, Sc.mem_fp, g1 _ (by omega), g1 _ (by omega), by simp, Sc.mem_fp, g2 _ (by omega) (by simp), g2 _ (by omega) (by simp), g2 _ (Nat.le_refl _) (by simp), g1 _ (by omega)⟩
      obtain ⟨P1, St1, D1, i1, t1, e1, _⟩ := Sc.drawsA I1 (it := s1.heap.objs.size) a1 (Sc.apart_of fun a e => Nat.ne_of_lt (lt1 a e))
      obtain ⟨P2, St2, D2, i2, t2, e2, _⟩ := Sc.drawsA I1 (it := s1.heap.objs.size + 1) a2 (Sc.apart_of fun a e => Nat.ne_of_lt (Nat.lt_succ_of_lt (lt2 a e)))
      refine Calls.spliced_nil ?_
      have s1' := i1 _ hk (k1 _ _ h1)
      have s2' := i2 _ hk (k2 _ _ h2)
      have I2 : Inv X pins σ H1 { s1 with heap := h' } := I1.kept (t' := s1.toks) hk
      refine PySem.call_list_zip (I1.ok.hd hc) S D1 D2 hz hTI ⟨_, _, hTO⟩ s1' s2' (t1 _ s1') (t2 _ s2') (Nat.le_trans (Nat.min_le_left _ _) hkz) fun h'' tk acc c as hkk hL hl hG hacc => ?_
      have keep : ∀ b o, s1.heap.get? b = some o → h''.get? b = some o := fun b o e => by
        have hb := Heap.lt_size e
        refine hkk b o (fun q => ?_) (fun q => ?_) (fun q => ?_) (fun q => ?_) (hk b o e) <;> rw [q] at hb <;> exact absurd hb (Nat.not_lt_of_ge (by first | exact Nat.le_refl _ | exact Nat.le_add_right _ _))
      have hle : s1.heap.objs.size ≤ h'.objs.size := by omega
      have nd : as.Nodup := List.Pairwise.imp (fun {a b} (h : a < b) => Nat.ne_of_lt h) hG.rise
      have ge : ∀ a ∈ as, s1.heap.objs.size ≤ a := fun a ha => Nat.le_trans hle (Nat.le_of_lt (hG.above a ha))
      have nS : h'.objs.size ∉ as := fun z => Nat.lt_irrefl _ (hG.above _ z)
      have hlz : as.length = (xs.zip ys).length := by rw [List.length_zip]; exact hl
      obtain ⟨ts, u1, u2, u3⟩ := prg_ts (P := X.prog) (w := X.w) hG e1 e2
      have J := Inv.laidP (tk := tk) (S := h'.objs.size) (oS := .lst (as.map V.ref)) I1 keep nd ge hle nS u1 u3 fun H' => ⟨by rw [List.length_map, hl]; exact Nat.le_trans (Nat.min_le_left _ _) hkz, acc.toList, c, by rw [hacc]; exact vals_refs as, by rw [Array.toArray_toList]; exact hL⟩
      exact ⟨.ref h'.objs.size, _, J, rfl, q as ts _ nd (fun a ha => I1.hok.fresh (ge a ha)) (I1.hok.fresh hle) nS u1 hlz u2⟩
def dListZip : OpN := fun bs μ => match bs with
  | [x, y] => match srcD x, srcD y with
    | some ds, some es => if ds.length ≤ sizeLine then .ok (.d (.list ((ds.zip es).map fun p => .tuple [p.1, p.2]))) μ else .bad
    | _, _ => .bad
  | _ => .bad
section
variable {X : Cx} {G : GT} {W : WX} {mas : MA} {a b : Expr} {p p2 pos pos2 : Pos}
theorem zipR {K : PySem.W.Frag} {I : Hp} : ∀ {xs ys : List V} {ds es : List D}, RpA K I xs ds → RpA K I ys es → Paired (fun (q : V × V) (d : D × D) => Rp K I q.1 d.1 ∧ Rp K I q.2 d.2) (xs.zip ys) (ds.zip es)
  | [], _, [], _, _, _ => by simp; exact .nil
  | _ :: _, [], _ :: _, [], _, _ => .nil
  | _ :: _, _ :: _, _ :: _, _ :: _, .cons a t, .cons b u => .cons ⟨a, b⟩ (zipR t u)
theorem de_listZip (hK : X.K = G.K) (hc : X.calm = true) (hgd : Gl X "list") (hmd : X.mg "list" = none) (hg : Gl X "zip") (hm : X.mg "zip" = none) (ha : DA X G W [a, b] mas)
    (hs : starEach [a, b] X.env = (false, eval a X.env) :: starEach [b] X.env := by rfl) (hpl : (backTo pos (starEach [b] X.env)).any (·.1) = false := by rfl)
    (hs2 : starEach [.Call (.Name "zip" p) [a, b] [] pos] X.env = (false, eval (.Call (.Name "zip" p) [a, b] [] pos) X.env) :: starEach [] X.env := by rfl) (hpl2 : (backTo pos2 (starEach [] X.env)).any (·.1) = false := by rfl) :
    DE X G W (.Call (.Name "list" p2) [.Call (.Name "zip" p) [a, b] [] pos] [] pos2) (eN dListZip mas) := by
  refine PE.imp (pe_listZip hc hgd hmd hg hm ha hs hpl hs2 hpl2) ?_
  rintro σ H Q ⟨w, μ, ρ, hl, he, pp⟩
  refine tD.seq (k := fun ρ xs μ => dListZip xs μ) hl he pp fun w1 μ1 H1 v bs l1 lay1 en1 r1 p1 => ?_
  unfold dListZip at p1
  split at p1
  · split at p1
    · rename_i ds es q1 q2
      split at p1
      · rename_i hz
        cases r1 with
        | cons r t =>
          cases t with
          | cons r' t =>
            cases t
            obtain ⟨c1, xs, rfl, h1, k1⟩ := src_ok r q1
            obtain ⟨c2, ys, rfl, h2, k2⟩ := src_ok r' q2
            refine ⟨c1, c2, xs, ys, rfl, by rw [hK]; exact Sc.mono lay1.same h1, by rw [hK]; exact Sc.mono lay1.same h2, by rw [k1.length]; exact hz, fun as ts S nd ha hS nS hl hn ht => ?_⟩
            obtain ⟨w', le', l2, h3⟩ := Lay.putL lay1 nd hl ha
            have hS' : putL H1 as ts S = none := by rw [putL_off as ts H1 nS]; exact hS
            obtain ⟨le2, l3⟩ := l2.new hS' (.lst (as.map V.ref))
            refine p1 _ (.ref S) _ (le'.trans le2) l3 ?_
            exact .lst (SqL.of upd_same) (pairs_rp (as := as) (ts := ts) (I' := (w'.put S (.lst (as.map V.ref))).I) (le'.1.trans le2.1) (zipR k1 k2) hl hn.symm ht (fun j a t h1 h2 => le2.1 _ _ (h3 j a t h1 h2)))
      · exact p1.elim
    · exact p1.elim
  · exact p1.elim
/-! ### dict(zip(a, b)) -/
def keysZ : List D → Option (List Key)
  | [] => some []
  | d :: r => match keyOf d, keysZ r with
    | some k, some ks => some (k :: ks)
    | _, _ => none
theorem keysZ_ok {K : PySem.W.Frag} {I : Hp} : ∀ {ds : List D} {ks : List Key} {vs : List V}, keysZ ds = some ks → RpA K I vs ds → vs = ks.map kV ∧ ks.length = ds.length
  | [], _, _, h, r => by cases h; cases r; exact ⟨rfl, rfl⟩
  | d :: ds, ks, _, h, r => by
    unfold keysZ at h
    cases hk : keyOf d with
    | none => rw [hk] at h; cases h
    | some k =>
      cases hr : keysZ ds with
      | none => rw [hk, hr] at h; cases h
      | some l =>
        rw [hk, hr] at h
        cases h
        cases r with
        | cons a t =>
          rw [keyOf_eq hk] at a
          obtain ⟨e1, e2⟩ := keysZ_ok hr t
          exact ⟨by rw [rp_key a, e1]; rfl, by simp [e2]⟩
def isSeqDv : Dv → Bool
  | .d (.list _) => true
  | .d (.tuple _) => true
  | _ => false
def dZipF (fin : List (Key × D) → Store → Out Dv) : OpN := fun bs μ => match bs with
  | [x, y] => match srcD x, srcD y with
    | some ds, some es => match keysZ ds with
      | some ks => if isSeqDv y = true ∧ (ks.take es.length).Nodup ∧ ks.length ≤ sizeLine then fin (ks.zip es) μ else .bad
      | none => .bad
    | _, _ => .bad
  | _ => .bad
/-- frozen, or a cell -/
def finDat (kvs : List (Key × D)) (μ : Store) : Out Dv := .ok (.d (dicOf kvs)) μ
def finCel (kvs : List (Key × D)) (μ : Store) : Out Dv := .ok (.c μ.length) (μ ++ [.dic (kvs.map fun p => (p.1, .d p.2))])
theorem RpA.nth {K : PySem.W.Frag} {I : Hp} {vs : List V} {ds : List D} (r : RpA K I vs ds) : vs.length = ds.length := r.length
theorem zipK {K : PySem.W.Frag} {I : Hp} : ∀ {ks : List Key} {ys : List V} {es : List D}, RpA K I ys es → RpK K I (ks.zip ys) ((ks.zip es).map fun p => (kD p.1, p.2)) ∧ (ks.zip ys).map Prod.fst = (ks.zip es).map Prod.fst
  | [], _, _, _ => ⟨.nil, rfl⟩
  | _ :: _, _, _, .nil => ⟨.nil, rfl⟩
  | k :: ks, _, _, .cons a t => by
    obtain ⟨h1, h2⟩ := zipK (ks := ks) t
    exact ⟨.cons a h1, by simp only [List.zip_cons_cons, List.map_cons, h2]⟩
def OkZf (G : GT) (fin : List (Key × D) → Store → Out Dv) : Prop := ∀ (W : WX) (σ : L2.St) (w : Wd) (μ : Store) (H : Hp) (p : Addr) (ws : List (Key × V)) (kvs : List (Key × D)) (Q : VK), Lay G w μ H → H p = none → RpK G.K w.I ws (kvs.map fun p => (kD p.1, p.2)) → ws.map Prod.fst = kvs.map Prod.fst → Pst G W σ (Rv G) w (fin kvs μ) Q → Q (.ref p) (upd H p (.dK ws))
theorem ok_finDat : OkZf G finDat := fun W σ w μ H p ws kvs Q l nq g3 g4 pp => by
  obtain ⟨le, lay⟩ := l.new nq (.dK ws)
  exact pp _ _ _ le lay (.dic (kvs := ws) upd_same (RpK.mono le.1 _ _ g3))
theorem ok_finCel : OkZf G finCel := fun W σ w μ H p ws kvs Q l nq g3 g4 pp => by
  obtain ⟨n1, n2, n3⟩ := l.na nq
  have kr := KvR_of_RpK g3 g4
  have le0 : w.le (w.ext p) := ⟨Same.refl _, List.prefix_append _ _, Same.refl _⟩
  obtain ⟨le, lay⟩ := l.cell nq (o := .dK ws) (c := .dic (kvs.map fun p => (p.1, .d p.2))) fun H' e => ⟨n1, ws, e, KvR.mono le0 kr⟩
  exact pp _ _ _ le lay ⟨p, by show (w.α ++ [p])[μ.length]? = some p; rw [← l.len]; simp, rfl⟩
theorem de_dictZip {fin : List (Key × D) → Store → Out Dv} (hf : OkZf G fin) (hK : X.K = G.K) (hc : X.calm = true) (hgd : Gl X "dict") (hmd : X.mg "dict" = none) (hg : Gl X "zip") (hm : X.mg "zip" = none) (ha : DA X G W [a, b] mas)
    (hs : starEach [a, b] X.env = (false, eval a X.env) :: starEach [b] X.env := by rfl) (hpl : (backTo pos (starEach [b] X.env)).any (·.1) = false := by rfl)
    (hs2 : starEach [.Call (.Name "zip" p) [a, b] [] pos] X.env = (false, eval (.Call (.Name "zip" p) [a, b] [] pos) X.env) :: starEach [] X.env := by rfl) (hpl2 : (backTo pos2 (starEach [] X.env)).any (·.1) = false := by rfl) :
    DE X G W (.Call (.Name "dict" p2) [.Call (.Name "zip" p) [a, b] [] pos] [] pos2) (eN (dZipF fin) mas) := by
  refine PE.imp (pe_dictZip hc hgd hmd hg hm ha hs hpl hs2 hpl2) ?_
  rintro σ H Q ⟨w, μ, ρ, hl, he, pp⟩
  refine tD.seq (k := fun ρ xs μ => dZipF fin xs μ) hl he pp fun w1 μ1 H1 v bs l1 lay1 en1 r1 p1 => ?_
  unfold dZipF at p1
  split at p1
  · rename_i x y
    split at p1
    · rename_i ds es q1 q2
      split at p1
      · rename_i ks qk
        by_cases hz : isSeqDv y = true ∧ (ks.take es.length).Nodup ∧ ks.length ≤ sizeLine
        · rw [if_pos hz] at p1
          cases r1 with
          | cons r t =>
            cases t with
            | cons r' t =>
              cases t
              obtain ⟨c1, xs, rfl, h1, k1⟩ := src_ok r q1
              obtain ⟨c2, ys, rfl, h2, k2⟩ := src_ok r' q2
              obtain ⟨ex, el⟩ := keysZ_ok qk k1
              subst ex
              have hsrc : c2.src.isSome = true := by
                cases c2 with
                | li a => rfl
                | tu a => rfl
                | tx z =>
                  exfalso
                  have r' : Rv G w1 (.str z) y := r'
                  cases y with
                  | d yy => cases yy <;> first | (simp [isSeqDv] at hz; done) | (cases r')
                  | _ => simp [isSeqDv] at hz
              refine ⟨c1, c2, ks, ys, rfl, hsrc, by rw [hK]; exact Sc.mono lay1.same h1, by rw [hK]; exact Sc.mono lay1.same h2, by rw [k2.length]; exact hz.2.1, hz.2.2, fun q nq => ?_⟩
              obtain ⟨g3, g4⟩ := zipK (ks := ks) k2
              exact hf W σ w1 μ1 H1 q (ks.zip ys) (ks.zip es) Q lay1 nq g3 g4 p1
        · rw [if_neg hz] at p1; exact p1.elim
      · exact p1.elim
    · exact p1.elim
  · exact p1.elim
end
end DL

/-! d.update(x), x a dict or pairs; tables of defs; a call of a local name that holds a def. -/
namespace DL
open PySem PySem.Spec PyProof.Rows L2
theorem pair_arg {X : Cx} {pins : List (Addr × Obj)} {σ : L2.St} {H : Hp} {s : Shared} {a : Addr} {ps : List Addr} {kvs : List (Key × V)} (I : Inv X pins σ H s) (hq : SqL X.K H a (ps.map V.ref) ∨ SqS X.K H a (ps.map V.ref)) (hp : Paired (fun p kv => SqT X.K H p [kV kv.1, kv.2]) ps kvs) :
    ∃ (T : String) (n : Nat) (Rel : Nat → Value → Value → Prop) (OK : Heap → Prop) (fp : List Addr) (prs : List (Key × Value)), KV kvs prs ∧ PairArg X.prog X.w T a fp [] n Rel OK ∧ OK s.heap ∧ PairsHave (mixKind X.prog X.w) n Rel prs ∧ n ≤ sizeLine ∧ ∀ b ∈ fp, b = a ∨ b ∈ ps := by
  obtain ⟨prs, rel, hl, hpr⟩ := pairs_of I hp
  have hkl : kvs.length = prs.length := rel.length
  obtain ⟨us, hus⟩ : ∃ us : List (Value × Value), us.length = prs.length ∧ ∀ (j : Nat) (q' : Key × Value), prs[j]? = some q' → ∃ (b : Addr) (u : Value), ps[j]? = some b ∧ us[j]? = some (u, q'.2) ∧ IsTup s.heap b #[u, q'.2] ∧ keyIs q'.1 u = true := by
    clear rel hkl
    induction prs generalizing ps kvs with
    | nil => exact ⟨[], rfl, fun j q' e => by simp at e⟩
    | cons q0 prs ih =>
      obtain ⟨b0, u0, e1, e2, e3⟩ := hpr 0 q0 rfl
      cases ps with
      | nil => simp at e1
      | cons p0 ps =>
        have e1 : p0 = b0 := by simpa using e1
        subst e1
        cases hp with
        | @cons _ kv _ kvs hp1 hp2 =>
          have hqq : ∀ (j : Nat) (q : Key × Value), prs[j]? = some q → ∃ (b : Addr) (u : Value), ps[j]? = some b ∧ IsTup s.heap b #[u, q.2] ∧ keyIs q.1 u = true := fun j q e => by
            obtain ⟨b, u, g1, g2, g3⟩ := hpr (j + 1) q (by simpa using e)
            exact ⟨b, u, by simpa using g1, g2, g3⟩
          obtain ⟨us, h1, h2⟩ : ∃ us : List (Value × Value), us.length = prs.length ∧ ∀ (j : Nat) (q' : Key × Value), prs[j]? = some q' → ∃ (b : Addr) (u : Value), ps[j]? = some b ∧ us[j]? = some (u, q'.2) ∧ IsTup s.heap b #[u, q'.2] ∧ keyIs q'.1 u = true := by
            clear ih
            refine ⟨prs.mapIdx fun j q' => (Classical.epsilon fun u => ∃ b, ps[j]? = some b ∧ IsTup s.heap b #[u, q'.2] ∧ keyIs q'.1 u = true, q'.2), by simp, fun j q' e => ?_⟩
            obtain ⟨b, u, g1, g2, g3⟩ := hqq j q' e
            have hex : ∃ u b, ps[j]? = some b ∧ IsTup s.heap b #[u, q'.2] ∧ keyIs q'.1 u = true := ⟨u, b, g1, g2, g3⟩
            obtain ⟨b', k1, k2, k3⟩ := Classical.epsilon_spec hex
            exact ⟨b', _, k1, by simp [e], k2, k3⟩
          refine ⟨(u0, q0.2) :: us, by simp [h1], fun j q' e => ?_⟩
          cases j with
          | zero =>
            have e : q0 = q' := by simpa using e
            subst e
            exact ⟨p0, u0, rfl, rfl, e2, e3⟩
          | succ j =>
            obtain ⟨b, u, g1, g2, g3⟩ := h2 j q' (by simpa using e)
            exact ⟨b, u, by simpa using g1, by simpa using g2, g3⟩
  obtain ⟨hul, hu⟩ := hus
  have have' : PairsHave (mixKind X.prog X.w) us.length (PairRel us) prs := ⟨hul.symm, fun i key v hr => by
    have hi : i < prs.length := by rw [← hul]; exact (List.getElem?_eq_some_iff.mp hr).1
    obtain ⟨b, u, g1, g2, g3, g4⟩ := hu i prs[i] (by simp [hi])
    have hr : us[i]? = some (key, v) := hr
    rw [g2] at hr
    cases hr
    exact ⟨prs[i].1, by simp [hi], g4⟩⟩
  have items : ∀ its : List Value, Vals (ps.map V.ref) its → PairItems s.heap its.toArray (fun j => (ps[j]?).getD 0) us := fun its rv => by
    have ei := refs_at rv
    subst ei
    refine ⟨by simp [hl, hul], fun j k v hj => ?_⟩
    have hi : j < prs.length := by rw [← hul]; exact (List.getElem?_eq_some_iff.mp hj).1
    obtain ⟨b, u, g1, g2, g3, g4⟩ := hu j prs[j] (by simp [hi])
    rw [g2] at hj
    cases hj
    refine ⟨by simp [g1], .inl ?_⟩
    show IsTup s.heap ((ps[j]?).getD 0) _
    rw [g1]
    exact g3
  have mem : ∀ b ∈ a :: (List.range us.length).map (fun j => (ps[j]?).getD 0), b = a ∨ b ∈ ps := fun b hb => by
    rcases List.mem_cons.mp hb with e | hb
    · exact .inl e
    · obtain ⟨j, hj, e⟩ := List.mem_map.mp hb
      have hj : j < us.length := List.mem_range.mp hj
      have hj2 : j < ps.length := by omega
      refine .inr ?_
      rw [← e]
      simp [hj2]
  rcases hq with hq | hq
  · obtain ⟨its, rv, pl, hz⟩ := I.list hq
    obtain ⟨o, n, ho, hc, hd, hdt⟩ := pl
    rw [List.length_map, ← hl] at hz
    exact ⟨_, _, _, _, _, prs, rel, PairArg.list a its.toArray (fun j => (ps[j]?).getD 0) us, ⟨⟨o, n, ho, hc, hd, hdt⟩, items its rv⟩, have', by rw [hul]; exact hz, mem⟩
  · obtain ⟨its, rv, pl, hz⟩ := plain_tup I hq
    rw [List.length_map, ← hl] at hz
    exact ⟨_, _, _, _, _, prs, rel, PairArg.tuple a its.toArray (fun j => (ps[j]?).getD 0) us, ⟨pl, items its rv⟩, have', by rw [hul]; exact hz, mem⟩
/-! ### d.update(x) -/
def rUpd (K : PySem.W.Frag) : V → List V → Hp → VK → Prop := fun x ys H Q => ∃ (a b : Addr) (ws more : List (Key × V)), x = .ref a ∧ ys = [.ref b] ∧ H a = some (.dK ws) ∧ ws.length + more.length ≤ sizeLine ∧ Q .non (upd H a (.dK (mergeK ws more))) ∧
  ((b ≠ a ∧ H b = some (.dK more)) ∨ ∃ ps : List Addr, (SqL K H b (ps.map V.ref) ∨ SqS K H b (ps.map V.ref)) ∧ Paired (fun p kv => SqT K H p [kV kv.1, kv.2]) ps more)
theorem lenKV {X : Cx} {ws more : List (Key × V)} : (mergeK ws more).length ≤ ws.length + more.length := by rw [Nat.add_comm]; first | exact length_mergeK more ws | (rw [Nat.add_comm]; exact length_mergeK more ws)
theorem mt_upd {X : Cx} (hcalm : X.calm = true) : MtR X "dict.update" (rUpd X.K) := by
  intro pins s σ H x ys v us Q I rx ry h
  obtain ⟨a, b, ws, more, rfl, rfl, ha, hz, q, alt⟩ := h
  cases rx
  obtain ⟨u, eu, rb⟩ := vals1 ry
  subst eu
  cases rb
  obtain ⟨hz1, hsys, vs, kv, dd⟩ := dk_of I.hok ha
  have lw : ws.length = vs.length := Paired.length kv
  have fin : ∀ (prs : List (Key × Value)) (h' : Heap) (tk : Nat), KV more prs → h'.DictOf (mixKind X.prog X.w) a (merged vs prs) → (∀ c o, c ≠ a → s.heap.get? c = some o → h'.get? c = some o) → EP X pins σ Q .none { s with heap := h', toks := tk } := fun prs h' tk rel hd' hk => by
    have hd2 := KV.merge rel kv
    refine ⟨.non, _, I.write (x := a) (e := a) (t' := tk) (by rw [ha]; exact True.intro) (.inl rfl) hk (let ⟨o, _, _, e, _⟩ := hd'; ⟨o, e⟩) (show ObjOk X.prog X.w _ _ _ (.dK (mergeK ws more)) from ⟨Nat.le_trans (lenKV (X := X)) hz, hsys, _, hd2, hd'⟩), rfl, q⟩
  rcases alt with ⟨hne, hb⟩ | ⟨ps, hq, hp⟩
  · obtain ⟨hz2, hsys2, vs2, kv2, dd2⟩ := dk_of I.hok hb
    have l2 : more.length = vs2.length := Paired.length kv2
    exact call_meetsIn PySem.F.slot_dict_update dd.typeIs PySem.F.entry_dict_update (PySem.F.args_dict_update_2 _ _) (meets_dict_update (mixKind X.prog X.w) a b (Ne.symm hne) hsys2)
      ⟨vs, vs2, dd, dd2, by rw [← lw, ← l2]; exact hz, fun h' hm1 _ sb => fin vs2 h' s.toks kv2 hm1 fun c o hc e => sb.extBut c o hc e⟩
  · obtain ⟨T, n, Rel, OK, fp, prs, rel, P, ok, hh, hn, mem⟩ := pair_arg I hq hp
    have lp : more.length = prs.length := Paired.length rel
    have nk : ∀ {c : Addr} {o : Obj}, X.K.lookup c = some o → H c = none := fun {c o} e => (I.bs c o (I.ok.mod.kin c o e)).2
    have nf : a ∉ fp := fun hm => by
      rcases mem a hm with e | hm
      · subst e
        rcases hq with ((e | ⟨o, e⟩) | ⟨o, its, m, e, _⟩) | (⟨o, e, _⟩ | ⟨o, its, m, e, _⟩)
        · rw [ha] at e; cases e
        · rw [ha] at e; cases e
        · rw [nk e] at ha; cases ha
        · rw [ha] at e; cases e
        · rw [nk e] at ha; cases ha
      · obtain ⟨j, hj⟩ := List.mem_iff_getElem?.mp hm
        obtain ⟨kv', e1, e2⟩ : ∃ kv', more[j]? = some kv' ∧ SqT X.K H a [kV kv'.1, kv'.2] := by
          clear rel lp P ok hh hn mem fin q hz hq hm
          induction hp generalizing j with
          | nil => simp at hj
          | @cons p k ps ks r t ih =>
            cases j with
            | zero => simp at hj; subst hj; exact ⟨k, rfl, r⟩
            | succ j => obtain ⟨kv', e1, e2⟩ := ih j (by simpa using hj); exact ⟨kv', by simpa using e1, e2⟩
        rcases e2 with (e | ⟨o, e⟩) | ⟨o, its, m, e, _⟩
        · rw [ha] at e; cases e
        · rw [ha] at e; cases e
        · rw [nk e] at ha; cases ha
    have hpl : prs.length = n := hh.1
    exact PySem.call_update_pairs P (I.ok.hd hcalm) ok nf hh dd (by omega) fun h' tk hd' hk => fin prs h' tk rel hd' fun c o hc e => hk c o hc (fun z => nomatch z) e
/-- putD one by one -/
def mergeD (kvs more : List (Key × Dv)) : List (Key × Dv) := more.foldl (fun acc p => putD acc p.1 p.2) kvs
theorem mergeD_ok {G : GT} {w : Wd} {ms : List (Key × V)} {more : List (Key × Dv)} (r : KvR G w ms more) : ∀ {ws : List (Key × V)} {kvs : List (Key × Dv)}, KvR G w ws kvs → KvR G w (mergeK ws ms) (mergeD kvs more) := by
  induction r with
  | nil => intro ws kvs h; exact h
  | @cons p q ms more r t ih =>
    intro ws kvs h
    obtain ⟨k, v⟩ := p
    obtain ⟨k', b⟩ := q
    obtain ⟨e1, e2⟩ := r
    have e1 : k = k' := e1
    subst e1
    exact ih (putD_ok h k e2)
/-- what may be handed to update: pairs, or a dict that isn't the receiver -/
def updSrc (i : Nat) (y : Dv) (μ : Store) : Option (List (Key × Dv)) := match seqD y μ with
  | some ds => (pairsD ds).map fun l => l.map fun p => (p.1, .d p.2)
  | none => match y with
    | .c j => if i = j then none else dpairs (.c j) μ
    | y => dpairs y μ
def isDicC : Dv → Store → Bool
  | .c n, μ => match μ[n]? with
    | some (.dic _) => true
    | _ => false
  | _, _ => false
theorem cell_dic {G : GT} {w : Wd} {μ : Store} {H : Hp} {n : Nat} {kvs : List (Key × Dv)} {v : V} (l : Lay G w μ H) (r : Rv G w v (.c n)) (e : μ[n]? = some (.dic kvs)) : ∃ a ws, v = .ref a ∧ w.α[n]? = some a ∧ w.I a = none ∧ H a = some (.dK ws) ∧ KvR G w ws kvs := by
  obtain ⟨a, ha, rfl⟩ := r
  obtain ⟨h1, ws, h2, h3⟩ := l.at_ n _ a e ha
  exact ⟨a, ws, rfl, ha, h1, h2, h3⟩
theorem ty_dic {G : GT} : OkT G "dict" isDicC := by
  intro w μ H x b l r h
  unfold isDicC at h
  split at h
  · split at h
    · rename_i e
      obtain ⟨a, ws, rfl, _, _, h2, _⟩ := cell_dic l r e
      exact .inr (.inr (.inl ⟨rfl, .inl ⟨ws, h2⟩⟩))
    · cases h
  · cases h
def dUpd : Dv → OpN := fun x bs μ => match x, bs with
  | .c i, [y] => match μ[i]?, updSrc i y μ with
    | some (.dic kvs), some more => if kvs.length + more.length ≤ sizeLine then .ok (.d .none) (μ.set i (.dic (mergeD kvs more))) else .bad
    | _, _ => .bad
  | _, _ => .bad
theorem ok_upd {G : GT} : OkM G (rUpd G.K) dUpd := by
  intro W σ w μ H x xs b bs Q l r rr p
  unfold dUpd at p
  split at p
  · rename_i i y
    split at p
    · rename_i kvs more e eu
      split at p
      · rename_i hz
        obtain ⟨a, ws, rfl, ha, hI, h2, h3⟩ := cell_dic l r e
        cases rr with
        | @cons u _ us _ ru t =>
          cases t
          unfold updSrc at eu
          split at eu
          · rename_i ds hs
            obtain ⟨kvs2, hp, e2⟩ := Option.map_eq_some_iff.mp eu
            subst e2
            obtain ⟨b, vs, rfl, g1, g2⟩ := seqD_ok l ru hs
            obtain ⟨ps, ms, rfl, k1, k2, k3⟩ := pairsD_ok hp g2
            have kr := KvR_of_RpK k3 k2
            refine ⟨a, b, ws, ms, rfl, rfl, h2, by rw [Paired.length h3, Paired.length kr]; exact hz, ?_, .inr ⟨ps, g1, Paired.imp (fun _ _ z => seqT l.same z) k1⟩⟩
            exact p w _ _ w.le_refl (l.write ha hI fun H' e' => ⟨hI, _, e', mergeD_ok kr h3⟩) .non
          · have fin : ∀ {b : Addr} {ms : List (Key × V)}, u = .ref b → b ≠ a → H b = some (.dK ms) → KvR G w ms more → rUpd G.K (.ref a) [u] H Q := fun {b ms} eu hne g1 kr => by
              subst eu
              exact ⟨a, b, ws, ms, rfl, rfl, h2, by rw [Paired.length h3, Paired.length kr]; exact hz, p w _ _ w.le_refl (l.write ha hI fun H' e' => ⟨hI, _, e', mergeD_ok kr h3⟩) .non, .inl ⟨hne, g1⟩⟩
            split at eu
            · rename_i j
              split at eu
              · cases eu
              · rename_i hne
                obtain ⟨b, ms, e1, g1, kr⟩ := dpairs_ok l ru eu
                obtain ⟨b', hb', e2⟩ := ru
                rw [e1] at e2
                cases e2
                exact fin e1 (fun z => hne (get_nodup l.nd ha (by rw [← z]; exact hb'))) g1 kr
            · rename_i hy
              cases y with
              | c j => exact absurd rfl (hy j)
              | f j => simp [dpairs] at eu
              | d y =>
                obtain ⟨b, ms, e1, g1, kr⟩ := dpairs_ok l ru eu
                refine fin e1 (fun z => ?_) g1 kr
                subst z
                cases y with
                | dict ps =>
                  have ru : Rp G.K w.I u (.dict ps) := ru
                  rw [e1] at ru
                  cases ru with
                  | dic q1 q2 => rw [hI] at q1; cases q1
                | _ => simp [dpairs] at eu
      · exact p.elim
    · exact p.elim
  · exact p.elim
/-! ### a written dict of defs -/
abbrev FTabE (FA : Nat → Option Addr) : List DictEntry → List (Str × Nat) → Prop := Paired fun e p => ∃ t f, e.key = Value.str p.1 t ∧ e.val = Value.ref f ∧ FA p.2 = some f
structure FTab (K : PySem.W.Frag) (w : World) (FA : Nat → Option Addr) (a : Addr) (tbl : List (Str × Nat)) : Prop where
  ex : ∃ es n, K.lookup a = some ⟨.type "dict", none, .dict es n, #[]⟩ ∧ PySem.W.KeysLit w.params es.toList ∧ FTabE FA es.toList tbl
def lkF (tbl : List (Str × Nat)) (z : Str) : Option Nat := match tbl with
  | [] => none
  | p :: r => if p.1 == z then some p.2 else lkF r z
theorem find_ftab {FA : Nat → Option Addr} {es : List DictEntry} {tbl : List (Str × Nat)} (h : FTabE FA es tbl) (z : Str) {n : Nat} (hn : lkF tbl z = some n) : ∃ f, (es.find? (·.key.isStr z)).map (·.val) = some (.ref f) ∧ FA n = some f := by
  induction h with
  | nil => cases hn
  | @cons e p es tbl r t ih =>
    obtain ⟨t1, f, hk, hv, hf⟩ := r
    unfold lkF at hn
    rw [List.find?_cons, hk]
    show ∃ g, Option.map _ (match (p.1 == z) with | true => some e | false => es.find? _) = _ ∧ _
    cases q : p.1 == z with
    | true =>
      rw [q] at hn
      simp only [if_true, Option.some.injEq] at hn
      subst hn
      exact ⟨f, by simp [hv], hf⟩
    | false =>
      rw [q] at hn
      simp only [Bool.false_eq_true, if_false] at hn
      exact ih hn
def dFTab (tbl : List (Str × Nat)) : Op1 := fun x μ => match x with
  | .d (.str z) => match lkF tbl z with
    | some n => .ok (.f n) μ
    | none => .bad
  | _ => .bad
section
variable {X : Cx} {G : GT} {W : WX} {e i : Expr} {es : List Expr} {mi : ME} {mas : MA} {pos p : Pos} {x : Str} {tbl : List (Str × Nat)} {F : OpN}
theorem de_ftab (hT : ∃ a, X.mg x = some (.ref a) ∧ FTab X.K X.w G.FA a tbl) (hg : Gl X x) (hi : DE X G W i mi) (hdx : (x == ("__debug__" : Str)) = false := by decide) (hs : PlainIx i := by exact fun _ _ => rfl) : DE X G W (.Subscript (.Name x p) i pos) (e1 (dFTab tbl) mi) := by
  obtain ⟨a, hm, ⟨es, n, lk, hk, ht⟩⟩ := hT
  refine PE.imp (pe_ix ix_kdict (L2.pe_glob (v := V.ref a) hg hm rfl hdx) hi hs) ?_
  rintro σ H Q ⟨w, μ, ρ, hl, he, p⟩
  refine tD.seq (k := fun ρ y μ => dFTab tbl y μ) hl he p fun w2 μ2 H2 u c l2 lay2 en2 r2 p2 => ?_
  unfold dFTab at p2
  split at p2
  · rename_i z
    split at p2
    · rename_i n hn
      obtain ⟨f, hf, hA⟩ := find_ftab ht z hn
      refine ⟨a, z, .ref f, rfl, by rw [rv_str r2], ⟨es, _, .ref f, lk, hk, ?_, rfl⟩, p2 w2 _ H2 w2.le_refl lay2 ⟨f, hA, rfl⟩⟩
      unfold PySem.W.nsIn
      rw [lk]
      dsimp only
      obtain ⟨e0, h1, h2⟩ := Option.map_eq_some_iff.mp hf
      rw [h1]
      simp [h2]
    · exact p2.elim
  · exact p2.elim
/-! ### f(..), f a local name -/
structure CalV (P : Program) (w : World) (G : GT) (mg : Str → Option Value) (base : Heap) (k m n : Nat) (F : OpN) : Prop where
  ex : ∃ (f : Addr) (fd : FuncData) (ps : List Str), G.FA n = some f ∧ ps.length = m ∧ FnG P w G.K mg base k f fd ps (spD G m F) ∧ PySem.W.keepIn G.K (.ref f) = true ∧ Binds G.K fd ps []
def eCallV (i m : Nat) (Fs : Nat → Option OpN) (mas : MA) : ME := fun ρ μ => match ρ[i]? with
  | some (some (.f n)) => match Fs n with
    | some F => (mas ρ μ).bind fun bs μ => fCall m F bs μ
    | none => .bad
  | _ => .bad
theorem de_callV (i : Nat) {k m : Nat} {Fs : Nat → Option OpN} (hK : X.K = G.K) (C : ∀ n F, Fs n = some F → CalV X.prog X.w G X.mg X.base k m n F) (g : X.A.guards = some []) (hr : Room k X.A) (tk : Takes X W) (ha : DA X G W (e :: es) mas)
    (hN : X.N[i]? = some x := by rfl) (hv : Vis X.env.scope x := by first | exact Or.inl rfl | exact Or.inr (Or.inl rfl) | exact Or.inr (Or.inr rfl)) (hdb : (x == ("__debug__" : Str)) = false := by decide) (hcd : (x == ("__classdict__" : Str)) = false := by decide)
    (he : starEach (e :: es) X.env = (false, eval e X.env) :: starEach es X.env := by rfl) (hpl : (backTo pos (starEach es X.env)).any (·.1) = false := by rfl) : DE X G W (.Call (.Name x p) (e :: es) [] pos) (eCallV i m Fs mas) := by
  refine ⟨fun pins s σ H Q I h => ?_⟩
  obtain ⟨w, μ, ρ, hl, hen, pp⟩ := h
  unfold eCallV at pp
  cases q0 : ρ[i]? with
  | none => rw [q0] at pp; exact pp.elim
  | some o =>
    rw [q0] at pp
    cases o with
    | none => exact pp.elim
    | some b =>
      cases b with
      | d _ => exact pp.elim
      | c _ => exact pp.elim
      | f n =>
        cases qF : Fs n with
        | none => simp only [qF] at pp; exact pp.elim
        | some F =>
          simp only [qF] at pp
          obtain ⟨v, h1, f, hA, rfl⟩ := hen.2 i _ q0
          obtain ⟨f', fd, ps, c1, c2, c3, c4, c5⟩ := (C n F qF).ex
          rw [hA] at c1
          cases c1
          rw [← hK] at c3 c4 c5
          refine wpAny_Call_Name_kw (thn ((pe_var (pos := p) hN hv hdb hcd).run pins s σ H (fun v H1 => v = .ref f ∧ H1 = H) I ⟨.ref f, h1, rfl, rfl⟩) fun u s1 ⟨v, H1, I1, r1, q1⟩ => ?_)
          obtain ⟨rfl, rfl⟩ := q1
          cases r1
          refine PySem.W.callWith_K (h₀ := X.base) I.ok.mod.kin c4 (thn (ha.run pos pins s1 σ _ (fun vs H2 => spD G m F vs H2 Q (WE W σ)) I1 (tD.seq (k := fun ρ bs μ => fCall m F bs μ) hl hen pp fun w1 μ1 H1 vs bs l1 lay1 en1 r1 p1 => ?_)) fun us s2 ⟨vs, H2, I2, r, q⟩ => ⟨I2.kIn, ?_⟩) he hpl
          · unfold fCall at p1
            by_cases q : bs.length = m
            · rw [if_pos q] at p1
              refine ⟨by rw [Paired.length r1]; exact q, w1, μ1, bs, lay1, r1, ?_⟩
              cases z : F bs μ1 with
              | ok c μ2 => rw [z] at p1; exact p1
              | ex c μ2 => rw [z] at p1; exact p1
              | bad => rw [z] at p1; exact p1
            · rw [if_neg q] at p1; exact p1.elim
          · exact runF c3 g hr c5 tk I2 r q
end
end DL

/-! k in d, k not in d. -/
namespace DL
open PySem PySem.Spec PyProof.Rows L2
section
variable {X : Cx} {G : GT} {W : WX} {a b : Expr} {ma mb : ME} {pos : Pos}
theorem din_imp (ng : Bool) : ∀ σ H Q, tE G W (e2 (dInD ng) ma mb) σ H Q → (if ng then tDNotIn (tE G W ma) (tE G W mb) else tDIn (tE G W ma) (tE G W mb)) σ H Q := by
  rintro σ H Q ⟨w, μ, ρ, hl, he, p⟩
  have go : (tE G W ma) σ H fun y H1 => (tE G W mb) σ H1 fun x H2 => ∃ a o, x = .ref a ∧ DGet H2 a y o ∧ Q (.bl (if ng then !o.isSome else o.isSome)) H2 := by
    refine tD.seq (k := fun ρ y μ => (mb ρ μ).bind fun x μ => dInD ng y x μ) hl he p fun w1 μ1 H1 v b l1 lay1 en1 r1 p1 => ?_
    refine tD.seq (k := fun ρ x μ => dInD ng b x μ) lay1 en1 p1 fun w2 μ2 H2 u c l2 lay2 en2 r2 p2 => ?_
    exact din_of lay2 r2 (r1.mono l2) p2
  cases ng with
  | true => exact go
  | false => exact go
theorem de_dinD' (hu : X.A.units + 64 < cLine) (ha : DE X G W a ma) (hb : DE X G W b mb) (hm : behindInMarks .In b = false := by first | rfl | exact nomark _ | with_unfolding_all rfl) : DE X G W (.Compare a [.In] [b] pos) (e2 (dInD false) ma mb) := PE.imp (pe_cmp (pc_din (by omega) ha hb) hm) (din_imp false)
theorem de_dinDN' (hu : X.A.units + 64 < cLine) (ha : DE X G W a ma) (hb : DE X G W b mb) (hm : behindInMarks .NotIn b = false := by first | rfl | exact nomark _ | with_unfolding_all rfl) : DE X G W (.Compare a [.NotIn] [b] pos) (e2 (dInD true) ma mb) := PE.imp (pe_cmp (pc_dnotin (by omega) ha hb) hm) (din_imp true)
theorem dt_dinD' (hu : X.A.units + 64 < cLine) (ha : DE X G W a ma) (hb : DE X G W b mb) (hm : behindInMarks .In b = false := by first | rfl | exact nomark _ | with_unfolding_all rfl) : DT X G W (.Compare a [.In] [b] pos) (tV (e2 (dInD false) ma mb)) :=
  PT.imp (pt_cmp (pc_din (by omega) ha hb) hm) fun σ H Q q => tTest.imp (din_imp false) σ H Q (test_imp σ H Q q)
theorem dt_dinDN' (hu : X.A.units + 64 < cLine) (ha : DE X G W a ma) (hb : DE X G W b mb) (hm : behindInMarks .NotIn b = false := by first | rfl | exact nomark _ | with_unfolding_all rfl) : DT X G W (.Compare a [.NotIn] [b] pos) (tV (e2 (dInD true) ma mb)) :=
  PT.imp (pt_cmp (pc_dnotin (by omega) ha hb) hm) fun σ H Q q => tTest.imp (din_imp true) σ H Q (test_imp σ H Q q)
end
end DL

/-! a, b, c = x.partition(y); a, b, c = x, y, z; for i, x in enumerate(xs) -/
namespace DL
open PySem PySem.Spec PyProof.Rows L2
/-! ### a, b, c = x.partition(y) -/
def partF (gs : MGs) (ρ : DEnv) (x y : Dv) (μ : Store) : Out Fl := match x, y with
  | .d (.str a), .d (.str b) => if (b.length == 0) = false ∧ a.length ≤ sizeLine then (gs [.d (.str (Txt.partition a b).1), .d (.str (Txt.partition a b).2.1), .d (.str (Txt.partition a b).2.2)] ρ μ).gb fun ρ μ => .ok (.nx ρ) μ else .bad
  | _, _ => .bad
def sPart (mo me : ME) (gs : MGs) : MS := fun ρ μ => (mo ρ μ).bind fun x μ => if isStr x μ = true then (me ρ μ).bind fun y μ => partF gs ρ x y μ else .bad
section
variable {X : Cx} {G : GT} {W : WX} {a b c e o tg : Expr} {es tgs : List Expr} {mo me : ME} {mas : MA} {gs : MGs} {S : List Nat} {pos p cpos apos tpos : Pos} {k : Nat}
theorem rvS {G : GT} {w : Wd} (z : Str) : Rv G w (.str z) (.d (.str z)) := Rp.str z
theorem ds_part (hc : X.calm = true) (hK : X.K = G.K) (ho : DE X G W o mo) (he : DE X G W e me) (hg : DGs X G S tgs gs) (hn : (assignEach tgs X.env).length = 3 := by rfl) (hst : (assignEach tgs X.env).findIdx? (·.1) = none := by rfl)
    (hbase : attributeBase o "partition" X.env (eval o X.env) = eval o X.env := by rfl)
    (hfew : ((backTo cpos (starEach [e] X.env)).all (fun x => !x.1) && (backToKw cpos (keywordEach [] X.env)).all (fun x => x.1.isSome)
      && decide (([e] : List Expr).length + ([] : List Keyword).length + (if ([] : List Keyword).isEmpty then 0 else 1) < 30)) = true := by rfl)
    (hline : (apos.endLine == cpos.line) = true := by rfl) (hs0 : starEach [e] X.env = (false, eval e X.env) :: starEach [] X.env := by rfl) (hplain : (backTo cpos (starEach [] X.env)).any (·.1) = false := by rfl)
    (hs : swapsWithSole [.Tuple tgs k tpos] (.Call (.Attribute o "partition" apos) [e] [] cpos) pos.line X.env = pure false := by rfl) (hw : swappedStores [.Tuple tgs k tpos] (.Call (.Attribute o "partition" apos) [e] [] cpos) X.env = pure none := by rfl)
    (h1 : (assignEach [.Tuple tgs k tpos] X.env).map (·.2) = [assign (.Tuple tgs k tpos) X.env] := by rfl) : DS X G W (.Assign [.Tuple tgs k tpos] (.Call (.Attribute o "partition" apos) [e] [] cpos) pos) (sPart mo me gs) := by
  refine PS.imp (ps_asg (pe_bm PySem.F.plainAttrs_str PySem.F.slot_str_partition PySem.F.type_str_partition mt_partition ho (pa_cons he pa_nil hs0) hbase hfew hline hs0 hplain) (pg_tup hc hg hn hst) hs hw h1) ?_
  rintro D σ H ⟨w, μ, ρ, hl, hen, p⟩
  refine tD.seqS (k := fun ρ x μ => if isStr x μ = true then (me ρ μ).bind fun y μ => partF gs ρ x y μ else .bad) hl hen p fun w1 μ1 H1 v b l1 lay1 en1 r1 p1 => ?_
  split at p1
  · rename_i hS
    refine ⟨by rw [hK]; exact ty_str w1 μ1 H1 v b lay1 r1 hS, ?_⟩
    refine tD.seqS (k := fun ρ y μ => partF gs ρ b y μ) lay1 en1 p1 fun w2 μ2 H2 u c l2 lay2 en2 r2 p2 => ?_
    have r1' := r1.mono l2
    clear r1
    unfold partF at p2
    split at p2
    · rename_i x y
      split at p2
      · rename_i hz
        refine ⟨_, _, rv_str r1', by rw [rv_str r2], hz.1, hz.2, fun q nq => ?_⟩
        obtain ⟨n1, n2, n3⟩ := lay2.na nq
        have lay3 := lay2.other n1 n2 n3 (.tup [.str (Txt.partition x y).1, .str (Txt.partition x y).2.1, .str (Txt.partition x y).2.2])
        refine ⟨q, _, rfl, SqT.of upd_same, rfl, w2, μ2, ρ, _, lay3, en2, .cons (rvS _) (.cons (rvS _) (.cons (rvS _) .nil)), ?_⟩
        cases q5 : gs [.d (.str (Txt.partition x y).1), .d (.str (Txt.partition x y).2.1), .d (.str (Txt.partition x y).2.2)] ρ μ2 with
        | bad => rw [q5] at p2; exact p2.elim
        | ex _ _ => rw [q5] at p2; exact p2.elim
        | ok ρ2 μ3 =>
          rw [q5] at p2
          exact fun w2 σ2 H2 l2 lay2 en2 _ => p2 w2 σ2 H2 l2 lay2 en2
      · exact p2.elim
    · exact p2.elim
  · exact p1.elim
/-! ### a, b, c = x, y, z -/
def par3F (i j l : Nat) (ρ : DEnv) : List Dv → Store → Out Fl
  | [b, c, d], μ => .ok (.nx (((ρ.set i (some b)).set j (some c)).set l (some d))) μ
  | _, _ => .bad
def sPar3 (i j l : Nat) (m : MA) : MS := fun ρ μ => (m ρ μ).bind (par3F i j l ρ)
theorem ds_par3 {i j l : Nat} {x y z : Str} {px py pz pt : Pos} {kt k2 pt2} (hc : X.calm = true) (hN : X.N.Nodup) (ha : DA X G W [a, b, c] mas) (hi : X.N[i]? = some x := by rfl) (hj : X.N[j]? = some y := by rfl) (hl : X.N[l]? = some z := by rfl) (hij : i ≠ j := by decide) (hil : i ≠ l := by decide) (hjl : j ≠ l := by decide)
    (hx : X.env.scope.names.lookup x = some .local := by rfl) (hy : X.env.scope.names.lookup y = some .local := by rfl) (hz : X.env.scope.names.lookup z = some .local := by rfl)
    (hw : swappedStores [.Tuple [.Name x px, .Name y py, .Name z pz] kt pt] (.Tuple [a, b, c] k2 pt2) X.env = pure (some [x, y, z]) := by rfl)
    (hs : swapsWithSole [.Tuple [.Name x px, .Name y py, .Name z pz] kt pt] (.Tuple [a, b, c] k2 pt2) pos.line X.env = pure false := by rfl) :
    DS X G W (.Assign [.Tuple [.Name x px, .Name y py, .Name z pz] kt pt] (.Tuple [a, b, c] k2 pt2) pos) (sPar3 i j l mas) := by
  refine PS.imp (ps_par3 hc hN hi hj hl hij hil hjl hx hy hz ha hw hs) ?_
  rintro D σ H ⟨w, μ, ρ, hl, he, p⟩
  refine tD.seqS (k := par3F i j l) hl he p fun w1 μ1 H1 vs bs l1 lay1 en1 r1 p1 => ?_
  match bs, r1, p1 with
  | [b, c, d], .cons r (.cons r' (.cons r'' .nil)), p1 => exact ⟨_, _, _, rfl, p1 w1 _ H1 w1.le_refl lay1 (((en1.set i r).set j r').set l r'')⟩
end
/-! ### for i, x in enumerate(xs), xs a list that may change -/
def forG (g : MGs) (mb : MS) (n : Nat) : Nat → Nat → DEnv → Store → Out Fl
  | 0, _, _, _ => .bad
  | k + 1, i, ρ, μ => match μ[n]? with
    | some (.lst xs) => match xs[i]? with
      | none => .ok (.nx ρ) μ
      | some x => (g [.d (.int i), x] ρ μ).gb fun ρ μ => (mb ρ μ).bind fun f μ => match f with
        | .nx ρ => forG g mb n k (i + 1) ρ μ
        | .ct ρ => forG g mb n k (i + 1) ρ μ
        | .bk ρ => .ok (.nx ρ) μ
        | .rt v => .ok (.rt v) μ
    | _ => .bad
/-- of a list that is data -/
def forGD (g : MGs) (mb : MS) : List D → Nat → DEnv → Store → Out Fl
  | [], _, ρ, μ => .ok (.nx ρ) μ
  | x :: xs, i, ρ, μ => (g [.d (.int i), .d x] ρ μ).gb fun ρ μ => (mb ρ μ).bind fun f μ => match f with
    | .nx ρ => forGD g mb xs (i + 1) ρ μ
    | .ct ρ => forGD g mb xs (i + 1) ρ μ
    | .bk ρ => .ok (.nx ρ) μ
    | .rt v => .ok (.rt v) μ
def forGb (g : MGs) (mb : MS) (k : Nat) (b : Dv) (ρ : DEnv) (μ : Store) : Out Fl := match b with
  | .c n => forG g mb n k 0 ρ μ
  | .d (.list xs) => forGD g mb xs 0 ρ μ
  | _ => .bad
def sForG (mo : ME) (g : MGs) (mb : MS) (k : Nat) : MS := fun ρ μ => (mo ρ μ).bind fun b μ => forGb g mb k b ρ μ
section
variable {X : Cx} {G : GT} {W : WX} {e : Expr} {body : List Stmt} {mo : ME} {g : MGs} {mb : MS} {S : List Nat} {pos : Pos}
theorem forG_imp (hK : X.K = G.K) {k : Nat} : ∀ D σ H, tS G W (sForG mo g mb k) D σ H → tFor (iEnum X.K (tA G W (aCons mo aNil))) (gTup X.K 2 (tGs G S g)) (tS G W mb) D σ H := by
  rintro D σ H ⟨w, μ, ρ, hl, he, p⟩
  have p : PstS G W w ((aCons mo aNil ρ μ).bind fun bs μ => match bs with
    | [b] => forGb g mb k b ρ μ
    | _ => .bad) D := by
    unfold sForG at p
    cases q : mo ρ μ with
    | bad => rw [q] at p; exact p.elim
    | ex e μ' => rw [q] at p; unfold aCons; rw [q]; exact p
    | ok b μ' => rw [q] at p; unfold aCons; rw [q]; exact p
  refine tD.seqS (k := fun ρ bs μ => match bs with
    | [b] => forGb g mb k b ρ μ
    | _ => .bad) hl he p fun w1 μ1 H1 vv bb l1 lay1 en1 rr p1 => ?_
  cases rr with
  | nil => exact p1.elim
  | @cons v b vs bs r1 rt =>
  cases rt with
  | cons _ _ => exact p1.elim
  | nil =>
  replace p1 : PstS G W w1 (forGb g mb k b ρ μ1) D := p1
  unfold forGb at p1
  split at p1
  · rename_i n
    obtain ⟨a, ha, rfl⟩ := r1
    cases k with
    | zero => exact p1.elim
    | succ k =>
      have hc0 : ∃ xs, μ1[n]? = some (.lst xs) := by
        unfold forG at p1
        split at p1
        · rename_i xs e; exact ⟨xs, e⟩
        · exact p1.elim
      obtain ⟨xs0, e0⟩ := hc0
      obtain ⟨h1, vs0, h2, h3⟩ := lay1.at_ n _ a e0 ha
      refine ⟨a, vs0, rfl, SqL.of h2, ?_⟩
      rw [hK]
      refine ⟨fun i m σ H => ∃ w2 μ2 ρ2 m', m = m' ∧ w1.le w2 ∧ Lay G w2 μ2 H ∧ EnvR G w2 σ ρ2 ∧ PstS G W w2 (forG g mb n m' i ρ2 μ2) D, ⟨k + 1, w1, μ1, ρ, _, rfl, w1.le_refl, lay1, en1, p1⟩, ?_⟩
      rintro i m σ2 H2 ⟨w2, μ2, ρ2, m', rfl, l2, lay2, en2, p2⟩
      cases m with
      | zero => exact p2.elim
      | succ m =>
        unfold forG at p2
        have ha2 : w2.α[n]? = some a := pre_get l2.2.1 ha
        split at p2
        · rename_i xs e2
          obtain ⟨g1, vs, g2, g3⟩ := lay2.at_ n _ a e2 ha2
          split at p2
          · rename_i hx
            have hlen : xs.length ≤ i := List.getElem?_eq_none_iff.mp hx
            refine .inl ⟨⟨vs, SqL.of g2, by rw [Paired.length g3]; exact hlen⟩, ?_⟩
            exact p2 w2 σ2 H2 w2.le_refl lay2 en2
          · rename_i bx hb
            obtain ⟨u, hu, ru⟩ := g3.at hb
            refine .inr ⟨⟨vs, u, SqL.of g2, hu⟩, fun σ H => ∃ w3 μ3 ρ3, w1.le w3 ∧ Lay G w3 μ3 H ∧ EnvR G w3 σ ρ3 ∧ PstS G W w3 (forG g mb n m (i + 1) ρ3 μ3) D, fun σ' H' ⟨w3, μ3, ρ3, q1, q2, q3, q4⟩ => ⟨m, Nat.lt_succ_self _, w3, μ3, ρ3, m, rfl, q1, q2, q3, q4⟩, fun x H' y => ?_⟩
            obtain ⟨T, x, rfl, hT, rfl, y⟩ := y
            have hx := y vs (SqL.of g2)
            rw [hu] at hx
            cases hx
            obtain ⟨n1, n2, n3⟩ := lay2.na hT
            have layT := lay2.other n1 n2 n3 (.tup [.int (i : Nat), u])
            refine ⟨T, _, rfl, SqT.of upd_same, rfl, w2, μ2, ρ2, [.d (.int i), bx], layT, en2, .cons (.int _) (.cons ru .nil), ?_⟩
            cases q : g [.d (.int i), bx] ρ2 μ2 with
            | bad => rw [q] at p2; exact p2.elim
            | ex _ _ => rw [q] at p2; exact p2.elim
            | ok ρ4 μ4 =>
              rw [q] at p2
              intro w4 σ4 H4 l4 lay4 en4 _
              refine ⟨w4, μ4, ρ4, lay4, en4, ?_⟩
              have p4 : PstS G W w4 ((mb ρ4 μ4).bind fun f μ => match f with
                | .nx ρ => forG g mb n m (i + 1) ρ μ
                | .ct ρ => forG g mb n m (i + 1) ρ μ
                | .bk ρ => .ok (.nx ρ) μ
                | .rt v => .ok (.rt v) μ) D := PstS.mono l4 p2
              have l14 : w1.le w4 := l2.trans l4
              cases q5 : mb ρ4 μ4 with
              | bad => rw [q5] at p4; exact p4.elim
              | ex e μ5 => rw [q5] at p4; exact p4
              | ok f μ5 =>
                rw [q5] at p4
                cases f with
                | nx ρ5 => exact fun w5 σ5 H5 l5 lay5 en5 => ⟨w5, μ5, ρ5, l14.trans l5, lay5, en5, PstS.mono l5 p4⟩
                | ct ρ5 => exact fun w5 σ5 H5 l5 lay5 en5 => ⟨w5, μ5, ρ5, l14.trans l5, lay5, en5, PstS.mono l5 p4⟩
                | bk ρ5 => exact p4
                | rt v => exact p4
        · exact p2.elim
  · rename_i xs0
    obtain ⟨a, vs, rfl, h2, h3⟩ := rv_lst r1
    rw [hK]
    refine ⟨a, vs, rfl, seqL lay1.same h2, ?_⟩
    refine ⟨fun i m σ H => m = xs0.length - i ∧ i ≤ xs0.length ∧ ∃ w2 μ2 ρ2, w1.le w2 ∧ Lay G w2 μ2 H ∧ EnvR G w2 σ ρ2 ∧ PstS G W w2 (forGD g mb (xs0.drop i) i ρ2 μ2) D, ⟨xs0.length, rfl, Nat.zero_le _, w1, μ1, ρ, w1.le_refl, lay1, en1, p1⟩, ?_⟩
    rintro i m σ2 H2 ⟨rfl, hi, w2, μ2, ρ2, l2, lay2, en2, p2⟩
    have hs2 : SqL G.K H2 a vs := seqL (Same.trans l2.1 lay2.same) h2
    by_cases hlt : i < xs0.length
    · have eb : xs0[i]? = some xs0[i] := by simp [hlt]
      obtain ⟨u, hu, ru⟩ := h3.got eb
      rw [List.drop_eq_getElem_cons hlt] at p2
      unfold forGD at p2
      refine .inr ⟨⟨vs, u, hs2, hu⟩, fun σ H => ∃ w3 μ3 ρ3, w1.le w3 ∧ Lay G w3 μ3 H ∧ EnvR G w3 σ ρ3 ∧ PstS G W w3 (forGD g mb (xs0.drop (i + 1)) (i + 1) ρ3 μ3) D, fun σ' H' ⟨w3, μ3, ρ3, q1, q2, q3, q4⟩ => ⟨_, by omega, rfl, by omega, w3, μ3, ρ3, q1, q2, q3, q4⟩, fun x H' y => ?_⟩
      obtain ⟨T, x, rfl, hT, rfl, y⟩ := y
      have hx := y vs hs2
      rw [hu] at hx
      cases hx
      obtain ⟨n1, n2, n3⟩ := lay2.na hT
      have layT := lay2.other n1 n2 n3 (.tup [.int (i : Nat), u])
      refine ⟨T, _, rfl, SqT.of upd_same, rfl, w2, μ2, ρ2, [.d (.int i), .d xs0[i]], layT, en2, .cons (.int _) (.cons (Rp.mono l2.1 _ _ ru) .nil), ?_⟩
      cases q : g [.d (.int i), .d xs0[i]] ρ2 μ2 with
      | bad => rw [q] at p2; exact p2.elim
      | ex _ _ => rw [q] at p2; exact p2.elim
      | ok ρ4 μ4 =>
        rw [q] at p2
        intro w4 σ4 H4 l4 lay4 en4 _
        refine ⟨w4, μ4, ρ4, lay4, en4, ?_⟩
        have p4 : PstS G W w4 ((mb ρ4 μ4).bind fun f μ => match f with
          | .nx ρ => forGD g mb (xs0.drop (i + 1)) (i + 1) ρ μ
          | .ct ρ => forGD g mb (xs0.drop (i + 1)) (i + 1) ρ μ
          | .bk ρ => .ok (.nx ρ) μ
          | .rt v => .ok (.rt v) μ) D := PstS.mono l4 p2
        have l14 : w1.le w4 := l2.trans l4
        cases q5 : mb ρ4 μ4 with
        | bad => rw [q5] at p4; exact p4.elim
        | ex e μ5 => rw [q5] at p4; exact p4
        | ok f μ5 =>
          rw [q5] at p4
          cases f with
          | nx ρ5 => exact fun w5 σ5 H5 l5 lay5 en5 => ⟨w5, μ5, ρ5, l14.trans l5, lay5, en5, PstS.mono l5 p4⟩
          | ct ρ5 => exact fun w5 σ5 H5 l5 lay5 en5 => ⟨w5, μ5, ρ5, l14.trans l5, lay5, en5, PstS.mono l5 p4⟩
          | bk ρ5 => exact p4
          | rt v => exact p4
    · refine .inl ⟨⟨vs, hs2, by rw [h3.length]; omega⟩, ?_⟩
      rw [List.drop_of_length_le (by omega)] at p2
      exact p2 w2 σ2 H2 w2.le_refl lay2 en2
  · exact p1.elim
theorem ds_forG {elts : List Expr} {kk : Nat} {tpos p cpos : Pos} (k : Nat) (hp : PassesOwn (model X.prog X.w) X.A X.env X.xe) (hc : X.calm = true) (hK : X.K = G.K) (hgl : Gl X "enumerate") (hm : X.mg "enumerate" = none) (he : DE X G W e mo) (hg : DGs X G S elts g) (hb : DSs X G W body mb)
    (hn : (assignEach elts X.env).length = 2 := by rfl) (hst : (assignEach elts X.env).findIdx? (·.1) = none := by rfl)
    (hs1 : starEach [e] X.env = [(false, eval e X.env)] := by rfl) (hs : ∀ x, foldedSetIterable (.Call (.Name "enumerate" p) [e] [] cpos) X.env x = pure x := by intro _; rfl) : DS X G W (.For (.Tuple elts kk tpos) (.Call (.Name "enumerate" p) [e] [] cpos) body [] pos) (sForG mo g mb k) := PS.imp (ps_for hp hc (pi_enum hgl hm (da_cons he da_nil (by rw [hs1]; rfl)) hs1) (pg_tup hc hg hn hst) hb hs) (forG_imp (S := S) hK)
end
end DL

/-! The plain executor's rules for the newer forms. -/
namespace DL
open PySem PySem.Spec PyProof.Rows L2
section
variable {β : Type} {ρ : DEnv} {μ : Store} {i j l n m k : Nat} {a c o : ME} {t u mb : MS} {g : MG} {gs : MGs} {ma mk : MA} {P : Fl → Store → Prop} {Q : Dv → Store → Prop} {A : List Dv → Store → Prop} {E : DEnv → Store → Prop} {F : OpN}
def kSD3 (v x : Dv) (ρ : DEnv) (P : Fl → Store → Prop) : Dv → Store → Prop := fun b μ => Wp (optN (dSetD x b v μ) ρ) P
@[simp ↓] theorem kSD3_r {b : Dv} {v x : Dv} : kSD3 v x ρ P b μ = Wp (optN (dSetD x b v μ) ρ) P := id rfl
def kSD2 (v : Dv) (c : ME) (ρ : DEnv) (P : Fl → Store → Prop) : Dv → Store → Prop := fun b μ => Wp (c ρ μ) (kSD3 v b ρ P)
@[simp ↓] theorem kSD2_r {b : Dv} {v : Dv} : kSD2 v c ρ P b μ = Wp (c ρ μ) (kSD3 v b ρ P) := id rfl
def kSD1 (o c : ME) (ρ : DEnv) (P : Fl → Store → Prop) : Dv → Store → Prop := fun b μ => Wp (o ρ μ) (kSD2 b c ρ P)
@[simp ↓] theorem kSD1_r {b : Dv}  : kSD1 o c ρ P b μ = Wp (o ρ μ) (kSD2 b c ρ P) := id rfl
@[simp ↓] theorem Wp_sSetD : Wp (sSetD a o c ρ μ) P = Wp (a ρ μ) (kSD1 o c ρ P) := by
  unfold sSetD
  simp only [Wp_bind]
  rfl
def kSF2 (n : Nat) (f : Str) (v : Dv) (ρ : DEnv) (P : Fl → Store → Prop) : Dv → Store → Prop := fun b μ => Wp (optN (dSetF n f b v μ) ρ) P
@[simp ↓] theorem kSF2_r {b : Dv} {f : Str} {v : Dv} : kSF2 n f v ρ P b μ = Wp (optN (dSetF n f b v μ) ρ) P := id rfl
def kSF1 (n : Nat) (f : Str) (o : ME) (ρ : DEnv) (P : Fl → Store → Prop) : Dv → Store → Prop := fun b μ => Wp (o ρ μ) (kSF2 n f b ρ P)
@[simp ↓] theorem kSF1_r {b : Dv} {f : Str} : kSF1 n f o ρ P b μ = Wp (o ρ μ) (kSF2 n f b ρ P) := id rfl
@[simp ↓] theorem Wp_sSetF {f : Str} : Wp (sSetF n f a o ρ μ) P = Wp (a ρ μ) (kSF1 n f o ρ P) := by
  unfold sSetF
  simp only [Wp_bind]
  rfl
def kPt2 (gs : MGs) (x : Dv) (ρ : DEnv) (P : Fl → Store → Prop) : Dv → Store → Prop := fun b μ => Wp (partF gs ρ x b μ) P
@[simp ↓] theorem kPt2_r {b x : Dv} : kPt2 gs x ρ P b μ = Wp (partF gs ρ x b μ) P := id rfl
def kPt (c : ME) (gs : MGs) (ρ : DEnv) (P : Fl → Store → Prop) : Dv → Store → Prop := fun b μ => isStr b μ = true ∧ Wp (c ρ μ) (kPt2 gs b ρ P)
@[simp ↓] theorem kPt_r {b : Dv} (h : isStr b μ = true) : kPt c gs ρ P b μ = Wp (c ρ μ) (kPt2 gs b ρ P) := by
  unfold kPt
  simp [h]
@[simp ↓] theorem kPt_s {x : Str} : kPt c gs ρ P (.d (.str x)) μ = Wp (c ρ μ) (kPt2 gs (.d (.str x)) ρ P) := kPt_r rfl
@[simp ↓] theorem Wp_sPart : Wp (sPart a c gs ρ μ) P = Wp (a ρ μ) (kPt c gs ρ P) := by
  unfold sPart
  rw [Wp_bind]
  congr 1
  funext b μ
  unfold kPt
  split
  · rename_i h
    rw [Wp_bind]
    simp only [h, true_and]
    rfl
  · rename_i h
    simp only [h, false_and]
    simp [Wp_bad]
theorem partF_one {l : List Nat} {s : Nat} (h : l.length ≤ 16000000) : partF gs ρ (.d (.str (T l))) (.d (.str (T [s]))) μ = (gs [.d (.str (T (l.takeWhile (· != s)))), .d (.str (T (if s ∈ l then [s] else []))), .d (.str (T ((l.dropWhile (· != s)).drop 1)))] ρ μ).gb fun ρ μ => .ok (.nx ρ) μ := by
  show (if ((T [s]).length == 0) = false ∧ (T l).length ≤ sizeLine then (gs [.d (.str (Txt.partition (T l) (T [s])).1), .d (.str (Txt.partition (T l) (T [s])).2.1), .d (.str (Txt.partition (T l) (T [s])).2.2)] ρ μ).gb fun ρ μ => Out.ok (Fl.nx ρ) μ else Out.bad) = _
  have hb := line_big
  rw [if_pos ⟨rfl, by rw [T_len]; omega⟩, part_T, par_one]
  by_cases q : s ∈ l
  · rw [if_pos q, if_pos q]
    rfl
  · rw [if_neg q, if_neg q]
    have e1 := tw_self q
    have e2 := dw_nil q
    rw [e1, e2]
    rfl
theorem Wp_partF {l : List Nat} {s : Nat} (h : l.length ≤ 16000000) : Wp (partF gs ρ (.d (.str (T l))) (.d (.str (T [s]))) μ) P = Wp (gs [.d (.str (T (l.takeWhile (· != s)))), .d (.str (T (if s ∈ l then [s] else []))), .d (.str (T ((l.dropWhile (· != s)).drop 1)))] ρ μ) (kNx P) := by
  rw [partF_one h, Wp_gb]
  congr 1
  funext ρ μ
  exact Wp_ok
def kPar3 (i j l : Nat) (ρ : DEnv) (P : Fl → Store → Prop) : List Dv → Store → Prop := fun b μ => Wp (par3F i j l ρ b μ) P
@[simp ↓] theorem kPar3_r {x y z : Dv} : kPar3 i j l ρ P [x, y, z] μ = P (.nx (((ρ.set i (some x)).set j (some y)).set l (some z))) μ := Wp_ok
@[simp ↓] theorem Wp_sPar3 : Wp (sPar3 i j l ma ρ μ) P = Wp (ma ρ μ) (kPar3 i j l ρ P) := by
  unfold sPar3
  rw [Wp_bind]
  rfl
def kForG (gs : MGs) (mb : MS) (n : Nat) (ρ : DEnv) (P : Fl → Store → Prop) : Dv → Store → Prop := fun b μ => Wp (forGb gs mb n b ρ μ) P
@[simp ↓] theorem kForG_r {b : Dv}  : kForG gs mb n ρ P b μ = Wp (forGb gs mb n b ρ μ) P := id rfl
@[simp ↓] theorem Wp_sForG : Wp (sForG a gs mb n ρ μ) P = Wp (a ρ μ) (kForG gs mb n ρ P) := by
  unfold sForG
  simp only [Wp_bind]
  rfl
theorem forGb_r {k n : Nat} : forGb gs mb k (.c n) ρ μ = forG gs mb n k 0 ρ μ := id rfl
def kG2 (x y : Dv) (Q : Dv → Store → Prop) : Dv → Store → Prop := fun b μ => Wp (dGet2F x y b μ) Q
@[simp ↓] theorem kG2_r {x y b : Dv} : kG2 x y Q b μ = Wp (dGet2F x y b μ) Q := id rfl
def kG1 (x : Dv) (c : ME) (ρ : DEnv) (Q : Dv → Store → Prop) : Dv → Store → Prop := fun b μ => Wp (c ρ μ) (kG2 x b Q)
@[simp ↓] theorem kG1_r {x b : Dv} : kG1 x c ρ Q b μ = Wp (c ρ μ) (kG2 x b Q) := id rfl
def kG0 (a c : ME) (ρ : DEnv) (Q : Dv → Store → Prop) : Dv → Store → Prop := fun b μ => isDp b μ = true ∧ Wp (a ρ μ) (kG1 b c ρ Q)
@[simp ↓] theorem kG0_r {b : Dv} (h : isDp b μ = true) : kG0 a c ρ Q b μ = Wp (a ρ μ) (kG1 b c ρ Q) := by
  unfold kG0
  simp [h]
@[simp ↓] theorem Wp_eGet2 : Wp (eGet2 o a c ρ μ) Q = Wp (o ρ μ) (kG0 a c ρ Q) := by
  unfold eGet2
  rw [Wp_bind]
  congr 1
  funext b μ
  unfold kG0
  split
  · rename_i h
    simp only [Wp_bind]
    simp only [h, true_and]
    rfl
  · rename_i h
    simp only [h, false_and]
    simp [Wp_bad]
def kMk (n k : Nat) (F : OpN) (Q : Dv → Store → Prop) : List Dv → Store → Prop := fun bs μ => bs.length + 1 = k ∧ Wp (F (.c μ.length :: bs) (μ ++ [.obj n []])) fun r μ' => r = .d .none ∧ Q (.c μ.length) μ'
theorem kMk_i {bs : List Dv} (h : bs.length + 1 = k) (w : Wp (F (.c μ.length :: bs) (μ ++ [.obj n []])) fun r μ' => r = .d .none ∧ Q (.c μ.length) μ') : kMk n k F Q bs μ := ⟨h, w⟩
theorem Wp_eMake : Wp (eMake n k F ma ρ μ) Q = Wp (ma ρ μ) (kMk n k F Q) := by
  unfold eMake
  rw [Wp_bind]
  congr 1
  funext bs μ
  unfold kMk
  split
  · rename_i h
    rw [Wp_bind]
    simp only [h, true_and]
    congr 1
    funext r μ'
    split
    · rw [Wp_ok]; simp
    · rename_i h2
      rw [Wp_bad]
      have : ¬ r = .d .none := fun e => h2 e
      simp [this]
  · rename_i h
    simp only [h, false_and]
    simp [Wp_bad]
def kMt (n k : Nat) (s : Str) (F : OpN) (ma : MA) (ρ : DEnv) (Q : Dv → Store → Prop) : Dv → Store → Prop := fun x μ => ∃ i fs, x = .c i ∧ μ[i]? = some (.obj n fs) ∧ fs.lookup s = none ∧ Wp (ma ρ μ) fun bs μ => Wp (fCall k F (.c i :: bs) μ) Q
theorem Wp_eMeth {s : Str} : Wp (eMeth n k s F a ma ρ μ) Q = Wp (a ρ μ) (kMt n k s F ma ρ Q) := by
  unfold eMeth
  rw [Wp_bind]
  congr 1
  funext x μ
  refine propext ⟨fun h => ?_, fun ⟨i, fs, h1, h2, h3, h4⟩ => ?_⟩
  · unfold kMt
    split at h
    · rename_i i
      split at h
      · rename_i C fs e
        split at h
        · rename_i q
          obtain ⟨rfl, q2⟩ := q
          rw [Wp_bind] at h
          exact ⟨i, fs, rfl, e, q2, h⟩
        · rw [Wp_bad] at h; exact h.elim
      · rw [Wp_bad] at h; exact h.elim
    · rw [Wp_bad] at h; exact h.elim
  · subst h1
    simp only [h2]
    rw [if_pos ⟨trivial, h3⟩, Wp_bind]
    exact h4
theorem Wp_callV {Fs : Nat → Option OpN} (h : ρ[i]? = some (some (.f n))) (h2 : Fs n = some F) : Wp (eCallV i m Fs ma ρ μ) Q = Wp (ma ρ μ) (kN (fCall m F) Q) := by
  unfold eCallV
  simp only [h, h2]
  rw [Wp_bind]
  rfl
end
theorem Wp_forG {g : MGs} {mb : MS} {n : Nat} {xs : List D} (I : Nat → DEnv → Store → Prop) : ∀ {k i : Nat} {ρ : DEnv} {μ : Store} {P : Fl → Store → Prop}, (∀ i ρ μ, I i ρ μ → μ[n]? = some (.lst (xs.map .d))) → I i ρ μ → i ≤ xs.length → xs.length - i < k →
    (∀ j x ρ μ, xs[j]? = some x → I j ρ μ → Wp (g [.d (.int j), .d x] ρ μ) fun ρ1 μ1 => Wp (mb ρ1 μ1) (forP (I (j + 1)) P)) →
    (∀ ρ' μ', I xs.length ρ' μ' → P (.nx ρ') μ') → Wp (forG g mb n k i ρ μ) P
  | 0, i, ρ, μ, P, _, _, _, h, _, _ => by omega
  | k + 1, i, ρ, μ, P, e, h0, le, h, step, fin => by
    unfold forG
    simp only [e i ρ μ h0]
    by_cases hi : i < xs.length
    · have ei : xs[i]? = some xs[i] := by simp [hi]
      have ei2 : (xs.map Dv.d)[i]? = some (.d xs[i]) := by rw [List.getElem?_map, ei]; rfl
      simp only [ei2]
      rw [Wp_gb]
      refine Wp_mono (step i _ ρ μ ei h0) fun ρ1 μ1 w1 => ?_
      rw [Wp_bind]
      refine Wp_mono w1 fun f μ2 w2 => ?_
      have rest : ∀ ρ2, I (i + 1) ρ2 μ2 → Wp (forG g mb n k (i + 1) ρ2 μ2) P := fun ρ2 i2 => Wp_forG I (k := k) (i := i + 1) e i2 (by omega) (by omega) step fin
      cases f with
      | nx ρ2 => exact rest ρ2 w2
      | ct ρ2 => exact rest ρ2 w2
      | bk ρ2 => exact .mk w2
      | rt v => exact .mk w2
    · have ei2 : (xs.map Dv.d)[i]? = none := by simp; omega
      simp only [ei2]
      exact .mk (fin ρ μ (by rw [show xs.length = i by omega]; exact h0))
/-- a comprehension without a test, what its items are, place by place -/
theorem Wp_lcM_ix {g : MG} {te : ME} {ρ : DEnv} (I : Nat → Store → Prop) (R : Nat → Dv → Prop) : ∀ {bs : List Dv} {i : Nat} {μ : Store} {P : List Dv → Store → Prop}, I i μ →
    (∀ j b μ, bs[j]? = some b → I (i + j) μ → Wp (g b ρ μ) fun ρ' μ1 => Wp (te ρ' μ1) fun y μ3 => R (i + j) y ∧ I (i + j + 1) μ3) →
    (∀ ys μ', ys.length = bs.length → (∀ j y, ys[j]? = some y → R (i + j) y) → I (i + bs.length) μ' → P ys μ') → Wp (lcM g tYesM te ρ bs μ) P
  | [], i, μ, P, h0, _, fin => .mk (fin [] μ rfl (fun j y h => by simp at h) h0)
  | b :: bs, i, μ, P, h0, step, fin => by
    unfold lcM
    rw [Wp_gb]
    refine Wp_mono (step 0 b μ rfl h0) fun ρ' μ1 w1 => ?_
    rw [Wp_gb]
    show Wp (.ok true μ1) _
    rw [Wp_ok, if_pos rfl, Wp_gb]
    refine Wp_mono w1 fun y μ3 w3 => ?_
    rw [Wp_gb]
    refine Wp_lcM_ix I R (bs := bs) (i := i + 1) w3.2 (fun j c μ5 hj hi => ?_) fun ys μ' l1 l2 l3 => .mk ?_
    · have := step (j + 1) c μ5 (by simpa using hj) (by rw [show i + (j + 1) = i + 1 + j by omega]; exact hi)
      rw [show i + (j + 1) + 1 = i + 1 + j + 1 by omega, show i + (j + 1) = i + 1 + j by omega] at this
      exact this
    · refine fin (y :: ys) μ' (congrArg Nat.succ l1) (fun j x hx => ?_) (by rw [List.length_cons, show i + (bs.length + 1) = i + 1 + bs.length by omega]; exact l3)
      cases j with
      | zero =>
        simp at hx
        subst hx
        exact w3.1
      | succ j =>
        rw [show i + (j + 1) = i + 1 + j by omega]
        exact l2 j x (by simpa using hx)
end DL

/-! Own exception classes over ValueError, LookupError, RuntimeError: made by places and names, their fields. -/
namespace PySem
namespace OXG
open Builtin Builtin.ObjectAttr PySem.HandSPX PySem.W PySem.Calls PyProof.Rows
def refsT (tl : List Value) : List Value → Bool
  | .ref _ :: r => refsT tl r
  | l => l == tl
theorem refsT_cases {tl : List Value} : ∀ l : List Value, refsT tl l = true → (∃ c r, l = .ref c :: r ∧ refsT tl r = true) ∨ l = tl := by
  intro l e
  cases l with
  | nil => exact .inr (beq_iff_eq.mp e)
  | cons a r =>
    cases a with
    | ref c => exact .inl ⟨c, r, rfl, e⟩
    | _ => exact .inr (beq_iff_eq.mp e)
theorem refsT_pass {tl : List Value} (self : Value) (h : refuseLoop self "__setattr__" tl = pure ()) : ∀ l : List Value, refsT tl l = true → refuseLoop self "__setattr__" l = pure () := by
  intro l
  induction l with
  | nil => intro e; rcases refsT_cases _ e with ⟨c, r', q, _⟩ | q
           · cases q
           · rw [q]; exact h
  | cons a r ih =>
    intro e
    rcases refsT_cases (a :: r) e with ⟨c, r', q, h2⟩ | q
    · obtain ⟨rfl, rfl⟩ := List.cons.inj q
      rw [refuseLoop_ref]; exact ih h2
    · rw [q]; exact h
theorem refsT_contains {tl : List Value} (X : String) : ∀ l : List Value, refsT tl l = true → l.contains (.type X) = tl.contains (.type X) := by
  intro l
  induction l with
  | nil => intro e; rcases refsT_cases _ e with ⟨c, r', q, _⟩ | q
           · cases q
           · rw [q]
  | cons a r ih =>
    intro e
    rcases refsT_cases (a :: r) e with ⟨c, r', q, h2⟩ | q
    · obtain ⟨rfl, rfl⟩ := List.cons.inj q
      rw [List.contains_cons, ih h2]; rfl
    · rw [q]
abbrev tlV : List Value := [.type "ValueError", .type "Exception", .type "BaseException", .type "object"]
abbrev tlL : List Value := [.type "LookupError", .type "Exception", .type "BaseException", .type "object"]
abbrev tlR : List Value := [.type "RuntimeError", .type "Exception", .type "BaseException", .type "object"]
theorem passV (self : Value) : refuseLoop self "__setattr__" tlV = pure () := by kernel_rfl
theorem passL (self : Value) : refuseLoop self "__setattr__" tlL = pure () := by kernel_rfl
theorem passR (self : Value) : refuseLoop self "__setattr__" tlR = pure () := by kernel_rfl

/-! made by keywords, too -/
section
variable {M : Model} {A : Around} {E : Value → Shared → Prop} {h : Heap} {g : Array GenState} {d : Drawn} {t : Nat} {os : OsState}
variable {nm q : Str} {C N : Addr} {bs bm bmB : List Value} {hdct : Bool} {sn : List Str} {sub : List Value} {ab : Bool} {col : Option Bool} {dd : Option Addr} {k0 k1 k2 k3 k5 : Option Value} {B newId initId : String}
theorem check_newK (F : ExcBaseFacts B newId initId bmB) (hT : ∀ X : String, bm.contains (.type X) = bmB.contains (.type X)) {rest : List Value} {kw : List (Str × Value)} {Q : Unit → Shared → Prop}
    (hC : h.get? C = some (excClassObj nm q C N bs bm hdct sn sub ab col dd k0 k1 k2 k3 k5 newId)) (hq : Q () ⟨h, g, d, t, os⟩) : wpAny M A (checkBuiltinCall newId ⟨.ref C :: rest, kw⟩) Q E ⟨h, g, d, t, os⟩ := by
  have hcont : (Value.ref C :: bm).contains (.type B) = true := by rw [List.contains_cons, hT, F.hasB, Bool.or_true]
  have hstar := F.noStar
  simp only [checkBuiltinCall, F.newKind, F.newSplit, F.newRow]
  repeat (first | refine wpAny_loadPart_at hC ?_ | (refine wpAny_isSubtype_exc hC ?_; rw [hcont]) | refine wpAny_staticBase_exc hC ?_ | refine wpAny_madeBy_exc hC ?_ | simp only [bne_self_eq_false, Bool.false_eq_true, if_false] | wp_step)
  exact hq
end

section
variable {prog : Program} {w : World} {A : Around} {E : Value → Shared → Prop} {R : Result → Shared → Prop} {h : Heap} {g : Array GenState} {d : Drawn} {t : Nat} {os : OsState}
variable {nm q : Str} {C N : Addr} {bs bm bmB : List Value} {hdct : Bool} {sn : List Str} {sub : List Value} {ab : Bool} {col : Option Bool} {dd : Option Addr} {k0 k1 k2 k3 k5 : Option Value} {B newId initId : String}
theorem new_ownK (F : ExcBaseFacts B newId initId bmB) (hT : ∀ X : String, bm.contains (.type X) = bmB.contains (.type X)) {rest : List Value} {kw : List (Str × Value)}
    (hC : h.get? C = some (excClassObj nm q C N bs bm hdct sn sub ab col dd k0 k1 k2 k3 k5 newId))
    (hq : R (.ok (.ret (.ref (h.objs.size + 1)))) ⟨(h.push { cls := .type "tuple", data := .seq rest.toArray }).push
      { cls := .ref C, data := .fields #[.ref h.objs.size, .none, .none, .none, .bool false, .none] }, g, d, t, os⟩) (hrest : rest.length ≤ sizeLine) :
    codeAny (model prog w) A (.builtin newId ⟨.ref C :: rest, kw⟩) R ⟨h, g, d, t, os⟩ := by
  have hends := F.ends
  have hcB : (Value.ref C :: bm).contains (.type B) = true := by rw [List.contains_cons, hT, F.hasB, Bool.or_true]
  have hcA : (Value.ref C :: bm).contains (.type "AttributeError") = false := by rw [List.contains_cons, hT, F.noAttr]; rfl
  have hcN : (Value.ref C :: bm).contains (.type "NameError") = false := by rw [List.contains_cons, hT, F.noName]; rfl
  refine codeAny_builtinAt F.entry ?_
  unfold Builtin.«BaseException.__new__»
  refine wpAt_bind ?_
  show wpAt _ _ _ (stack >>= _) _ _ _
  refine wpAt_bind (wpAt_stack fun p below => wpAt_of_wpAny ?_)
  wp_walk
  refine wpAt_of_wpAny ?_
  rw [F.owner]
  repeat (first | with_reducible refine wpAny_madeHere_exc F.canon hC ?_ | with_reducible refine wpAny_loadPart_at hC ?_ | (with_reducible refine wpAny_isSubtype_exc hC ?_; first | rw [hcB] | rw [hcA] | rw [hcN]) | wp_step)
  show R _ _
  rw [Heap.size_push]
  exact hq
theorem type_call_ownK (F : ExcBaseFacts B newId initId bmB) (hT : ∀ X : String, bm.contains (.type X) = bmB.contains (.type X)) {rest : List Value} {kw : List (Str × Value)} {fI : Addr} {Q : Fin → Shared → Prop}
    (hC : h.get? C = some (excClassObj nm q C N bs bm hdct sn sub ab col dd k0 k1 k2 k3 k5 newId))
    (hi : W.Looks (model prog w) h (typeLookup (.ref C) "__init__") (some (.ref fI))) (hb : ∀ self, W.Looks (model prog w) h (bindSpecial (.ref fI) self) (.ref fI, [self])) (hrest : rest.length ≤ sizeLine)
    (hq : codeAny (model prog w) A (.call (.ref fI) ⟨.ref (h.objs.size + 1) :: rest, kw⟩)
      (fun r s' => match r with | .ok (.ret v) => v = .none ∧ Q (.done (.ret (.ref (h.objs.size + 1)))) s' | .ok _ => False | .error e => E e s')
      ⟨(h.push (W.kdv_tup rest)).push (excO C h.objs.size), g, d, t, os⟩) :
    wpAny (model prog w) A (Builtin.«type.__call__» ⟨.ref C :: rest, kw⟩) Q E ⟨h, g, d, t, os⟩ := by
  repeat (first | with_reducible refine wpAny_loadPart_at hC ?_ | with_reducible refine wpAny_madeBy_exc hC ?_ | wp_step)
  refine codeAny_call_builtin_code (Code.quiet_builtin _ F.quiet) (check_newK F hT hC ?_)
  refine new_ownK F hT hC ?_ hrest
  show wpAny _ _ _ _ _ _
  have k : ∀ b o, h.get? b = some o → ((h.push (W.kdv_tup rest)).push (excO C h.objs.size)).get? b = some o := fun b o e => Heap.get?_push_of_some _ (Heap.get?_push_of_some _ e)
  have hC₁ := k _ _ hC
  have hget : ((h.push (W.kdv_tup rest)).push (excO C h.objs.size)).get? (h.objs.size + 1) = some (excO C h.objs.size) := by heap_get
  have hcC : (Value.ref C :: bm).contains (.ref C) = true := by simp
  have i1 := hi.keeps k
  have b1 := (hb (.ref (h.objs.size + 1))).keeps k
  unfold isInstance
  repeat (first | with_reducible refine wpAny_loadPart_at hget ?_ | (with_reducible refine wpAny_isSubtype_exc hC₁ ?_; rw [hcC]) | wp_step)
  show wpAny _ _ (typeLookup (.ref C) _) _ _ _
  refine i1.at ?_
  refine wpAny_holding (wpAny_bind (b1.at ?_))
  refine wpAny_bind (wpAny_call (codeAny_mono hq fun r s' z => ?_))
  rcases r with e | (v | _ | _ | _) <;> first | exact z | exact z.elim | skip
  obtain ⟨rfl, z⟩ := z
  first
    | exact wpAny_pure (wpAny_pure z)
    | (wp_walk; exact z)
theorem call_ownK (F : ExcBaseFacts B newId initId bmB) (hT : ∀ X : String, bm.contains (.type X) = bmB.contains (.type X)) {rest : List Value} {kw : List (Str × Value)} {fI : Addr}
    (hC : h.get? C = some (excClassObj nm q C N bs bm hdct sn sub ab col dd k0 k1 k2 k3 k5 newId))
    (hi : W.Looks (model prog w) h (typeLookup (.ref C) "__init__") (some (.ref fI))) (hb : ∀ self, W.Looks (model prog w) h (bindSpecial (.ref fI) self) (.ref fI, [self])) (hrest : rest.length ≤ sizeLine)
    (hq : codeAny (model prog w) (A.under (.builtin "type.__call__" ⟨.ref C :: rest, kw⟩)) (.call (.ref fI) ⟨.ref (h.objs.size + 1) :: rest, kw⟩) (W.InitBack (h.objs.size + 1) R)
      ⟨(h.push (W.kdv_tup rest)).push (excO C h.objs.size), g, d, t, os⟩) :
    codeAny (model prog w) A (.call (.ref C) ⟨rest, kw⟩) R ⟨h, g, d, t, os⟩ := by
  have f1 := tc_lookup
  have f2 := tc_bind (.ref C)
  have hTy : (⟨h, g, d, t, os⟩ : Shared).TypeIs (.ref C) "type" := ⟨_, hC, rfl⟩
  refine codeAny_of_tree ?_
  show wpAny _ _ (callAny (.ref C) _) _ _ _
  repeat (any_goals (first | assumption | with_reducible refine wpAny_loadPart_at hC ?_ | wp_step))
  refine ⟨rfl, ?_⟩
  refine codeAny_call_builtin_at (Code.quiet_builtin _ (by decide +kernel)) entry_typeCall (wpAny_check_type_call_sub hC (type_call_ownK F hT hC hi hb hrest ?_))
  refine codeAny_mono hq fun r s' z => ?_
  rcases r with e | (v | _ | _ | _) <;> exact z
end

/-! fields -/
section
variable {prog : Program} {w : World} {A : Around} {E : Value → Shared → Prop} {R : Result → Shared → Prop} {hp : Heap} {g : Array GenState} {d : Drawn} {t : Nat} {os : OsState}
theorem osa_newG {K : W.Frag} {name : Str} {tk : Tok} {v : Value} {x C : Addr} {fv : Array Value} {cd : ClassData}
    (X : K.In hp) (hx : hp.get? x = some { cls := .ref C, data := .fields fv }) (hcd : W.clsIn K C = some cd) (ne : cd.mro.isEmpty = false) (hob : cd.mro.contains (.type "object") = true) (hpa : refuseLoop (.ref x) "__setattr__" cd.mro = pure ()) (hh : cd.hasDict = true) (ha : W.findIn K (.ref C) name = some none)
    (hq : ∀ h' tk' dx, (∀ b o, b ≠ x → hp.get? b = some o → h'.get? b = some o) → hp.objs.size ≤ dx → dx ≠ x → h'.get? x = some { cls := .ref C, dict := some dx, data := .fields fv } →
      h'.Ns1 dx (fun y => if y = name then some v else none) → R (.ok (.ret .none)) ⟨h', g, d, tk', os⟩) :
    codeAny (model prog w) A (.call (.builtin "object.__setattr__") ⟨[.ref x, .str name tk, v], []⟩) R ⟨hp, g, d, t, os⟩ := by
  have I : W.InstAt hp x { cls := .ref C, data := .fields fv } C none := ⟨hx, rfl, rfl, trivial⟩
  have SF := F.store_object
  have hxs : x ≠ hp.objs.size := Nat.ne_of_lt (Heap.lt_size hx)
  have sub : W.Looks (model prog w) hp (isInstance (.ref x) (.type "object")) true := I.type.andThen (W.looks_mroIn X (by unfold W.mroIn; rw [hcd, Option.bind_some, if_neg (by rw [ne]; decide), hob]))
  refine codeAny_call_builtin SF.slot.plain SF.entry (@W.check_slot (model prog w) _ _ ⟨hp, g, d, t, os⟩ "object.__setattr__" "object" "__setattr__" (.ref x) [.str name tk, v] [] _ SF.kind SF.split sub (SF.args (.ref x) (.str name tk) v) ?_)
  have hmr : W.Looks (model prog w) hp (mroOf (.ref C)) cd.mro := (W.looks_clsIn X hcd).andThen .now
  have L3 : W.Looks (model prog w) hp (storeTaker? none) none := .now
  have hcls : W.Looks (model prog w) hp (classData C) cd := W.looks_clsIn X hcd
  rw [W.osa_eq, refuse_eq]
  refine wpAny_bind (wpAny_bind (I.type.at (wpAny_bind (hmr.at ?_))))
  rw [hpa]
  refine wpAny_pure (wpAny_bind (I.type.at (wpAny_bind ((W.looks_findIn X ha).at (wpAny_bind (L3.at ?_))))))
  show wpAny _ _ (storeInOwnDict (.ref x) (.ref C) (.str name tk) name v false) _ _ _
  obtain ⟨nm, bs, mro, ns, qn, hd, sn, sb, ab, col, del⟩ := cd
  dsimp only at hh
  subst hh
  unfold storeInOwnDict ownDictForStores
  repeat (first | with_reducible refine store_in_new ?_ ?_ | with_reducible refine wpAny_loadPart_at hx ?_ | with_reducible refine hcls.at ?_ | wp_step)
  · exact ⟨_, #[], _, (Heap.get?_update_ne _ _ _ _ hxs.symm).trans (Heap.get?_push_at rfl rfl), rfl, fun e he => absurd he (by simp), fun _ => rfl⟩
  · intro h' tk' hn' hs
    have hx₁ : (hp.push { cls := .type "dict", data := .dict #[] }).get? x = some { cls := .ref C, data := .fields fv } := Heap.get?_push_of_some _ hx
    refine hq h' tk' hp.objs.size (fun b o hb ho => ?_) (Nat.le_refl _) hxs.symm ?_ hn'
    · exact (hs.2 b (Nat.ne_of_lt (Heap.lt_size ho))).trans ((Heap.get?_update_ne _ _ _ _ hb).trans (Heap.get?_push_of_some _ ho))
    · exact (hs.2 x hxs).trans (Heap.get?_update_self _ hx₁ rfl)
theorem osa_oldG {K : W.Frag} {name : Str} {tk : Tok} {v : Value} {x C dx : Addr} {fv : Array Value} {cd : ClassData} {m0 : Str → Option Value} {nl : List Str}
    (X : K.In hp) (hx : hp.get? x = some { cls := .ref C, dict := some dx, data := .fields fv }) (hns : hp.Ns1 dx m0) (hw : Within m0 nl) (hz : nl.length ≤ 1000) (hcd : W.clsIn K C = some cd) (ne : cd.mro.isEmpty = false) (hob : cd.mro.contains (.type "object") = true) (hpa : refuseLoop (.ref x) "__setattr__" cd.mro = pure ()) (hh : cd.hasDict = true)
    (ha : W.findIn K (.ref C) name = some none)
    (hq : ∀ h' tk', (∀ b o, b ≠ dx → hp.get? b = some o → h'.get? b = some o) → h'.Ns1 dx (fun y => if y = name then some v else m0 y) → R (.ok (.ret .none)) ⟨h', g, d, tk', os⟩) :
    codeAny (model prog w) A (.call (.builtin "object.__setattr__") ⟨[.ref x, .str name tk, v], []⟩) R ⟨hp, g, d, t, os⟩ := by
  obtain ⟨oD, esD, epD, hoD, hdD, _⟩ := hns.count hw
  have I : W.InstAt hp x { cls := .ref C, dict := some dx, data := .fields fv } C (some oD) := ⟨hx, rfl, rfl, hoD⟩
  have SF := F.store_object
  have sub : W.Looks (model prog w) hp (isInstance (.ref x) (.type "object")) true := I.type.andThen (W.looks_mroIn X (by unfold W.mroIn; rw [hcd, Option.bind_some, if_neg (by rw [ne]; decide), hob]))
  refine codeAny_call_builtin SF.slot.plain SF.entry (@W.check_slot (model prog w) _ _ ⟨hp, g, d, t, os⟩ "object.__setattr__" "object" "__setattr__" (.ref x) [.str name tk, v] [] _ SF.kind SF.split sub (SF.args (.ref x) (.str name tk) v) ?_)
  have hmr : W.Looks (model prog w) hp (mroOf (.ref C)) cd.mro := (W.looks_clsIn X hcd).andThen .now
  have L3 : W.Looks (model prog w) hp (storeTaker? none) none := .now
  have hcls : W.Looks (model prog w) hp (classData C) cd := W.looks_clsIn X hcd
  rw [W.osa_eq, refuse_eq]
  refine wpAny_bind (wpAny_bind (I.type.at (wpAny_bind (hmr.at ?_))))
  rw [hpa]
  refine wpAny_pure (wpAny_bind (I.type.at (wpAny_bind ((W.looks_findIn X ha).at (wpAny_bind (L3.at ?_))))))
  show wpAny _ _ (storeInOwnDict (.ref x) (.ref C) (.str name tk) name v false) _ _ _
  obtain ⟨nm, bs, mro, ns, qn, hd, sn, sb, ab, col, del⟩ := cd
  dsimp only at hh
  subst hh
  unfold storeInOwnDict ownDictForStores
  repeat (first | with_reducible refine PySem.OEX.store_in_old hns hw hz ?_ | with_reducible refine wpAny_loadPart_at hx ?_ | with_reducible refine hcls.at ?_ | wp_step)
  intro h' tk' hn' hs
  exact hq h' tk' (fun b o hb ho => (hs.2 b hb).trans ho) hn'
end
end OXG
end PySem

/-! Own exception classes: __init__'s parts, the making of an instance as a value. -/
namespace L2
open PySem PySem.Spec PyProof.Rows
/-- what the written part says of the class; initId: its built-in base's __init__ -/
structure OexG (K : PySem.W.Frag) (C : Addr) (initId : String) : Prop where
  cls : ∃ B newId bmB nm q N bs bm sn sub ab col dd k0 k1 k2 k3 k5, ExcBaseFacts B newId initId bmB ∧ K.lookup C = some (excClassObj nm q C N bs bm true sn sub ab col dd k0 k1 k2 k3 k5 newId) ∧
    (∀ Y : String, bm.contains (.type Y) = bmB.contains (.type Y)) ∧ bmB.contains (.type "object") = true ∧ ∀ self, refuseLoop self "__setattr__" bm = pure ()
  sa : PySem.W.findIn K (.ref C) "__setattr__" = some (some (.builtin "object.__setattr__"))
  exC : PySem.W.subIn K (.ref C) (.type "BaseException") = some true
  tyC : PySem.W.typeIn K (.ref C) = some (.type "type")
  kC : PySem.W.keepIn K (.ref C) = true
section
variable {X : Cx} {pins : List (Addr × Obj)} {σ : St} {H : Hp} {s : Shared} {a C dx : Addr} {f : Str} {y : V} {u : Value} {fs : List (Str × V)} {Q : Unit → Shared → Prop} {E : Value → Shared → Prop} {A : Around} {id : String}
theorem ost_newG (T : OexG X.K C id) (I : Inv X pins σ H s) (e : H a = some (exo a C none)) (hno : PySem.W.findIn X.K (.ref C) f = some none) (ry : RelV y u)
    (h : ∀ dx s', H dx = none → dx ≠ a → Inv X pins σ (upd (upd H dx (exd dx [(f, y)])) a (exo a C (some dx))) s' → Q () s') : wpAny (model X.prog X.w) A (setAttr (.ref a) f u) Q E s := by
  obtain ⟨B, newId, bmB, nm, q, N, bs, bm, sn, sub, ab, col, dd, k0, k1, k2, k3, k5, FB, hC, hT, hO, hP⟩ := T.cls
  have hcl : PySem.W.clsIn X.K C = some { name := nm, bases := bs, mro := .ref C :: bm, ns := N, qualname := q, hasDict := true, slotNames := sn, subclasses := sub, abstract := ab, collection := col, hasDel := false } := by unfold PySem.W.clsIn; rw [hC] <;> rfl
  obtain ⟨t1, ho⟩ := exo_at I.hok e
  obtain ⟨hp, g, d, t, os⟩ := s
  refine PySem.W.set_plain I.kIn (ox := { cls := .ref C, dict := none, data := .fields #[.ref t1, .none, .none, .none, .bool false, .none] }) (od := none) ⟨ho, rfl, rfl, trivial⟩ T.sa ?_
  refine PySem.OXG.osa_newG I.kIn ho hcl rfl (by show (Value.ref C :: bm).contains (.type "object") = true; rw [List.contains_cons, hT, hO, Bool.or_true]) (by show refuseLoop (.ref a) "__setattr__" (.ref C :: bm) = pure (); rw [refuseLoop_ref]; exact hP _) rfl hno (fun h' tk' dx k dn dne hx hn => ?_)
  have hnd : H dx = none := I.hok.fresh dn
  have nd : ∀ {b : Addr} {o : Obj}, hp.get? b = some o → b ≠ dx := fun {b o} q => Nat.ne_of_lt (Nat.lt_of_lt_of_le (Heap.lt_size q) dn)
  have na : ∀ {b : Addr}, H b = none → b ≠ a := fun {b} n z => by
    rw [z, e] at n
    cases n
  have Un1 : Un X.fs [] H (upd (upd H dx (exd dx [(f, y)])) a (exo a C (some dx))) hp h' := {
    keep := fun b o q n _ _ => k b o (na n) q
    slot := fun b o q n _ _ => ⟨o.slots, k b o (na n) q⟩
    free := fun b o q n _ => by rw [upd_ne (na n), upd_ne (nd q)]; exact n
    there := fun b o q _ => by
      by_cases hb : b = a
      · exact ⟨_, by rw [hb]; exact hx⟩
      · exact ⟨o, k b o hb q⟩
    tups := fun b xs q => by rw [upd_ne (at_ne e q exo_tup), upd_ne (ne_of_none q hnd)]; exact q
    frzs := fun b o v q => by rw [upd_ne (at_ne e q exo_frz), upd_ne (ne_of_none q hnd)]; exact q
    tbls := fun b ps q => ⟨#[], by rw [upd_ne (at_ne e q exo_tbl), upd_ne (ne_of_none q hnd), q]; simp⟩ }
  refine h dx _ hnd dne (I.un (t' := tk') Un1 fun b o q => ?_)
  by_cases hb : b = a
  · subst hb
    rw [upd_same] at q
    cases q
    exact exo_ok hx
  · rw [upd_ne hb] at q
    by_cases hd : b = dx
    · subst hd
      rw [upd_same] at q
      cases q
      exact exd_ok hn (relO_put (fs := []) ry fun g => True.intro)
    · rw [upd_ne hd] at q
      exact (I.hok b o q).stay (fun c v hc z => k c v (by
          rcases hc with hc | hc
          · rw [hc]
            exact hb
          · exact at_ne e hc exo_own) z)
        (fun c hc => by rw [upd_ne (at_ne e hc exo_own), upd_ne (ne_of_none hc hnd)]; exact hc) (fun c xs hc => by rw [upd_ne (at_ne e hc exo_tup), upd_ne (ne_of_none hc hnd)]; exact hc)
theorem ost_oldG (T : OexG X.K C id) (I : Inv X pins σ H s) (e : H a = some (exo a C (some dx))) (ed : H dx = some (exd dx fs)) (hl : fs.length ≤ 900) (hno : PySem.W.findIn X.K (.ref C) f = some none) (ry : RelV y u)
    (h : ∀ s', Inv X pins σ (upd H dx (exd dx ((f, y) :: fs))) s' → Q () s') : wpAny (model X.prog X.w) A (setAttr (.ref a) f u) Q E s := by
  obtain ⟨B, newId, bmB, nm, q, N, bs, bm, sn, sub, ab, col, dd, k0, k1, k2, k3, k5, FB, hC, hT, hO, hP⟩ := T.cls
  have hcl : PySem.W.clsIn X.K C = some { name := nm, bases := bs, mro := .ref C :: bm, ns := N, qualname := q, hasDict := true, slotNames := sn, subclasses := sub, abstract := ab, collection := col, hasDel := false } := by unfold PySem.W.clsIn; rw [hC] <;> rfl
  obtain ⟨t1, ho⟩ := exo_at I.hok e
  obtain ⟨mA, hns, rel⟩ := exd_at I.hok ed
  have hw := within_of rel
  obtain ⟨hp, g, d, t, os⟩ := s
  obtain ⟨oD, _, _, hoD, _, _⟩ := hns.count hw
  refine PySem.W.set_plain I.kIn (ox := { cls := .ref C, dict := some dx, data := .fields #[.ref t1, .none, .none, .none, .bool false, .none] }) (od := some oD) ⟨ho, rfl, rfl, hoD⟩ T.sa ?_
  refine PySem.OXG.osa_oldG I.kIn ho hns hw (by rw [List.length_map]; omega) hcl rfl (by show (Value.ref C :: bm).contains (.type "object") = true; rw [List.contains_cons, hT, hO, Bool.or_true]) (by show refuseLoop (.ref a) "__setattr__" (.ref C :: bm) = pure (); rw [refuseLoop_ref]; exact hP _) rfl hno (fun h' tk' k hn => ?_)
  have hd : ∃ o, h'.get? dx = some o := by
    obtain ⟨o, _, _, e', _⟩ := hn
    exact ⟨o, e'⟩
  exact h _ (I.write (t' := tk') (x := dx) (e := dx) (o := exd dx ((f, y) :: fs)) (by rw [ed]; exact True.intro) (.inl rfl) k hd (exd_ok hn (relO_put ry rel)))
theorem oinit_okG {us : List Value} {Q : Value → Shared → Prop} (T : OexG X.K C id) (I : Inv X pins σ H s) (e : H a = some (exo a C none)) (hl : us.length ≤ sizeLine) (h : ∀ s', Inv X pins σ H s' → Q .none s') :
    wpAny (model X.prog X.w) A (call (.builtin id) (.ref a :: us)) Q E s := by
  obtain ⟨B, newId, bmB, nm, q, N, bs, bm, sn, sub, ab, col, dd, k0, k1, k2, k3, k5, FB, hC, hT, hO, hP⟩ := T.cls
  obtain ⟨t1, ho⟩ := exo_at I.hok e
  obtain ⟨hp, g, d, t, os⟩ := s
  refine wpAny_call (PySem.HandSPX.init_base FB hT (I.kIn _ _ hC) ho hl fun h' t2 k hx => ?_)
  have J := I.write (t' := t) (x := a) (e := a) (o := exo a C none) (by rw [e]; exact True.intro) (.inl rfl) k ⟨_, hx⟩ (exo_ok hx)
  have eu : upd H a (exo a C none) = H := by
    funext b
    by_cases hb : b = a
    · rw [hb, upd_same, e]
    · rw [upd_ne hb]
  rw [eu] at J
  exact h _ J
end
/-- Base.__init__(self, ..) -/
def tXI (K : PySem.W.Frag) (id : String) (ta : TA) : TE := fun σ H Q => ta σ H fun vs H1 => ∃ (a C : Addr) (ws : List V), vs = .ref a :: ws ∧ ws.length ≤ 1000 ∧ OexG K C id ∧ H1 a = some (exo a C none) ∧ Q .non H1
/-- self.f = e -/
def tOstG (K : PySem.W.Frag) (f : Str) (to te : TE) : TS := fun D σ H => te σ H fun y H1 => to σ H1 fun x H2 => ∃ (a C : Addr) (id : String), x = .ref a ∧ OexG K C id ∧ PySem.W.findIn K (.ref C) f = some none ∧
  ((H2 a = some (exo a C none) ∧ ∀ dx, H2 dx = none → dx ≠ a → D.nx σ (upd (upd H2 dx (exd dx [(f, y)])) a (exo a C (some dx)))) ∨
    ∃ (dx : Addr) (fs : List (Str × V)), H2 a = some (exo a C (some dx)) ∧ H2 dx = some (exd dx fs) ∧ fs.length ≤ 900 ∧ D.nx σ (upd H2 dx (exd dx ((f, y) :: fs))))
section
variable {X : Cx} {o e : Expr} {es : List Expr} {to te : TE} {ta : TA} {f b : Str} {p p' p1 p2 pos : Pos} {id : String} {N : Addr}
theorem pe_xinit {pl : Sem Bool} (hg : Gl X b) (hm : X.mg b = some (.ref N)) (hga : PySem.W.specialIn X.K (.ref N) "__getattribute__" = some (some (.builtin "type.__getattribute__")))
    (hrd : PySem.W.readsIn X.K N (.type "type") = true) (hf : PySem.W.findCls X.K (.ref N) (.type "type") "__init__" = some (.val (.builtin id))) (hh : PySem.W.handedIn (.builtin id) = true) (ha : PA X (e :: es) ta)
    (hc : eval (.Call (.Attribute (.Name b p1) "__init__" p2) (e :: es) [] pos) X.env = (do
      let ov ← eval (.Name b p1) X.env
      standAt p2.atName
      let (f, first) ← holding [ov] (getMethod ov "__init__" pl)
      callWith pos f first (backTo pos (starEach (e :: es) X.env)) (backToKw pos (keywordEach [] X.env))) := by rfl) (hdb : (b == ("__debug__" : Str)) = false := by decide)
    (he : starEach (e :: es) X.env = (false, eval e X.env) :: starEach es X.env := by rfl) (hpl : (backTo pos (starEach es X.env)).any (·.1) = false := by rfl) :
    PE X (.Call (.Attribute (.Name b p1) "__init__" p2) (e :: es) [] pos) (tXI X.K id ta) := by
  refine ⟨fun pins s σ H Q I h => ?_⟩
  refine PySem.W.methodCall_KW (ld_glob I hg hm ?_ hdb) hc
  refine PySem.W.method_cls I.kIn hga (PySem.W.cls_value I.kIn hrd hf hh ?_)
  show wpAny _ _ (callWith pos (Value.builtin id) [] (backTo pos (starEach (e :: es) X.env)) []) _ _ _
  refine PyProof.Rows.callWith_method1 (thn (ha.run pos pins _ σ H _ (I.tok _) h) fun us s1 ⟨vs, H1, I1, r1, a, C, ws, ev, hl, T, ea, q⟩ => ?_) he hpl
  subst ev
  cases r1 with
  | @cons _ u0 _ ur ra rw' =>
    obtain rfl : u0 = Value.ref a := ra
    have hlen : ur.length ≤ sizeLine := by
      rw [← Paired.length rw', sizeLine_eq]
      omega
    exact oinit_okG T I1 ea hlen fun s' J => ⟨.non, H1, J, rfl, q⟩
theorem ps_ostG (ho : PE X o to) (he : PE X e te) (hs : swapsWith e (some (.Attribute o f p')) pos.line X.env = pure false := by rfl) : PS X (.Assign [.Attribute o f p'] e pos) (tOstG X.K f to te) := by
  refine ⟨fun pins s σ H D I h => ?_⟩
  refine plainObj_wpAny_Assign_Attribute (thn (he.run pins s σ H _ I h) fun v s1 ⟨y, H1, I1, r1, q1⟩ => thn (ho.run pins s1 σ H1 _ I1 q1) fun u s2 ⟨x, H2, I2, r2, a, C, id, ex, T, hno, q⟩ => ?_) hs
  subst ex
  obtain rfl : u = Value.ref a := r2
  rcases q with ⟨ea, q⟩ | ⟨dx, fs, ea, ed, hl, q⟩
  · exact ost_newG T I2 ea hno r1 fun dx s' n ne J => ⟨σ, _, J, q dx n ne⟩
  · exact ost_oldG T I2 ea ed hl hno r1 fun s' J => ⟨σ, _, J, q⟩
end
/-- what a new one's making leaves -/
def Made (C : Addr) (fl : List Str) (ys : List V) (a : Addr) (H H' : Hp) : Prop :=
  (fl = [] ∧ H' = upd H a (exo a C none)) ∨ ∃ dx, H dx = none ∧ dx ≠ a ∧ H' = upd (upd H dx (exd dx (fl.zip ys).reverse)) a (exo a C (some dx))
def spInit (C : Addr) (fl : List Str) : Sp := fun vs H Q _ => ∃ a ys H0, vs = .ref a :: ys ∧ ys.length = fl.length ∧ H0 a = none ∧ H = upd H0 a (exo a C none) ∧ ∀ H', Made C fl ys a H0 H' → Q .non H'
end L2

/-! Instances of own exception classes as cells: their making by places and names, isinstance, fields. -/
namespace DL
open PySem PySem.Spec PyProof.Rows L2
section
variable {X : Cx} {pins : List (Addr × Obj)} {σ : L2.St} {k : Nat} {fI C : Addr} {fd : FuncData} {ps : List Str} {fl : List Str} {id : String} {ks : List Str} {ix : List Nat}
/-- the making of an instance: n given by places, ks by names -/
theorem run_newX {H : Hp} {s : Shared} {Q : VK} {us ws : List Value} {vs zs : List V} (T : OexG X.K C id) (iC : PySem.W.findIn X.K (.ref C) "__init__" = some (some (.ref fI))) (tI : PySem.W.typeIn X.K (.ref fI) = some (.type "function"))
    (F1 : FnG X.prog X.w X.K X.mg X.base k fI fd ps (spInit C fl)) (g : X.A.guards = some []) (hr : Room (k + 1) X.A)
    (hb : ∀ (s : Shared) (self : Value), X.K.In s.heap → BindsTo s fd ⟨self :: us, ks.zip ws⟩ (ps.zip (self :: pickL .none ix (us ++ ws))))
    (I : Inv X pins σ H s) (r : Vals vs us) (rz : Vals zs ws) (hl : (pickL .non ix (vs ++ zs)).length = fl.length) (hlu : us.length ≤ 1000)
    (h : ∀ a H', H a = none → Made C fl (pickL .non ix (vs ++ zs)) a H H' → Q (.ref a) H') :
    wpAny (model X.prog X.w) X.A (call (.ref C) us (ks.zip ws)) (EP X pins σ Q) X.xe s := by
  obtain ⟨B, newId, bmB, nm, q, N, bs, bm, sn, sub, ab, col, dd, k0, k1, k2, k3, k5, FB, hC, hT, hO, hP⟩ := T.cls
  obtain ⟨hp, gg, dr, tk, os⟩ := s
  have hsz : hp.objs.size ≤ hp.objs.size + 1 := Nat.le_succ _
  have hn : H (hp.objs.size + 1) = none := I.hok.fresh hsz
  have kk : ∀ b o, hp.get? b = some o → ((hp.push (PySem.W.kdv_tup us)).push (PySem.HandSPX.excO C hp.objs.size)).get? b = some o := fun b o e => Heap.get?_push_of_some _ (Heap.get?_push_of_some _ e)
  have hget : ((hp.push (PySem.W.kdv_tup us)).push (PySem.HandSPX.excO C hp.objs.size)).get? (hp.objs.size + 1) = some (PySem.HandSPX.excO C hp.objs.size) := by heap_get
  have I2 : Inv X pins σ (upd H (hp.objs.size + 1) (exo (hp.objs.size + 1) C none)) ⟨(hp.push (PySem.W.kdv_tup us)).push (PySem.HandSPX.excO C hp.objs.size), gg, dr, tk, os⟩ :=
    I.laid (t' := tk) (a := hp.objs.size + 1) (o := exo (hp.objs.size + 1) C none) (h' := (hp.push (PySem.W.kdv_tup us)).push (PySem.HandSPX.excO C hp.objs.size)) kk hsz (exo_ok hget)
  have r2 : Vals (V.ref (hp.objs.size + 1) :: pickL .non ix (vs ++ zs)) (Value.ref (hp.objs.size + 1) :: pickL .none ix (us ++ ws)) := .cons rfl (pick_vals (r.append rz) ix)
  have hus : us.length ≤ sizeLine := by
    rw [sizeLine_eq]
    omega
  have hq : spInit C fl (V.ref (hp.objs.size + 1) :: pickL .non ix (vs ++ zs)) (upd H (hp.objs.size + 1) (exo (hp.objs.size + 1) C none)) (fun v H2 => v = .non ∧ Q (.ref (hp.objs.size + 1)) H2) (fun _ _ _ => False) :=
    ⟨_, _, H, rfl, hl, hn, rfl, fun H' m => ⟨rfl, h _ H' hn m⟩⟩
  refine wpAny_call (PySem.OXG.call_ownK FB hT (I.kIn _ _ hC) (PySem.W.looks_findIn I.kIn iC) (fun self => PySem.W.bind_fn I.kIn self tI) hus
    (codeAny_mono (F1.run _ X.stack _ _ ⟨Value.ref (hp.objs.size + 1) :: us, ks.zip ws⟩ (Value.ref (hp.objs.size + 1) :: pickL .none ix (us ++ ws)) _ _ (fun _ _ _ => False) g (hr.make C us (ks.zip ws)) (I2.env0.make C us (ks.zip ws)) (hb _ _ I2.kIn) r2 hq) fun r s' hq' => ?_))
  cases r with
  | error er =>
    obtain ⟨_, _, _, _, _, _, _, _, _, _, _, _, z⟩ := hq'
    exact z.elim
  | ok fl =>
    cases fl with
    | ret u =>
      obtain ⟨v, H', I3, rv, ev, q3⟩ := I2.after hq'
      subst ev
      exact ⟨rv, ⟨V.ref (hp.objs.size + 1), H', I3, rfl, q3⟩⟩
    | next => exact False.elim hq'
    | brk => exact False.elim hq'
    | cont => exact False.elim hq'
end
/-- a class of exceptions called x -/
structure NewC (P : Program) (w : World) (G : GT) (mg : Str → Option Value) (base : Heap) (x : Str) (c k : Nat) (fl ps : List Str) (bd : List (Nat × List Str × List Nat)) : Prop where
  ex : ∃ (C fI : Addr) (fd : FuncData) (id : String), G.FA c = some C ∧ OexG G.K C id ∧ PySem.W.findIn G.K (.ref C) "__init__" = some (some (.ref fI)) ∧ PySem.W.typeIn G.K (.ref fI) = some (.type "function") ∧ FnG P w G.K mg base k fI fd ps (spInit C fl) ∧ mg x = some (.ref C) ∧
    ∀ q ∈ bd, ∀ (s : Shared) (self : Value) (us ws : List Value), us.length = q.1 → ws.length = q.2.1.length → BindsTo s fd ⟨self :: us, q.2.1.zip ws⟩ (ps.zip (self :: pickL .none q.2.2 (us ++ ws)))
def newX (c : Nat) (fl : List Str) (ys : List Dv) (μ : Store) : Out Dv := if ys.length = fl.length then .ok (.c μ.length) (μ ++ [.exc c (fl.zip ys).reverse]) else .bad
def eNew (c : Nat) (fl : List Str) (n m : Nat) (ix : List Nat) (a k : MA) : ME := fun ρ μ => (a ρ μ).bind fun bs μ => (k ρ μ).bind fun cs μ => if bs.length = n ∧ cs.length = m then newX c fl (pickL (.d .none) ix (bs ++ cs)) μ else .bad
section
variable {G : GT} {W : WX} {σ : L2.St} {w : Wd} {μ : Store} {H : Hp} {Q : VK}
theorem Paired.rev {α β : Type} {F : α → β → Prop} : ∀ {l : List α} {m : List β}, Paired F l m → Paired F l.reverse m.reverse := by
  intro l m h
  have key : ∀ {l : List α} {m : List β}, Paired F l m → ∀ {l' : List α} {m' : List β}, Paired F l' m' → Paired F (l.reverse ++ l') (m.reverse ++ m') := by
    intro l m h
    induction h with
    | nil => intro l' m' h'; exact h'
    | cons r t ih => intro l' m' h'; simpa using ih (.cons r h')
  simpa using key h .nil
theorem zip_flds : ∀ {fl : List Str} {ys : List V} {bs : List Dv}, Rvs G w ys bs → Paired (fun (p : Str × V) (q : Str × Dv) => p.1 = q.1 ∧ Rv G w p.2 q.2) (fl.zip ys) (fl.zip bs)
  | [], _, _, _ => by simpa using (Paired.nil : Paired (fun (p : Str × V) (q : Str × Dv) => p.1 = q.1 ∧ Rv G w p.2 q.2) [] [])
  | f :: fl, _, _, .nil => by simpa using (Paired.nil : Paired (fun (p : Str × V) (q : Str × Dv) => p.1 = q.1 ∧ Rv G w p.2 q.2) [] [])
  | f :: fl, _, _, .cons r t => .cons ⟨rfl, r⟩ (zip_flds t)
theorem new_ok {c : Nat} {fl : List Str} {ys : List V} {bs : List Dv} {C : Addr} (l : Lay G w μ H) (r : Rvs G w ys bs) (hC : G.FA c = some C) (p : Pst G W σ (Rv G) w (newX c fl bs μ) Q) :
    ys.length = fl.length ∧ ∀ a H', H a = none → Made C fl ys a H H' → Q (.ref a) H' := by
  unfold newX at p
  by_cases z : bs.length = fl.length
  · rw [if_pos z] at p
    have zl : ys.length = fl.length := by rw [Paired.length r]; exact z
    refine ⟨zl, fun a H' na m => ?_⟩
    rcases m with ⟨rfl, rfl⟩ | ⟨dx, nd, ne, rfl⟩
    · obtain ⟨le, l2⟩ := l.cell (c := .exc c []) na (o := exo a C none) fun H' e => ⟨(l.na na).1, C, hC, .inl ⟨rfl, e⟩⟩
      exact p _ (.ref a) _ le (by simpa using l2) ⟨a, by rw [← l.len]; simp, rfl⟩
    · obtain ⟨le1, l1⟩ := l.new nd (exd dx (fl.zip ys).reverse)
      have na1 : upd H dx (exd dx (fl.zip ys).reverse) a = none := by rw [upd_ne (Ne.symm ne)]; exact na
      have lx : (w.put dx (exd dx (fl.zip ys).reverse)).le ((w.put dx (exd dx (fl.zip ys).reverse)).ext a) := ⟨Same.refl _, List.prefix_append _ _, Same.refl _⟩
      obtain ⟨le, l2⟩ := l1.cell (c := .exc c (fl.zip bs).reverse) na1 (o := exo a C (some dx)) fun H' e => ⟨(l1.na na1).1, C, hC, .inr ⟨dx, (fl.zip ys).reverse, e, upd_same, Paired.rev (zip_flds (Rvs.mono (le1.trans lx) r))⟩⟩
      exact p _ (.ref a) _ (le1.trans le) l2 ⟨a, by rw [← l1.len]; simp, rfl⟩
  · rw [if_neg z] at p
    exact p.elim
end
section
variable {X : Cx} {G : GT} {W : WX} {e : Expr} {es : List Expr} {kws : List Keyword} {mas mks : MA} {pos p : Pos} {x : Str} {c k n m : Nat} {fl ps ks : List Str} {bd : List (Nat × List Str × List Nat)} {ix : List Nat}
theorem new_imp {σ : L2.St} {H : Hp} {Q : VK} {n : Nat} {fl : List Str} : tE G W (eNew c fl n m ix mas mks) σ H Q → tA G W mas σ H fun vs H1 => tA G W mks σ H1 fun zs H2 => ∃ w μ bs cs, Lay G w μ H2 ∧ Rvs G w vs bs ∧ Rvs G w zs cs ∧ bs.length = n ∧ cs.length = m ∧ Pst G W σ (Rv G) w (newX c fl (pickL (.d .none) ix (bs ++ cs)) μ) Q := by
  rintro ⟨w, μ, ρ, hl, he, p⟩
  refine tD.seq (k := fun ρ bs μ => (mks ρ μ).bind fun cs μ => if bs.length = n ∧ cs.length = m then newX c fl (pickL (.d .none) ix (bs ++ cs)) μ else .bad) hl he p fun w1 μ1 H1 v b l1 lay1 en1 r1 p1 => ?_
  refine tD.seq (k := fun ρ cs μ => if b.length = n ∧ cs.length = m then newX c fl (pickL (.d .none) ix (b ++ cs)) μ else .bad) lay1 en1 p1 fun w2 μ2 H2 v2 b2 l2 lay2 en2 r2 p2 => ?_
  by_cases z : b.length = n ∧ b2.length = m
  · rw [if_pos z] at p2
    exact ⟨w2, μ2, b, b2, lay2, Rvs.mono l2 r1, r2, z.1, z.2, p2⟩
  · rw [if_neg z] at p2
    exact p2.elim
/-- C(e, ..) -/
theorem de_new (ix : List Nat) (hK : X.K = G.K) (C : NewC X.prog X.w G X.mg X.base x c k fl ps bd) (g : X.A.guards = some []) (hr : Room (k + 1) X.A) (hg : Gl X x) (ha : DA X G W (e :: es) mas) (hm : (n, ([] : List Str), ix) ∈ bd) (hn : n ≤ 100)
    (hdb : (x == ("__debug__" : Str)) = false := by decide) (he : starEach (e :: es) X.env = (false, eval e X.env) :: starEach es X.env := by rfl) (hpl : (backTo pos (starEach es X.env)).any (·.1) = false := by rfl) :
    DE X G W (.Call (.Name x p) (e :: es) [] pos) (eNew c fl n 0 ix mas aNil) := by
  obtain ⟨Ca, fI, fd, id, hC, T, iC, tI, F1, hm2, hb⟩ := C.ex
  rw [← hK] at T iC tI F1
  refine ⟨fun pins s σ H Q I h => ?_⟩
  have h := new_imp h
  refine wpAny_Call_Name_kw (ld_glob I hg hm2 ?_ hdb)
  refine PySem.W.callWith_K (h₀ := X.base) I.ok.mod.kin T.kC (thn (ha.run pos pins s σ H _ I h) fun us s1 ⟨vs, H1, I1, r, q⟩ => ⟨I1.kIn, ?_⟩) he hpl
  obtain ⟨w, μ, ρ, hl, he2, pp⟩ := q
  obtain ⟨w, μ, bs, cs, lay, rb, rc, z1, z2, p⟩ := pp w [] H1 w.le_refl hl .nil
  cases rc
  have nk := new_ok lay (pick_rvs (Rvs_app rb (.nil : Rvs G w [] [])) ix) hC p
  have lu : us.length = n := by rw [← r.length, Paired.length rb]; exact z1
  have key := run_newX (ks := []) (ws := []) (zs := []) (ix := ix) T iC tI F1 g hr (fun s self X2 => hb (n, [], ix) hm s self us [] lu rfl) I1 r .nil nk.1 (by omega) nk.2
  exact key
/-- C() -/
theorem de_new0 (hK : X.K = G.K) (C : NewC X.prog X.w G X.mg X.base x c k fl ps bd) (g : X.A.guards = some []) (hr : Room (k + 1) X.A) (hg : Gl X x) (hm : (0, ([] : List Str), []) ∈ bd)
    (hdb : (x == ("__debug__" : Str)) = false := by decide) : DE X G W (.Call (.Name x p) [] [] pos) (eNew c fl 0 0 [] aNil aNil) := by
  obtain ⟨Ca, fI, fd, id, hC, T, iC, tI, F1, hm2, hb⟩ := C.ex
  rw [← hK] at T iC tI F1
  refine ⟨fun pins s σ H Q I h => ?_⟩
  obtain ⟨w, μ, ρ, hl, he2, pp⟩ := h
  refine wpAny_Call_Name_kw (ld_glob I hg hm2 ?_ hdb)
  refine PySem.W.callWith_K0 I.kIn T.kC ?_
  have nk := new_ok (bs := []) (ys := []) hl .nil hC pp
  have key := run_newX (ks := []) (ws := []) (us := []) (vs := []) (zs := []) (ix := []) T iC tI F1 g hr (fun s self X2 => hb (0, [], []) hm s self [] [] rfl rfl) I .nil .nil nk.1 (by simp) nk.2
  exact key
/-- C(k = e, ..) -/
theorem de_newK (ks : List Str) (ix : List Nat) (hK : X.K = G.K) (C : NewC X.prog X.w G X.mg X.base x c k fl ps bd) (g : X.A.guards = some []) (hr : Room (k + 1) X.A) (hg : Gl X x) (hkw : DK X G W kws mks) (hm : (0, ks, ix) ∈ bd)
    (hall : (backToKw pos (keywordEach kws X.env)).all (·.1.isSome) = true := by rfl) (hks : (backToKw pos (keywordEach kws X.env)).filterMap (·.1) = ks := by rfl)
    (hdb : (x == ("__debug__" : Str)) = false := by decide) (hpl : ((backTo pos (starEach [] X.env)).any (·.1) || (backToKw pos (keywordEach kws X.env)).any (·.1.isNone)) = false := by rfl) (hl : ks.length = m := by rfl) :
    DE X G W (.Call (.Name x p) [] kws pos) (eNew c fl 0 m ix aNil mks) := by
  subst hl
  obtain ⟨Ca, fI, fd, id, hC, T, iC, tI, F1, hm2, hb⟩ := C.ex
  rw [← hK] at T iC tI F1
  refine ⟨fun pins s σ H Q I h => ?_⟩
  have h : tA G W aNil σ H _ := new_imp h
  obtain ⟨w, μ, ρ, hl, he2, pp⟩ := h
  have h := pp w [] H w.le_refl hl .nil
  refine wpAny_Call_Name_kw (ld_glob I hg hm2 ?_ hdb)
  refine PySem.W.callWith_KW0 (h₀ := X.base) I.ok.mod.kin T.kC hall (thn (hkw.run pos pins s σ H _ I h) fun ws s1 ⟨zs, H1, I1, r, q⟩ => ⟨I1.kIn, ?_⟩) hpl
  obtain ⟨w, μ, bs, cs, lay, rb, rc, z1, z2, p⟩ := q
  rw [hks]
  cases rb
  have nk := new_ok lay (pick_rvs rc ix) hC p
  have lu : ws.length = ks.length := by rw [← r.length, Paired.length rc]; exact z2
  exact run_newX (us := []) (vs := []) (ix := ix) T iC tI F1 g hr (fun s self X2 => hb (0, ks, ix) hm s self [] ws rfl lu) I1 .nil r nk.1 (by simp) nk.2
/-- C(e, .., k = e, ..) -/
theorem de_newM (ks : List Str) (ix : List Nat) (hK : X.K = G.K) (C : NewC X.prog X.w G X.mg X.base x c k fl ps bd) (g : X.A.guards = some []) (hr : Room (k + 1) X.A) (hg : Gl X x) (ha : DA X G W (e :: es) mas) (hkw : DK X G W kws mks) (hm : (n, ks, ix) ∈ bd) (hn : n ≤ 100)
    (hall : (backToKw pos (keywordEach kws X.env)).all (·.1.isSome) = true := by rfl) (hks : (backToKw pos (keywordEach kws X.env)).filterMap (·.1) = ks := by rfl)
    (hdb : (x == ("__debug__" : Str)) = false := by decide) (he : starEach (e :: es) X.env = (false, eval e X.env) :: starEach es X.env := by rfl)
    (hpl : ((backTo pos (starEach (e :: es) X.env)).any (·.1) || (backToKw pos (keywordEach kws X.env)).any (·.1.isNone)) = false := by rfl) (hl : ks.length = m := by rfl) :
    DE X G W (.Call (.Name x p) (e :: es) kws pos) (eNew c fl n m ix mas mks) := by
  subst hl
  obtain ⟨Ca, fI, fd, id, hC, T, iC, tI, F1, hm2, hb⟩ := C.ex
  rw [← hK] at T iC tI F1
  refine ⟨fun pins s σ H Q I h => ?_⟩
  have h := new_imp h
  refine wpAny_Call_Name_kw (ld_glob I hg hm2 ?_ hdb)
  refine PySem.W.callWith_KW (h₀ := X.base) I.ok.mod.kin T.kC hall (thn (ha.run pos pins s σ H _ I h) fun us s1 ⟨vs, H1, I1, r, q⟩ => ?_) hpl he
  refine thn (hkw.run pos pins s1 σ H1 _ I1 q) fun ws s2 ⟨zs, H2, I2, rz, q2⟩ => ⟨I2.kIn, ?_⟩
  obtain ⟨w, μ, bs, cs, lay, rb, rc, z1, z2, p⟩ := q2
  rw [hks]
  have nk := new_ok lay (pick_rvs (Rvs_app rb rc) ix) hC p
  have lu : us.length = n := by rw [← r.length, Paired.length rb]; exact z1
  have lw : ws.length = ks.length := by rw [← rz.length, Paired.length rc]; exact z2
  exact run_newX (ix := ix) T iC tI F1 g hr (fun s self X2 => hb (n, ks, ix) hm s self us ws lu lw) I2 r rz nk.1 (by show us.length ≤ 1000; omega) nk.2
end
end DL

/-! Exceptions as cells: isinstance, their fields. -/
namespace L2
open PySem PySem.Spec PyProof.Rows
/-- isinstance(e, c), e an exception that is tracked -/
def rIsG (K : PySem.W.Frag) : List V → Hp → VK → Prop := fun xs H Q => ∃ (a C : Addr) (c : V) (cv : Value) (b : Bool), xs = [.ref a, c] ∧ (∀ u, RelV c u → u = cv) ∧ ExcC K C ∧
  (H a = some (exo a C none) ∨ ∃ dx fs, H a = some (exo a C (some dx)) ∧ H dx = some (exd dx fs)) ∧ PySem.W.kitOne K (.ref C) cv = some b ∧ Q (.bl b) H
theorem ExcC.cl {K : PySem.W.Frag} {D : Addr} (C : ExcC K D) : (PySem.W.clsIn K D).isSome = true := by
  obtain ⟨cd, hc, _⟩ := PySem.W.any_some C.hd
  rw [hc]
  rfl
theorem exo_inst {X : Cx} {pins : List (Addr × Obj)} {σ : St} {H : Hp} {s : Shared} {a C : Addr} (I : Inv X pins σ H s) (h : H a = some (exo a C none)) : ∃ ox, PySem.W.InstAt s.heap a ox C none := by
  obtain ⟨t1, ho⟩ := exo_at I.hok h
  exact ⟨_, ho, rfl, rfl, trivial⟩
theorem exo_instD {X : Cx} {pins : List (Addr × Obj)} {σ : St} {H : Hp} {s : Shared} {a C dx : Addr} {fs : List (Str × V)} (I : Inv X pins σ H s) (h : H a = some (exo a C (some dx))) (hd : H dx = some (exd dx fs)) :
    ∃ (ox od : Obj) (mA : Str → Option Value), PySem.W.InstAt s.heap a ox C (some od) ∧ (∀ n, PySem.W.lookIn n od = some (mA n)) ∧ ∀ f, RelO (fs.lookup f) (mA f) := by
  obtain ⟨t1, ho⟩ := exo_at I.hok h
  obtain ⟨mA, hns, hr⟩ := exd_at I.hok hd
  obtain ⟨od, hod, hl⟩ := lookIn_ns hns
  exact ⟨_, od, mA, ⟨ho, rfl, rfl, hod⟩, hl, hr⟩
theorem call_isG {X : Cx} : CallR X (.builtin "isinstance") (rIsG X.K) := by
  intro pins s σ H xs us Q I r h
  obtain ⟨a, D, c, cv, b, rfl, hcv, C, hh, e, q⟩ := h
  cases r with
  | cons rx rr =>
    cases rr with
    | cons rt rr =>
      cases rr
      cases rx
      have ec := hcv _ rt
      subst ec
      rcases hh with hh | ⟨dx, fs, hh, hd⟩
      · obtain ⟨ox, J⟩ := exo_inst I hh
        exact PySem.W.kia_one (PySem.W.kitx_exc C.cl C.hg C.hk C.hs C.ha C.hn C.ht C.hm) I.kIn J e (fun z => nomatch z) fun tk => ⟨.bl b, H, I.kept (t' := tk) fun _ _ z => z, rfl, q⟩
      · obtain ⟨ox, od, mA, J, _, _⟩ := exo_instD I hh hd
        exact PySem.W.kia_one (PySem.W.kitx_exc C.cl C.hg C.hk C.hs C.ha C.hn C.ht C.hm) I.kIn J e (fun z => nomatch z) fun tk => ⟨.bl b, H, I.kept (t' := tk) fun _ _ z => z, rfl, q⟩
/-- e.f -/
def tXg (K : PySem.W.Frag) (f : Str) (te : TE) : TE := fun σ H Q => te σ H fun x H1 => ∃ (a C dx : Addr) (fs : List (Str × V)) (v : V), x = .ref a ∧ ExcC K C ∧ PySem.W.findIn K (.ref C) f = some none ∧ H1 a = some (exo a C (some dx)) ∧ H1 dx = some (exd dx fs) ∧ fs.lookup f = some v ∧ Q v H1
theorem pe_xg {X : Cx} {e : Expr} {te : TE} {pos : Pos} {n : Str} (he : PE X e te) (hb : attributeBase e n X.env (eval e X.env) = eval e X.env := by rfl) : PE X (.Attribute e n pos) (tXg X.K n te) := by
  refine ⟨fun pins s σ H Q I h => ?_⟩
  refine attr_of hb (thn (he.run pins s σ H _ I h) fun u s1 hh => ?_)
  obtain ⟨x, H1, I1, rx, a, C, dx, fs, v, ex, T, hno, ea, ed, l, q⟩ := hh
  subst ex
  obtain rfl : u = Value.ref a := rx
  obtain ⟨ox, od, mA, J, hl, hr⟩ := exo_instD I1 ea ed
  obtain ⟨u, hu, ru⟩ := RelO.some_of (v := v) (o := mA n) (by rw [← l]; exact hr n)
  exact PySem.HandSPX.exc_get I1.kIn J T.hg T.hk T.hs (PySem.W.findObj_own T.hd hno rfl (by rw [hl, hu])) (handed_of ru) ⟨v, H1, I1.tok _, ru, q⟩
end L2
namespace DL
open PySem PySem.Spec PyProof.Rows L2
/-- isinstance(e, cv) of the first n classes: tb says of which it's so -/
def IsX (G : GT) (cv : Value) (n : Nat) (tb : List Nat) : Prop := ∀ c, c < n → ∃ C, G.FA c = some C ∧ ExcC G.K C ∧ PySem.W.kitOne G.K (.ref C) cv = some (tb.contains c)
def dIsx (n : Nat) (tb : List Nat) : Op1 := fun x μ => match x with
  | .c k => match μ[k]? with
    | some (.exc c _) => if c < n then .ok (.d (.bool (tb.contains c))) μ else .bad
    | _ => .bad
  | _ => .bad
def FlX (G : GT) (f : Str) (cs : List Nat) : Prop := ∀ c ∈ cs, ∃ C, G.FA c = some C ∧ ExcC G.K C ∧ PySem.W.findIn G.K (.ref C) f = some none
def dFlx (cs : List Nat) (f : Str) : Op1 := fun x μ => match x with
  | .c k => match μ[k]? with
    | some (.exc c fs) => if c ∈ cs then match fs.lookup f with
      | some b => .ok b μ
      | none => .bad else .bad
    | _ => .bad
  | _ => .bad
section
variable {X : Cx} {G : GT} {W : WX} {e : Expr} {m : ME} {p p2 pos : Pos} {f : Str} {cs : List Nat} {n : Nat} {tb : List Nat} {cv : Value} {te : TE} {tn : Str}
theorem cell_exc {w : Wd} {μ : Store} {H : Hp} {k c : Nat} {v : V} {fs : List (Str × Dv)} (l : Lay G w μ H) (r : Rv G w v (.c k)) (e : μ[k]? = some (.exc c fs)) : ∃ a C, v = .ref a ∧ G.FA c = some C ∧
    ((fs = [] ∧ H a = some (exo a C none)) ∨ ∃ dx ws, H a = some (exo a C (some dx)) ∧ H dx = some (exd dx ws) ∧ Paired (fun (p : Str × V) (q : Str × Dv) => p.1 = q.1 ∧ Rv G w p.2 q.2) ws fs) := by
  obtain ⟨a, ha, rfl⟩ := r
  obtain ⟨_, C, hC, h⟩ := l.at_ k _ a e ha
  refine ⟨a, C, rfl, hC, ?_⟩
  rcases h with h | ⟨dx, ws, h1, h2, h3⟩
  · exact .inl h
  · exact .inr ⟨dx, ws, h1, l.same _ _ h2, h3⟩
theorem look_flds {w : Wd} {f : Str} : ∀ {ws : List (Str × V)} {fs : List (Str × Dv)} {b : Dv}, Paired (fun (p : Str × V) (q : Str × Dv) => p.1 = q.1 ∧ Rv G w p.2 q.2) ws fs → fs.lookup f = some b → ∃ v, ws.lookup f = some v ∧ Rv G w v b
  | _, _, _, .nil, h => by cases h
  | (g, x) :: ws, (g2, y) :: fs, b, .cons r t, h => by
    obtain ⟨rfl, r⟩ := r
    rw [lookup_put]
    simp only [List.lookup] at h
    by_cases z : f = g
    · subst z
      simp only [beq_self_eq_true] at h
      cases h
      exact ⟨x, by rw [if_pos rfl], r⟩
    · have z2 : (f == g) = false := by simpa using z
      rw [z2] at h
      rw [if_neg z]
      exact look_flds t h
theorem de_isx (hK : X.K = G.K) (hi : IsX G cv n tb) (hg : Gl X "isinstance") (hm : X.mg "isinstance" = none) (ha : DE X G W e m) (ht : PE X (.Name tn p2) (tC v)) (hcv : ∀ u, RelV v u → u = cv)
    (h1 : starEach [e, .Name tn p2] X.env = (false, eval e X.env) :: starEach [.Name tn p2] X.env := by rfl)
    (h2 : starEach [.Name tn p2] X.env = (false, eval (.Name tn p2) X.env) :: starEach [] X.env := by rfl) (hpl : (backTo pos (starEach [.Name tn p2] X.env)).any (·.1) = false := by rfl) :
    DE X G W (.Call (.Name "isinstance" p) [e, .Name tn p2] [] pos) (e1 (dIsx n tb) m) := by
  have b1 : bootBuiltins "isinstance" = some (.builtin "isinstance") := by decide +kernel
  refine PE.imp (pe_callB call_isG hg hm b1 (pa_cons ha (pa_cons ht pa_nil h2) h1) (by decide) (by decide) h1 hpl) ?_
  rintro σ H Q ⟨w, μ, ρ, hl, he, pp⟩
  refine tD.seq (k := fun ρ x μ => dIsx n tb x μ) hl he pp fun w1 μ1 H1 x b l1 lay1 en1 r1 p1 => ?_
  unfold dIsx at p1
  split at p1
  · rename_i k
    split at p1
    · rename_i c fs ec
      by_cases hc : c < n
      · rw [if_pos hc] at p1
        obtain ⟨a, C, rfl, hC, hh⟩ := cell_exc lay1 r1 ec
        obtain ⟨C2, hC2, EC, hk⟩ := hi c hc
        rw [hC] at hC2
        cases hC2
        refine ⟨a, C, v, cv, _, rfl, hcv, by rw [hK]; exact EC, ?_, by rw [hK]; exact hk, p1 w1 _ H1 w1.le_refl lay1 (.bl _)⟩
        rcases hh with ⟨_, h⟩ | ⟨dx, ws, h3, h4, _⟩
        · exact .inl h
        · exact .inr ⟨dx, ws, h3, h4⟩
      · rw [if_neg hc] at p1
        exact p1.elim
    · exact p1.elim
  · exact p1.elim
theorem de_flx (hK : X.K = G.K) (hf : FlX G f cs) (ha : DE X G W e m) (hb : attributeBase e f X.env (eval e X.env) = eval e X.env := by rfl) : DE X G W (.Attribute e f pos) (e1 (dFlx cs f) m) := by
  refine PE.imp (pe_xg ha hb) ?_
  rintro σ H Q ⟨w, μ, ρ, hl, he, pp⟩
  refine tD.seq (k := fun ρ x μ => dFlx cs f x μ) hl he pp fun w1 μ1 H1 x b l1 lay1 en1 r1 p1 => ?_
  unfold dFlx at p1
  split at p1
  · rename_i k
    split at p1
    · rename_i c fs ec
      by_cases hc : c ∈ cs
      · rw [if_pos hc] at p1
        split at p1
        · rename_i y ey
          obtain ⟨a, C, rfl, hC, hh⟩ := cell_exc lay1 r1 ec
          obtain ⟨C2, hC2, EC, hk⟩ := hf c hc
          rw [hC] at hC2
          cases hC2
          rcases hh with ⟨h, _⟩ | ⟨dx, ws, h3, h4, h5⟩
          · rw [h] at ey
            cases ey
          · obtain ⟨v, e1, rv⟩ := look_flds h5 ey
            exact ⟨a, C, dx, ws, v, rfl, by rw [hK]; exact EC, by rw [hK]; exact hk, h3, h4, e1, p1 w1 v H1 w1.le_refl lay1 rv⟩
        · exact p1.elim
      · rw [if_neg hc] at p1
        exact p1.elim
    · exact p1.elim
  · exact p1.elim
end
end DL

/-! raise C(..) by places and names; try with several clauses `except X as n`. -/
namespace L2
open PySem PySem.Spec PyProof.Rows
/-- the name of slot i goes behind the suite -/
def Ends.un (D : Ends) (i : Nat) : Ends := { nx := fun σ' H' => D.nx (σ'.set i none) H', rt := D.rt, bk := fun σ' H' => D.bk (σ'.set i none) H', ct := fun σ' H' => D.ct (σ'.set i none) H' }
def wManyA (K : PySem.W.Frag) (Wout : WX) (D : Ends) : List (Value × Nat × (Addr → Value → Option Addr → TS)) → WX
  | [] => Wout
  | (c, i, ts) :: r => fun cls d σ H => ∃ b, PySem.W.exmOne K cls c = some b ∧ (b = true → ∀ a, H a = none → ts a cls d (D.un i) (σ.set i (some (.ref a))) H) ∧ (b = false → wManyA K Wout D r cls d σ H)
inductive HdsA (X : Cx) : List ExceptHandler → List (Value × Nat × (Addr → Value → Option Addr → TS)) → Prop
  | nil : HdsA X [] []
  | cons {x n : Str} {i : Nat} {c : Value} {ts : Addr → Value → Option Addr → TS} {b₀ : Stmt} {suite : List Stmt} {np pos' : Pos} {hds : List ExceptHandler} {l : List (Value × Nat × (Addr → Value → Option Addr → TS))}
      (hi : X.N[i]? = some n) (hln : X.env.kindOf n = some .local) (hc : Names X x c)
      (hsu : ∀ (a : Addr) (oe : Obj) (cls : Value) (d : Option Addr) (pn : List (Addr × Obj)), Zc cls d oe → (∃ vs, oe.data = .fields vs) → PSs (X.suite a ((a, oe) :: pn)) (b₀ :: suite) (ts a cls d)) (r : HdsA X hds l) :
      HdsA X (.ExceptHandler (some (.Name x np)) (some n) (b₀ :: suite) pos' :: hds) ((c, i, ts) :: l)
section
variable {X : Cx} {body : List Stmt} {h₀ : ExceptHandler} {hds : List ExceptHandler} {l : List (Value × Nat × (Addr → Value → Option Addr → TS))} {pos : Pos} {tb : WX → TS} {Wout : WX}
theorem ps_try_manyA (hs : X.stack = X.env :: X.outer) (hf : X.env.frame = some X.env.locals) (hN : X.N.Nodup) (tk : Takes X Wout)
    (hb : ∀ (W : WX) (pn : List (Addr × Obj)) (xe : Value → Shared → Prop), Takes (X.tr pn xe) W → PassesOwn (model X.prog X.w) X.A X.env xe → PSs (X.tr pn xe) body (tb W))
    (hh : HdsA X (h₀ :: hds) l) : PS X (.Try body (h₀ :: hds) [] [] pos) (fun D σ H => tb (wManyA X.K Wout D l) D σ H) := by
  refine ⟨fun pins s σ H D I h => ?_⟩
  have ok := I.ok
  have hfr : X.A.frames = some (X.env :: X.outer) := by rw [ok.frames, hs]
  refine wpAny_Try_except ?_
  refine wpAny_mono ((hb (wManyA X.K Wout D l) (X.pn ++ pins) (fun e s₁ => wpAny (model X.prog X.w) X.A (noteFrame e X.env) (fun _ s₂ => wpAny (model X.prog X.w) X.A (setFlight e none) (fun _ s₃ =>
    wpAny (model X.prog X.w) X.A (handleBy e X.env (h₀ :: hds)) (SP X pins D) X.xe s₃) X.xe s₂) X.xe s₁) (fun u s' xx => ?_) PassesOwn.looking).run [] s σ H D (I.toTry _) h) (fun f s1 hsp => ?_) (fun e s1 he => he)
  · -- the catch
    obtain ⟨a, B, sI, pins', σ', H', cls, d, rfl, J', nb, up, sky, na, os, ag, w⟩ := xx
    have J : Inv X pins σ' H' sI := J'.ofTry ok
    have sky' : Sky B (X.env :: X.outer) a (Zc cls d) X.env.locals s'.heap := by rw [← hs]; exact sky
    show wpAny (model X.prog X.w) X.A (noteFrame (.ref a) X.env) _ _ _
    refine Sky.land Zc.steady hfr hf sky' fun h3 fl3 up3 => ?_
    have J3 : Inv X pins σ' H' { s' with heap := h3 } := J.landed nb fl3.1 (up.trans up3) os ag
    obtain ⟨oe3, vs3, he3, hz3, hd3⟩ := fl3.there
    have notFr : ∀ {h : Heap} {o : Obj} {vs : Array Value}, h.FunFrames B (X.env :: X.outer) → h.get? a = some o → o.data = .fields vs → a ∉ frs (X.env :: X.outer) := fun {h o vs} ff e dd hm => by
      obtain ⟨_, o', e', hnf⟩ := ff.mem hm
      rw [e] at e'; cases e'
      exact hnf _ dd
    have nfr := notFr fl3.2.2.1 he3 hd3
    have nL : a ≠ X.env.locals := fun z => nfr (List.mem_filterMap.mpr ⟨X.env, List.mem_cons_self, by rw [hf, z]⟩)
    have nF : a ∉ X.fs := fun hm => by
      obtain ⟨e, he, q⟩ := List.mem_filterMap.mp hm
      exact nfr (List.mem_filterMap.mpr ⟨e, List.mem_cons_of_mem _ he, q⟩)
    have S3 := J3.suite he3 hd3 na nL nF
    have go : ∀ {hds' : List ExceptHandler} {l' : List (Value × Nat × (Addr → Value → Option Addr → TS))}, HdsA X hds' l' → wManyA X.K Wout D l' cls d σ' H' →
        wpAny (model X.prog X.w) X.A (handleBy (.ref a) X.env hds') (SP X pins D) X.xe { s' with heap := h3 } := by
      intro hds' l' hk
      induction hk with
      | nil =>
        intro w
        refine wpAny_handleBy_nil ?_
        obtain ⟨k1, k2, k3, oe, vs, T, oT, ts', he, hz, hd, h1, hr⟩ := id fl3
        unfold PySem.passOn
        refine wpAny_bind (wpAny_field he hd h1 ?_)
        rw [if_neg (show ¬ ((Value.ref T == Value.none) = true) from by simp)]
        have fin : wpAny (model X.prog X.w) X.A (setFlight (.ref a) X.env.frame) (fun _ s4 => wpAny (model X.prog X.w) X.A (throw (.ref a) : Sem Flow) (SP X pins D) X.xe s4) X.xe { s' with heap := h3 } := by
          rw [hf]
          refine HandSPX.setFlight_upZ fl3 fun h4 hh4 up4 => wpAny_throw (tk _ _ ?_)
          exact ⟨a, B, sI, pins, σ', H', cls, d, rfl, J, nb, (up.trans up3).trans up4, .inr (.inr (by rw [hs]; exact hh4)), na, os, ag, w⟩
        first
          | exact wpAny_bind (wpAny_pure (wpAny_bind fin))
          | exact wpAny_bind fin
      | @cons x n i c ts b₀ suite np pos' hds2 l2 hi hln hc hsu r ih =>
        intro w
        obtain ⟨b, hb1, hyes, hno⟩ := w
        refine wpAny_handleBy_cons (codeAny_handlers_test ?_) (by intro q; cases q)
        have LT : PySem.W.Looks (model X.prog X.w) h3 (typeOf (.ref a)) cls := fun A Q E s k q => wpAny_typeOf_ref (k _ _ he3) (by rw [hz3.1]; exact q)
        have LM := PySem.W.exm_one (M := model X.prog X.w) (J3.kIn) LT hb1
        have test : ∀ {Q : Value → Shared → Prop} {E : Value → Shared → Prop}, Q c { s' with heap := h3 } → wpAny (model X.prog X.w) (X.A.mark (some (.ref a))) (eval (.Name x np) X.env) Q E { s' with heap := h3 } := fun {Q E} q => by
          obtain ⟨hg, hdbg, hm | ⟨hm, hv, hnn⟩⟩ := hc
          · exact ld_glob (X := X.suite a ((a, oe3) :: (X.pn ++ pins))) S3 hg hm q hdbg
          · exact ld_blt (X := X.suite a ((a, oe3) :: (X.pn ++ pins))) S3 hg hm hv q hnn hdbg
        refine test (LM.here ?_)
        cases b with
        | true =>
          refine codeAny_handlers_suite_as ?_
          refine HandSPX.lands_againZ fl3 fun h4 fl4 up4 => ?_
          have J4 : Inv X pins σ' H' { s' with heap := h4 } := J.landed nb fl4.1 ((up.trans up3).trans up4) os ag
          obtain ⟨oe4, vs4, he4, hz4, hd4⟩ := fl4.there
          have S4 := J4.suite he4 hd4 na nL nF
          have hloc : Loc X.env.scope n := .inl hln
          refine store_ok (X := X.suite a ((a, oe4) :: (X.pn ++ pins))) (v := .ref a) S4 hN hi hloc rfl (fun s5 S5 => ?_) (.inr hln)
          refine wpAny_mono ((hsu a oe4 cls d (X.pn ++ pins) hz4 ⟨_, hd4⟩).run [] s5 _ H' _ S5 (hyes rfl a na)) (fun f s6 hsp => ?_) (fun _ _ z => False.elim z)
          have end_ : ∀ {σ6 : St} {H6 : Hp} {Q : Shared → Prop}, Inv (X.suite a ((a, oe4) :: (X.pn ++ pins))) [] σ6 H6 s6 → (∀ s7, Inv X pins (σ6.set i none) H6 s7 → Q s7) →
              wpAny (model X.prog X.w) X.A (do bindName X.env n .none; unbindBehindTheSuite X.env n pos') (fun _ s7 => Q s7) X.xe s6 := fun {σ6 H6 Q} S6 hq => gone_ok (S6.unsuite ok) hN hi hln hq
          cases f with
          | next =>
            obtain ⟨σ6, H6, S6, q6⟩ := hsp
            exact end_ S6 fun s7 J7 => ⟨_, _, J7, q6⟩
          | brk =>
            obtain ⟨σ6, H6, S6, q6⟩ := hsp
            exact end_ S6 fun s7 J7 => ⟨_, _, J7, q6⟩
          | cont =>
            obtain ⟨σ6, H6, S6, q6⟩ := hsp
            exact end_ S6 fun s7 J7 => ⟨_, _, J7, q6⟩
          | ret u =>
            obtain ⟨v6, σ6, H6, S6, r6, q6⟩ := hsp
            exact end_ S6 fun s7 J7 => ⟨_, _, _, J7, r6, q6⟩
        | false =>
          show wpAny _ X.A (handleBy (.ref a) X.env hds2) _ _ _
          exact ih (hno rfl)
    exact go hh w
  · cases f with
    | next =>
      obtain ⟨σ', H', J', q⟩ := hsp
      exact wpAny_execs_nil ⟨σ', H', J'.ofTry ok, q⟩
    | brk =>
      obtain ⟨σ', H', J', q⟩ := hsp
      exact ⟨σ', H', J'.ofTry ok, q⟩
    | cont =>
      obtain ⟨σ', H', J', q⟩ := hsp
      exact ⟨σ', H', J'.ofTry ok, q⟩
    | ret u =>
      obtain ⟨v, σ', H', J', r, q⟩ := hsp
      exact ⟨v, σ', H', J'.ofTry ok, r, q⟩
end
end L2
namespace DL
open PySem PySem.Spec PyProof.Rows L2
theorem upd_del {H : Hp} {a dx : Addr} {o1 o2 u : HO} (hn : H a = none) : upd (del (upd (upd H dx o1) a o2) a) dx u = upd H dx u := by
  funext b
  by_cases hb : b = dx
  · subst hb; rw [upd_same, upd_same]
  · rw [upd_ne hb, upd_ne hb]
    by_cases hb2 : b = a
    · subst hb2; rw [del_same, hn]
    · rw [del_ne hb2, upd_ne hb2, upd_ne hb]
/-- raise C(..): what is wished of the exception let go; ys: the fields' values -/
def tMkG (C : Addr) (fl : List Str) (ix : List Nat) (ta tk : TA) : L2.St → Hp → XK → Prop := fun σ H Q => ta σ H fun vs H1 => tk σ H1 fun zs H2 => vs.length ≤ 1000 ∧ (pickL .non ix (vs ++ zs)).length = fl.length ∧ fl ≠ [] ∧
  ∀ dx, H2 dx = none → Q (.ref C) (some dx) (upd H2 dx (.xd (fl.zip (pickL .non ix (vs ++ zs))).reverse))
section
variable {X : Cx} {pins : List (Addr × Obj)} {σ : L2.St} {k : Nat} {fI C : Addr} {fd : FuncData} {ps : List Str} {fl : List Str} {id : String} {ks : List Str} {ix : List Nat}
theorem run_mkX {H : Hp} {s : Shared} {Q : XK} {us ws : List Value} {vs zs : List V} (T : OexG X.K C id) (iC : PySem.W.findIn X.K (.ref C) "__init__" = some (some (.ref fI))) (tI : PySem.W.typeIn X.K (.ref fI) = some (.type "function"))
    (F1 : FnG X.prog X.w X.K X.mg X.base k fI fd ps (spInit C fl)) (g : X.A.guards = some []) (hr : Room (k + 1) X.A)
    (hb : ∀ (s : Shared) (self : Value), X.K.In s.heap → BindsTo s fd ⟨self :: us, ks.zip ws⟩ (ps.zip (self :: pickL .none ix (us ++ ws))))
    (I : Inv X pins σ H s) (r : Vals vs us) (rz : Vals zs ws) (hl : (pickL .non ix (vs ++ zs)).length = fl.length) (hfl : fl ≠ []) (hlu : us.length ≤ 1000)
    (h : ∀ dx, H dx = none → Q (.ref C) (some dx) (upd H dx (.xd (fl.zip (pickL .non ix (vs ++ zs))).reverse))) :
    wpAny (model X.prog X.w) X.A (call (.ref C) us (ks.zip ws)) (MkP X pins σ Q) X.xe s := by
  obtain ⟨B, newId, bmB, nm, q, N, bs, bm, sn, sub, ab, col, dd, k0, k1, k2, k3, k5, FB, hC, hT, hO, hP⟩ := T.cls
  obtain ⟨hp, gg, dr, tk, os⟩ := s
  have hsz : hp.objs.size ≤ hp.objs.size + 1 := Nat.le_succ _
  have hn : H (hp.objs.size + 1) = none := I.hok.fresh hsz
  have kk : ∀ b o, hp.get? b = some o → ((hp.push (PySem.W.kdv_tup us)).push (PySem.HandSPX.excO C hp.objs.size)).get? b = some o := fun b o e => Heap.get?_push_of_some _ (Heap.get?_push_of_some _ e)
  have hget : ((hp.push (PySem.W.kdv_tup us)).push (PySem.HandSPX.excO C hp.objs.size)).get? (hp.objs.size + 1) = some (PySem.HandSPX.excO C hp.objs.size) := by heap_get
  have I2 : Inv X pins σ (upd H (hp.objs.size + 1) (exo (hp.objs.size + 1) C none)) ⟨(hp.push (PySem.W.kdv_tup us)).push (PySem.HandSPX.excO C hp.objs.size), gg, dr, tk, os⟩ :=
    I.laid (t' := tk) (a := hp.objs.size + 1) (o := exo (hp.objs.size + 1) C none) (h' := (hp.push (PySem.W.kdv_tup us)).push (PySem.HandSPX.excO C hp.objs.size)) kk hsz (exo_ok hget)
  have r2 : Vals (V.ref (hp.objs.size + 1) :: pickL .non ix (vs ++ zs)) (Value.ref (hp.objs.size + 1) :: pickL .none ix (us ++ ws)) := .cons rfl (pick_vals (r.append rz) ix)
  have hus : us.length ≤ sizeLine := by
    rw [sizeLine_eq]
    omega
  have hq : spInit C fl (V.ref (hp.objs.size + 1) :: pickL .non ix (vs ++ zs)) (upd H (hp.objs.size + 1) (exo (hp.objs.size + 1) C none)) (fun v H2 => v = .non ∧ Made C fl (pickL .non ix (vs ++ zs)) (hp.objs.size + 1) H H2) (fun _ _ _ => False) :=
    ⟨_, _, H, rfl, hl, hn, rfl, fun H' m => ⟨rfl, m⟩⟩
  refine wpAny_call (PySem.OXG.call_ownK FB hT (I.kIn _ _ hC) (PySem.W.looks_findIn I.kIn iC) (fun self => PySem.W.bind_fn I.kIn self tI) hus
    (codeAny_mono (F1.run _ X.stack _ _ ⟨Value.ref (hp.objs.size + 1) :: us, ks.zip ws⟩ (Value.ref (hp.objs.size + 1) :: pickL .none ix (us ++ ws)) _ _ (fun _ _ _ => False) g (hr.make C us (ks.zip ws)) (I2.env0.make C us (ks.zip ws)) (hb _ _ I2.kIn) r2 hq) fun r s' hq' => ?_))
  cases r with
  | error er =>
    obtain ⟨_, _, _, _, _, _, _, _, _, _, _, _, z⟩ := hq'
    exact z.elim
  | ok fl =>
    cases fl with
    | ret u =>
      obtain ⟨v, H2, os2, bare2, un2, hok2, rv, ev, m⟩ := hq'
      subst ev
      obtain ⟨h2, g2, d2, t2, os'⟩ := s'
      rcases m with ⟨z, _⟩ | ⟨dx, nd, ne, rfl⟩
      · exact absurd z hfl
      · refine ⟨rv, mk_end (raises_own T.exC T.tyC) I hsz kk un2 hok2 os2 bare2 upd_same (by rw [upd_ne ne]; exact upd_same) nd ?_⟩
        rw [upd_del hn]
        exact h dx nd
    | next => exact False.elim hq'
    | brk => exact False.elim hq'
    | cont => exact False.elim hq'
end
section
variable {P : Program} {X : Cx} {G : GT} {e : Expr} {es : List Expr} {kws : List Keyword} {ta tk : TA} {pos p : Pos} {x : Str} {c k n : Nat} {fl ps ks : List Str} {bd : List (Nat × List Str × List Nat)} {ix : List Nat}
/-- C(k = e, ..), to be raised -/
theorem pmk_newK (ks : List Str) (ix : List Nat) (hK : X.K = G.K) (C : NewC X.prog X.w G X.mg X.base x c k fl ps bd) (g : X.A.guards = some []) (hr : Room (k + 1) X.A) (hg : Gl X x) (hkw : PK X kws tk) (hm : (0, ks, ix) ∈ bd)
    (hall : (backToKw pos (keywordEach kws X.env)).all (·.1.isSome) = true := by rfl) (hks : (backToKw pos (keywordEach kws X.env)).filterMap (·.1) = ks := by rfl)
    (hdb : (x == ("__debug__" : Str)) = false := by decide) (hpl : ((backTo pos (starEach [] X.env)).any (·.1) || (backToKw pos (keywordEach kws X.env)).any (·.1.isNone)) = false := by rfl) :
    PMk X (.Call (.Name x p) [] kws pos) (fun σ H Q => tk σ H fun zs H2 => zs.length = ks.length ∧ ∃ Ca, G.FA c = some Ca ∧ tMkG Ca fl ix (fun _ H Q => Q [] H) (fun _ H Q => Q zs H) σ H2 Q) := by
  obtain ⟨Ca, fI, fd, id, hC, T, iC, tI, F1, hm2, hb⟩ := C.ex
  rw [← hK] at T iC tI F1
  intro pins s σ H Q I h
  refine wpAny_Call_Name_kw (ld_glob I hg hm2 ?_ hdb)
  refine PySem.W.callWith_KW0 (h₀ := X.base) I.ok.mod.kin T.kC hall (thn (hkw.run pos pins s σ H _ I h) fun ws s1 ⟨zs, H1, I1, r, lz, Cb, hCb, _, hl, hfl, q⟩ => ⟨I1.kIn, ?_⟩) hpl
  rw [hC] at hCb
  cases hCb
  rw [hks]
  have lu : ws.length = ks.length := by rw [← r.length]; exact lz
  exact run_mkX (us := []) (vs := []) (ix := ix) T iC tI F1 g hr (fun s self X2 => hb (0, ks, ix) hm s self [] ws rfl lu) I1 .nil r hl hfl (by simp) q
/-- C(e, .., k = e, ..), to be raised -/
theorem pmk_newM (ks : List Str) (ix : List Nat) (hK : X.K = G.K) (C : NewC X.prog X.w G X.mg X.base x c k fl ps bd) (g : X.A.guards = some []) (hr : Room (k + 1) X.A) (hg : Gl X x) (ha : PA X (e :: es) ta) (hkw : PK X kws tk) (hm : (n, ks, ix) ∈ bd)
    (hall : (backToKw pos (keywordEach kws X.env)).all (·.1.isSome) = true := by rfl) (hks : (backToKw pos (keywordEach kws X.env)).filterMap (·.1) = ks := by rfl)
    (hdb : (x == ("__debug__" : Str)) = false := by decide) (he : starEach (e :: es) X.env = (false, eval e X.env) :: starEach es X.env := by rfl)
    (hpl : ((backTo pos (starEach (e :: es) X.env)).any (·.1) || (backToKw pos (keywordEach kws X.env)).any (·.1.isNone)) = false := by rfl) :
    PMk X (.Call (.Name x p) (e :: es) kws pos) (fun σ H Q => ta σ H fun vs H1 => tk σ H1 fun zs H2 => vs.length = n ∧ zs.length = ks.length ∧ ∃ Ca, G.FA c = some Ca ∧ tMkG Ca fl ix (fun _ H Q => Q vs H) (fun _ H Q => Q zs H) σ H2 Q) := by
  obtain ⟨Ca, fI, fd, id, hC, T, iC, tI, F1, hm2, hb⟩ := C.ex
  rw [← hK] at T iC tI F1
  intro pins s σ H Q I h
  refine wpAny_Call_Name_kw (ld_glob I hg hm2 ?_ hdb)
  refine PySem.W.callWith_KW (h₀ := X.base) I.ok.mod.kin T.kC hall (thn (ha.run pos pins s σ H _ I h) fun us s1 ⟨vs, H1, I1, r, q⟩ => ?_) hpl he
  refine thn (hkw.run pos pins s1 σ H1 _ I1 q) fun ws s2 ⟨zs, H2, I2, rz, lv, lz, Cb, hCb, hlu, hl, hfl, q2⟩ => ⟨I2.kIn, ?_⟩
  rw [hC] at hCb
  cases hCb
  rw [hks]
  have lu : us.length = n := by rw [← r.length]; exact lv
  have lw : ws.length = ks.length := by rw [← rz.length]; exact lz
  exact run_mkX (ix := ix) T iC tI F1 g hr (fun s self X2 => hb (n, ks, ix) hm s self us ws lu lw) I2 r rz hl hfl (by show us.length ≤ 1000; rw [← r.length]; exact hlu) q2
end
end DL

/-! a + b as a new cell; a walk over a tuple that was just displayed, whatever it holds. -/
namespace DL
open PySem PySem.Spec PyProof.Rows L2
/-- a + b, a new list that may be changed -/
def cAdd : Op2 := fun x y μ => match items x μ, items y μ with
  | some xs, some ys => cList (xs ++ ys) μ
  | _, _ => .bad
theorem ok_cadd {G : GT} : Ok2 G (rCatS G.K) cAdd := by
  intro W σ w μ H x y b c Q l rx ry p
  unfold cAdd at p
  split at p
  · rename_i xs ys e1 e2
    obtain ⟨a, vs, rfl, h1, h2⟩ := items_ok l rx e1
    obtain ⟨b, us, rfl, h3, h4⟩ := items_ok l ry e2
    obtain ⟨z, q⟩ := list_cell l (Rvs_app h2 h4) p
    exact ⟨a, b, vs, us, rfl, rfl, h1, h3, by rw [← List.length_append]; exact z, q⟩
  · exact p.elim
def iTupD (a : MA) : MI := fun ρ μ => (a ρ μ).bind fun bs μ => if bs.length ≤ sizeLine then .ok bs μ else .bad
section
variable {X : Cx} {G : GT} {W : WX} {tg : Expr} {es : List Expr} {mas : MA} {pos : Pos} {x1 : Nat}
theorem di_tupD {x1} (hK : X.K = G.K) (ha : DA X G W es mas) : DI X G W tg (.Tuple es x1 pos) (iTupD mas) := by
  refine PI.imp (pi_any (pe_tupS ha)) ?_
  rintro σ H Q ⟨w, μ, ρ, hl, he, p⟩
  refine tD.seq (k := fun ρ bs μ => if bs.length ≤ sizeLine then .ok bs μ else .bad) hl he p fun w1 μ1 H1 v b l1 lay1 en1 r1 p1 => ?_
  by_cases z : b.length ≤ sizeLine
  · rw [if_pos z] at p1
    refine ⟨by rw [Paired.length r1]; exact z, fun a its na => .inr (.inl ⟨a, rfl, ⟨v, .inl (.inr ⟨_, upd_same⟩)⟩, ?_⟩)⟩
    obtain ⟨le, l2⟩ := lay1.new na (frT its v)
    exact p1 _ _ _ le l2 (by rw [hK]; exact it_tup (.inl (.inr ⟨_, upd_same⟩)) (Rvs.mono le r1))
  · rw [if_neg z] at p1
    exact p1.elim
end
end DL

/-! What an __init__ of an own exception class does, by how many fields it has. -/
namespace DL
open PySem PySem.Spec PyProof.Rows L2
theorem spInit_len {C : Addr} {fl : List Str} {vs : List V} {H : Hp} {Q : VK} {E : XK} {n : Nat} (hn : fl.length + 1 = n) (h : spInit C fl vs H Q E) : vs.length = n := by
  obtain ⟨a, ys, H0, rfl, hl, _⟩ := h
  rw [List.length_cons, hl]
  exact hn
theorem upd_two {G : Hp} {a dx : Addr} {o1 o2 e : HO} (ne : dx ≠ a) : upd (upd (upd G a o1) dx e) a o2 = upd (upd G dx e) a o2 := by
  funext b
  by_cases h : b = a
  · subst h; rw [upd_same, upd_same]
  · rw [upd_ne h, upd_ne h]
    by_cases h2 : b = dx
    · subst h2; rw [upd_same, upd_same]
    · rw [upd_ne h2, upd_ne h2, upd_ne h]
theorem upd_on {G : Hp} {a dx : Addr} {o e1 e2 : HO} (ne : dx ≠ a) : upd (upd (upd G dx e1) a o) dx e2 = upd (upd G dx e2) a o := by
  funext b
  by_cases h2 : b = dx
  · subst h2; rw [upd_same, upd_ne ne, upd_same]
  · rw [upd_ne h2]
    by_cases h : b = a
    · subst h; rw [upd_same, upd_same]
    · rw [upd_ne h, upd_ne h, upd_ne h2, upd_ne h2]
section
variable {K : PySem.W.Frag} {C : Addr} {id : String} {vs : List V} {H : Hp} {Q : VK} {E : XK} {m f1 f2 f3 f4 p0 p1 p2 p3 p4 : Str}
def tXi0 (K : PySem.W.Frag) (id : String) (m : Str) : TE := tXI K id (tCons (tVar 0) (tCons (tC (.str m)) tNil))
abbrev EndsF (Q : VK) : Ends := ⟨fun _ H' => Q .non H', Q, fun _ _ => False, fun _ _ => False⟩
theorem sem0 (T : OexG K C id) (h : spInit C [] vs H Q E) : tDrop (tXi0 K id m) (EndsF Q) (L2.start [p0] vs) H := by
  obtain ⟨a, ys, H0, rfl, hl, na, rfl, k⟩ := h
  match ys, hl with
  | [], _ => exact ⟨V.ref a, rfl, a, C, [.str m], rfl, by simp, T, upd_same, k _ (.inl ⟨rfl, rfl⟩)⟩
theorem sem1 (T : OexG K C id) (n1 : PySem.W.findIn K (.ref C) f1 = some none) (h : spInit C [f1] vs H Q E) : tSeq (tDrop (tXi0 K id m)) (tOstG K f1 (tVar 0) (tVar 1)) (EndsF Q) (L2.start [p0, p1] vs) H := by
  obtain ⟨a, ys, H0, rfl, hl, na, rfl, k⟩ := h
  match ys, hl with
  | [y1], _ =>
    refine ⟨V.ref a, rfl, a, C, [.str m], rfl, by simp, T, upd_same, y1, rfl, V.ref a, rfl, a, C, id, rfl, T, n1, .inl ⟨upd_same, fun dx nd ne => ?_⟩⟩
    rw [upd_ne ne] at nd
    rw [upd_two ne]
    exact k _ (.inr ⟨dx, nd, ne, rfl⟩)
theorem sem2 (T : OexG K C id) (n1 : PySem.W.findIn K (.ref C) f1 = some none) (n2 : PySem.W.findIn K (.ref C) f2 = some none) (h : spInit C [f1, f2] vs H Q E) :
    tSeq (tDrop (tXi0 K id m)) (tSeq (tOstG K f1 (tVar 0) (tVar 1)) (tOstG K f2 (tVar 0) (tVar 2))) (EndsF Q) (L2.start [p0, p1, p2] vs) H := by
  obtain ⟨a, ys, H0, rfl, hl, na, rfl, k⟩ := h
  match ys, hl with
  | [y1, y2], _ =>
    refine ⟨V.ref a, rfl, a, C, [.str m], rfl, by simp, T, upd_same, y1, rfl, V.ref a, rfl, a, C, id, rfl, T, n1, .inl ⟨upd_same, fun dx nd ne => ?_⟩⟩
    rw [upd_ne ne] at nd
    rw [upd_two ne]
    refine ⟨y2, rfl, V.ref a, rfl, a, C, id, rfl, T, n2, .inr ⟨dx, _, upd_same, by rw [upd_ne ne]; exact upd_same, by simp, ?_⟩⟩
    rw [upd_on ne]
    exact k _ (.inr ⟨dx, nd, ne, rfl⟩)
theorem sem4 (T : OexG K C id) (n1 : PySem.W.findIn K (.ref C) f1 = some none) (n2 : PySem.W.findIn K (.ref C) f2 = some none) (n3 : PySem.W.findIn K (.ref C) f3 = some none) (n4 : PySem.W.findIn K (.ref C) f4 = some none) (h : spInit C [f1, f2, f3, f4] vs H Q E) :
    tSeq (tDrop (tXi0 K id m)) (tSeq (tOstG K f1 (tVar 0) (tVar 1)) (tSeq (tOstG K f2 (tVar 0) (tVar 2)) (tSeq (tOstG K f3 (tVar 0) (tVar 3)) (tOstG K f4 (tVar 0) (tVar 4))))) (EndsF Q) (L2.start [p0, p1, p2, p3, p4] vs) H := by
  obtain ⟨a, ys, H0, rfl, hl, na, rfl, k⟩ := h
  match ys, hl with
  | [y1, y2, y3, y4], _ =>
    refine ⟨V.ref a, rfl, a, C, [.str m], rfl, by simp, T, upd_same, y1, rfl, V.ref a, rfl, a, C, id, rfl, T, n1, .inl ⟨upd_same, fun dx nd ne => ?_⟩⟩
    rw [upd_ne ne] at nd
    rw [upd_two ne]
    refine ⟨y2, rfl, V.ref a, rfl, a, C, id, rfl, T, n2, .inr ⟨dx, _, upd_same, by rw [upd_ne ne]; exact upd_same, by simp, ?_⟩⟩
    rw [upd_on ne]
    refine ⟨y3, rfl, V.ref a, rfl, a, C, id, rfl, T, n3, .inr ⟨dx, _, upd_same, by rw [upd_ne ne]; exact upd_same, by simp, ?_⟩⟩
    rw [upd_on ne]
    refine ⟨y4, rfl, V.ref a, rfl, a, C, id, rfl, T, n4, .inr ⟨dx, _, upd_same, by rw [upd_ne ne]; exact upd_same, by simp, ?_⟩⟩
    rw [upd_on ne]
    exact k _ (.inr ⟨dx, nd, ne, rfl⟩)
end
/-- the base class whose __init__ is called -/
structure BaseX (K : PySem.W.Frag) (mg : Str → Option Value) (b : Str) (id : String) : Prop where
  ex : ∃ N, mg b = some (.ref N) ∧ PySem.W.specialIn K (.ref N) "__getattribute__" = some (some (.builtin "type.__getattribute__")) ∧ PySem.W.readsIn K N (.type "type") = true ∧
    PySem.W.findCls K (.ref N) (.type "type") "__init__" = some (.val (.builtin id)) ∧ PySem.W.handedIn (.builtin id) = true
theorem OexG.ofV {K : PySem.W.Frag} {C : Addr} {nm q : Str} {N : Addr} {bs bm : List Value} {sn : List Str} {sub : List Value} {ab : Bool} {col : Option Bool} {dd : Option Addr} {k0 k1 k2 k3 k5 : Option Value} (h : K.lookup C = some (excClassObj nm q C N bs bm true sn sub ab col dd k0 k1 k2 k3 k5 "ValueError.__new__"))
    (r : PySem.OXG.refsT PySem.OXG.tlV bm = true) (sa : PySem.W.findIn K (.ref C) "__setattr__" = some (some (.builtin "object.__setattr__"))) (exC : PySem.W.subIn K (.ref C) (.type "BaseException") = some true) (tyC : PySem.W.typeIn K (.ref C) = some (.type "type")) (kC : PySem.W.keepIn K (.ref C) = true) : OexG K C "ValueError.__init__" :=
  ⟨⟨_, _, _, nm, q, N, bs, bm, sn, sub, ab, col, dd, k0, k1, k2, k3, k5, PySem.F.excBase_ValueError, h, fun Y => PySem.OXG.refsT_contains Y bm r, by decide +kernel, fun self => PySem.OXG.refsT_pass self (PySem.OXG.passV self) bm r⟩, sa, exC, tyC, kC⟩
theorem OexG.ofL {K : PySem.W.Frag} {C : Addr} {nm q : Str} {N : Addr} {bs bm : List Value} {sn : List Str} {sub : List Value} {ab : Bool} {col : Option Bool} {dd : Option Addr} {k0 k1 k2 k3 k5 : Option Value} (h : K.lookup C = some (excClassObj nm q C N bs bm true sn sub ab col dd k0 k1 k2 k3 k5 "LookupError.__new__"))
    (r : PySem.OXG.refsT PySem.OXG.tlL bm = true) (sa : PySem.W.findIn K (.ref C) "__setattr__" = some (some (.builtin "object.__setattr__"))) (exC : PySem.W.subIn K (.ref C) (.type "BaseException") = some true) (tyC : PySem.W.typeIn K (.ref C) = some (.type "type")) (kC : PySem.W.keepIn K (.ref C) = true) : OexG K C "LookupError.__init__" :=
  ⟨⟨_, _, _, nm, q, N, bs, bm, sn, sub, ab, col, dd, k0, k1, k2, k3, k5, PySem.F.excBase_LookupError, h, fun Y => PySem.OXG.refsT_contains Y bm r, by decide +kernel, fun self => PySem.OXG.refsT_pass self (PySem.OXG.passL self) bm r⟩, sa, exC, tyC, kC⟩
theorem OexG.ofR {K : PySem.W.Frag} {C : Addr} {nm q : Str} {N : Addr} {bs bm : List Value} {sn : List Str} {sub : List Value} {ab : Bool} {col : Option Bool} {dd : Option Addr} {k0 k1 k2 k3 k5 : Option Value} (h : K.lookup C = some (excClassObj nm q C N bs bm true sn sub ab col dd k0 k1 k2 k3 k5 "RuntimeError.__new__"))
    (r : PySem.OXG.refsT PySem.OXG.tlR bm = true) (sa : PySem.W.findIn K (.ref C) "__setattr__" = some (some (.builtin "object.__setattr__"))) (exC : PySem.W.subIn K (.ref C) (.type "BaseException") = some true) (tyC : PySem.W.typeIn K (.ref C) = some (.type "type")) (kC : PySem.W.keepIn K (.ref C) = true) : OexG K C "RuntimeError.__init__" :=
  ⟨⟨_, _, _, nm, q, N, bs, bm, sn, sub, ab, col, dd, k0, k1, k2, k3, k5, PySem.F.excBase_RuntimeError, h, fun Y => PySem.OXG.refsT_contains Y bm r, by decide +kernel, fun self => PySem.OXG.refsT_pass self (PySem.OXG.passR self) bm r⟩, sa, exC, tyC, kC⟩
end DL

namespace LW
open PySem PySem.Spec PyProof.Rows L2 DL
@[simp] theorem S_0 : ("a" : Str) = T [97] := by decide +kernel
@[simp] theorem S_1 : ("" : Str) = T [] := by decide +kernel
@[simp] theorem S_2 : ("table" : Str) = T [116, 97, 98, 108, 101] := by decide +kernel
@[simp] theorem S_3 : ("b" : Str) = T [98] := by decide +kernel
/-! ### 1. The defs as data: what each comes to (printed by gen.py) -/
def top (i : Nat) : Stmt := PySem.Challenge.pw_cleanedtables_k47_refusals_made.main.body.getD i (.Pass ⟨0, 0, 0, 0⟩)
abbrev s_l_take : Stmt := top 17
abbrev N_l_take : List Str := ["_law_hand_here", "_law_below", "_law_digit", "_law_mixed"]
def r1_l_take : MS := sRet (eVar 2)
def r2_l_take : MS := sSeq (sSetIx (e2 dDiv (e2 dIx (eVar 0) (eC (.d (.int 0)))) (eVar 1)) (eVar 0) (eC (.d (.int 0)))) (r1_l_take)
def r3_l_take : MS := sRet (e2 dMod (e2 dAdd (e2 dDiv (eVar 3) (eC (.d (.int 97)))) (e2 dDiv (eVar 3) (eC (.d (.int 1000033))))) (eVar 1))
def r4_l_take : MS := sSeq (sSet 3 (e2 dMod (e2 dMulA (eVar 3) (e2 dAdd (e2 dMod (eVar 3) (eC (.d (.int 1000003)))) (e2 dMulA (eC (.d (.int 99991))) (e2 dIx (eVar 0) (eC (.d (.int 2))))))) (eC (.d (.int 2305843009213693907))))) (r3_l_take)
def r5_l_take : MS := sSeq (sSet 3 (e2 dMod (e2 dMulA (e2 dAdd (e2 dAdd (e2 dIx (eVar 0) (eC (.d (.int 1)))) (e2 dMulA (e2 dMulA (eC (.d (.int 65537))) (e2 dIx (eVar 0) (eC (.d (.int 2))))) (e2 dIx (eVar 0) (eC (.d (.int 2)))))) (eC (.d (.int 11)))) (eC (.d (.int 48271)))) (eC (.d (.int 2305843009213693921))))) (r4_l_take)
def r6_l_take : MS := sSeq (sSetIx (e2 dAdd (e2 dIx (eVar 0) (eC (.d (.int 2)))) (eC (.d (.int 1)))) (eVar 0) (eC (.d (.int 2)))) (r5_l_take)
def B_l_take : MS := sSeq (sIf (tV (e2 dGt (e2 dIx (eVar 0) (eC (.d (.int 0)))) (eC (.d (.int 0))))) (sSeq (sSet 2 (e2 dMod (e2 dIx (eVar 0) (eC (.d (.int 0)))) (eVar 1))) (r2_l_take)) (sNext)) (r6_l_take)
def F_l_take : OpN := runB 4 B_l_take
abbrev s_l_pick : Stmt := top 18
abbrev N_l_pick : List Str := ["_law_hand_here", "_law_some"]
def B_l_pick : MS := sRet (e2 dIx (eVar 1) (eN (fCall 2 F_l_take) (aCons (eVar 0) (aCons (eN dLen (aCons (eVar 1) (aNil))) (aNil)))))
def F_l_pick : OpN := runB 2 B_l_pick
abbrev s_l_thing : Stmt := top 19
abbrev N_l_thing : List Str := ["_law_hand_here", "_law_some"]
def r1_l_thing : MS := sRet (eN (fCall 2 F_l_pick) (aCons (eVar 0) (aCons (eVar 1) (aNil))))
def B_l_thing : MS := sSeq (sSet 1 (eN dList (aCons (eN (fCall 2 F_l_take) (aCons (eVar 0) (aCons (e2 dPow (eC (.d (.int 10))) (eC (.d (.int 9)))) (aNil)))) (aCons (eC (.d (.int 0))) (aCons (e1 dNeg (eC (.d (.int 1)))) (aCons (eC (.d (.str "a"))) (aCons (eC (.d (.str ""))) (aCons (eC (.d (.str "table"))) (aCons (eN dTup (aNil)) (aCons (eN dTup (aCons (eC (.d (.int 0))) (aCons (eC (.d (.str "a"))) (aNil)))) (aCons (eC (.d .none)) (aCons (eC (.d (.bool true))) (aCons (eN dTup (aCons (eC (.d (.str "a"))) (aCons (eC (.d (.str "b"))) (aNil)))) (aCons (eN dList (aCons (eC (.d (.int 1))) (aNil))) (aCons (eDic (((eC (.d (.str "a"))), (eC (.d (.int 1)))) :: [])) (aNil)))))))))))))))) (r1_l_thing)
def F_l_thing : OpN := runB 2 B_l_thing
abbrev s_l_by_places : Stmt := top 22
abbrev N_l_by_places : List Str := ["_law_x", "_law_z", "_law_such"]
def r1_l_by_places : MS := sRet (e2 cAdd (eVar 2) (eN cList (aCons (eNew 9 [] 0 0 [] (aNil) (aNil)) (aCons (eNew 10 ["table", "step", "other", "what"] 4 0 [0, 1, 2, 3] (aCons (eVar 0) (aCons (eVar 1) (aCons (eVar 1) (aCons (eVar 0) (aNil))))) (aNil)) (aNil)))))
def B_l_by_places : MS := sSeq (sSet 2 (eN cList (aCons (eNew 0 ["worth"] 1 0 [0] (aCons (eVar 0) (aNil)) (aNil)) (aCons (eNew 1 ["row"] 1 0 [0] (aCons (eVar 0) (aNil)) (aNil)) (aCons (eNew 2 ["line"] 1 0 [0] (aCons (eVar 0) (aNil)) (aNil)) (aCons (eNew 3 ["row"] 1 0 [0] (aCons (eVar 0) (aNil)) (aNil)) (aCons (eNew 4 ["number", "column"] 2 0 [0, 1] (aCons (eVar 0) (aCons (eVar 1) (aNil))) (aNil)) (aCons (eNew 5 ["which"] 1 0 [0] (aCons (eVar 0) (aNil)) (aNil)) (aCons (eNew 6 ["thing"] 1 0 [0] (aCons (eVar 0) (aNil)) (aNil)) (aCons (eNew 7 ["source"] 1 0 [0] (aCons (eVar 0) (aNil)) (aNil)) (aCons (eNew 8 ["table"] 1 0 [0] (aCons (eVar 0) (aNil)) (aNil)) (aNil)))))))))))) (r1_l_by_places)
def F_l_by_places : OpN := runB 3 B_l_by_places
abbrev s_l_by_names : Stmt := top 23
abbrev N_l_by_names : List Str := ["_law_x", "_law_z", "_law_such"]
def r1_l_by_names : MS := sRet (e2 cAdd (eVar 2) (eN cList (aCons (eNew 10 ["table", "step", "other", "what"] 0 4 [3, 2, 1, 0] (aNil) (aCons (eVar 0) (aCons (eVar 1) (aCons (eVar 1) (aCons (eVar 0) (aNil)))))) (aNil))))
def r2_l_by_names : MS := sSeq (sSet 2 (e2 cAdd (eVar 2) (eN cList (aCons (eNew 6 ["thing"] 0 1 [0] (aNil) (aCons (eVar 0) (aNil))) (aCons (eNew 7 ["source"] 0 1 [0] (aNil) (aCons (eVar 0) (aNil))) (aCons (eNew 8 ["table"] 0 1 [0] (aNil) (aCons (eVar 0) (aNil))) (aCons (eNew 9 [] 0 0 [] (aNil) (aNil)) (aNil)))))))) (r1_l_by_names)
def B_l_by_names : MS := sSeq (sSet 2 (eN cList (aCons (eNew 0 ["worth"] 0 1 [0] (aNil) (aCons (eVar 0) (aNil))) (aCons (eNew 1 ["row"] 0 1 [0] (aNil) (aCons (eVar 0) (aNil))) (aCons (eNew 2 ["line"] 0 1 [0] (aNil) (aCons (eVar 0) (aNil))) (aCons (eNew 3 ["row"] 0 1 [0] (aNil) (aCons (eVar 0) (aNil))) (aCons (eNew 4 ["number", "column"] 0 2 [1, 0] (aNil) (aCons (eVar 1) (aCons (eVar 0) (aNil)))) (aCons (eNew 5 ["which"] 0 1 [0] (aNil) (aCons (eVar 0) (aNil))) (aNil))))))))) (r2_l_by_names)
def F_l_by_names : OpN := runB 3 B_l_by_names
abbrev s_l_classes : Stmt := top 20
abbrev N_l_classes : List Str := ["_law_e", "_law_own"]
def r1_l_classes : MS := sRet (e2 dAdd (eVar 1) (eN dList (aCons (e1 (dIsx 11 [8]) (eVar 0)) (aCons (e1 (dIsx 11 [9]) (eVar 0)) (aCons (e1 (dIsx 11 [10]) (eVar 0)) (aNil))))))
def r2_l_classes : MS := sSeq (sSet 1 (e2 dAdd (eVar 1) (eN dList (aCons (e1 (dIsx 11 [4]) (eVar 0)) (aCons (e1 (dIsx 11 [5]) (eVar 0)) (aCons (e1 (dIsx 11 [6]) (eVar 0)) (aCons (e1 (dIsx 11 [7]) (eVar 0)) (aNil)))))))) (r1_l_classes)
def B_l_classes : MS := sSeq (sSet 1 (eN dList (aCons (e1 (dIsx 11 [0]) (eVar 0)) (aCons (e1 (dIsx 11 [1]) (eVar 0)) (aCons (e1 (dIsx 11 [2]) (eVar 0)) (aCons (e1 (dIsx 11 [3]) (eVar 0)) (aNil))))))) (r2_l_classes)
def F_l_classes : OpN := runB 2 B_l_classes
abbrev s_l_families : Stmt := top 21
abbrev N_l_families : List Str := ["_law_e", "_law_own"]
def r1_l_families : MS := sRet (e2 dAdd (eVar 1) (eN dList (aCons (e1 (dIsx 11 [0, 1, 2]) (eVar 0)) (aCons (e1 (dIsx 11 [3, 4, 5, 6, 7, 8, 9]) (eVar 0)) (aCons (e1 (dIsx 11 [10]) (eVar 0)) (aNil))))))
def B_l_families : MS := sSeq (sSet 1 (eN dList (aCons (e1 (dIsx 11 [0, 1, 2]) (eVar 0)) (aCons (e1 (dIsx 11 [3, 4, 5, 6, 7, 8, 9]) (eVar 0)) (aCons (e1 (dIsx 11 [10]) (eVar 0)) (aNil)))))) (r1_l_families)
def F_l_families : OpN := runB 2 B_l_families
abbrev s_l_values : Stmt := top 24
abbrev N_l_values : List Str := ["_law_made", "_law_such"]
def r1_l_values : MS := sRet (e2 dAdd (eVar 1) (eN dList (aCons (eN dTup (aCons (e1 (dFlx [8, 10] "table") (e2 dIx (eVar 0) (eC (.d (.int 10))))) (aCons (e1 (dFlx [10] "step") (e2 dIx (eVar 0) (eC (.d (.int 10))))) (aCons (e1 (dFlx [10] "other") (e2 dIx (eVar 0) (eC (.d (.int 10))))) (aCons (e1 (dFlx [10] "what") (e2 dIx (eVar 0) (eC (.d (.int 10))))) (aNil)))))) (aNil))))
def r2_l_values : MS := sSeq (sSet 1 (e2 dAdd (eVar 1) (eN dList (aCons (e1 (dFlx [6] "thing") (e2 dIx (eVar 0) (eC (.d (.int 6))))) (aCons (e1 (dFlx [7] "source") (e2 dIx (eVar 0) (eC (.d (.int 7))))) (aCons (e1 (dFlx [8, 10] "table") (e2 dIx (eVar 0) (eC (.d (.int 8))))) (aNil))))))) (r1_l_values)
def B_l_values : MS := sSeq (sSet 1 (eN dList (aCons (e1 (dFlx [0] "worth") (e2 dIx (eVar 0) (eC (.d (.int 0))))) (aCons (e1 (dFlx [1, 3] "row") (e2 dIx (eVar 0) (eC (.d (.int 1))))) (aCons (e1 (dFlx [2] "line") (e2 dIx (eVar 0) (eC (.d (.int 2))))) (aCons (e1 (dFlx [1, 3] "row") (e2 dIx (eVar 0) (eC (.d (.int 3))))) (aCons (eN dTup (aCons (e1 (dFlx [4] "number") (e2 dIx (eVar 0) (eC (.d (.int 4))))) (aCons (e1 (dFlx [4] "column") (e2 dIx (eVar 0) (eC (.d (.int 4))))) (aNil)))) (aCons (e1 (dFlx [5] "which") (e2 dIx (eVar 0) (eC (.d (.int 5))))) (aNil))))))))) (r2_l_values)
def F_l_values : OpN := runB 2 B_l_values
abbrev s_l_raised : Stmt := top 25
abbrev N_l_raised : List Str := ["_law_way", "_law_x", "_law_z", "_law_family", "_law_e"]
def reprOk (d : D) : Bool := d.showable && decide (d.depth ≤ 40) && decide (d.shown.length ≤ sizeLine)
def F_l_raised : OpN := fun bs μ => match bs with
  | [.d (.int k), .d x, .d z] => if k = 0 then (if reprOk x = true then .ok (.d (.int 1)) μ else .bad) else if reprOk (.tuple [x, z]) = true then .ok (.d (.int (if k = 1 then 2 else 3))) μ else .bad
  | _ => .bad
def EmX (G : GT) (cv : Value) (n : Nat) (tb : List Nat) : Prop := ∀ c, c < n → ∃ C, G.FA c = some C ∧ PySem.W.exmOne G.K (.ref C) cv = some (tb.contains c)

abbrev s_l_right : Stmt := top 26
abbrev N_l_right : List Str := ["_law_hand_here", "_law_x", "_law_z", "_law_made", "_law_k", "_law_e", "_law_family", "_law_spot", "_law_way"]
def c1_l_right : ME := e2 (dEq false) (eVar 4) (eVar 7)
def c2_l_right : ME := e2 (dIn false) (eVar 7) (eN dTup (aCons (eVar 6) (aCons (e2 dAdd (eVar 6) (eC (.d (.int 3)))) (aNil))))
def r1_l_right : MS := sIf (tV (e2 (dEq true) (eN (fCall 1 F_l_families) (aCons (eVar 5) (aNil))) (eLc dList (iRng rng1 (aCons (eC (.d (.int 6))) (aNil))) (gN 7) (tYesM) (c2_l_right) [7]))) (sRet (eC (.d (.bool false)))) (sNext)
def r2_l_right : MS := sSeq (sIf (tV (e2 (dEq true) (eN (fCall 1 F_l_classes) (aCons (eVar 5) (aNil))) (eLc dList (iRng rng1 (aCons (eC (.d (.int 11))) (aNil))) (gN 7) (tYesM) (c1_l_right) [7]))) (sRet (eC (.d (.bool false)))) (sNext)) (r1_l_right)
def w1_l_right : MS := sSeq (sSet 6 (e2 dAdd (eN dInt (aCons (e2 dGt (eVar 4) (eC (.d (.int 2)))) (aNil))) (eN dInt (aCons (e2 dGt (eVar 4) (eC (.d (.int 9)))) (aNil))))) (r2_l_right)
def r3_l_right : MS := sIf (tV (e2 (dEq true) (eN dReprG (aCons (eN (fCall 1 F_l_values) (aCons (eVar 3) (aNil))) (aNil))) (eN dReprG (aCons (e2 dAdd (e2 dAdd (e2 dAdd (eN (dRep 4) (aCons (eVar 1) (aNil))) (eN dList (aCons (eN dTup (aCons (eVar 1) (aCons (eVar 2) (aNil)))) (aNil)))) (eN (dRep 4) (aCons (eVar 1) (aNil)))) (eN dList (aCons (eN dTup (aCons (eVar 1) (aCons (eVar 2) (aCons (eVar 2) (aCons (eVar 1) (aNil)))))) (aNil)))) (aNil))))) (sRet (eC (.d (.bool false)))) (sNext)
def w2_l_right : MS := sSeq (sForG (eVar 3) (gsCons (gN 4) (gsCons (gN 5) (gsNil))) (w1_l_right) 1000) (r3_l_right)
def c3_l_right : ME := eN (fCall 3 F_l_raised) (aCons (eVar 8) (aCons (eVar 1) (aCons (eVar 2) (aNil))))
def r4_l_right : MS := sRet (e2 (dEq false) (eLc dList (iRng rng1 (aCons (eC (.d (.int 3))) (aNil))) (gN 8) (tYesM) (c3_l_right) [8]) (eN dList (aCons (eC (.d (.int 1))) (aCons (eC (.d (.int 2))) (aCons (eC (.d (.int 3))) (aNil))))))
def r5_l_right : MS := sSeq (sFor (iTupD (aCons (eN (fCall 2 F_l_by_places) (aCons (eVar 1) (aCons (eVar 2) (aNil)))) (aCons (eN (fCall 2 F_l_by_names) (aCons (eVar 1) (aCons (eVar 2) (aNil)))) (aNil)))) (gN 3) (w2_l_right)) (r4_l_right)
def B_l_right : MS := sSeq (sAsg (eN dTup (aCons (eN (fCall 1 F_l_thing) (aCons (eVar 0) (aNil))) (aCons (eN (fCall 1 F_l_thing) (aCons (eVar 0) (aNil))) (aNil)))) (gT 2 (gsCons (gN 1) (gsCons (gN 2) (gsNil))))) (r5_l_right)
def F_l_right : OpN := runB 9 B_l_right
abbrev s_l_hand : Stmt := top 16
abbrev N_l_hand : List Str := ["_law_script", "_law_k", "_law_cell", "_law_great"]
def r1_l_hand : MS := sRet (eN cList (aCons (eVar 3) (aCons (e2 dMod (e2 dAdd (e2 dAdd (e2 dMod (eVar 2) (eC (.d (.int 2305843009213693951)))) (e2 dMulA (eC (.d (.int 7919))) (eVar 1))) (eC (.d (.int 3)))) (eC (.d (.int 2305843009213693951)))) (aCons (eC (.d (.int 0))) (aNil)))))
def r2_l_hand : MS := sSeq (sSet 3 (e2 dMulA (e2 dMod (eVar 2) (e2 dMulA (e2 dMulA (e2 dPow (eC (.d (.int 10))) (eC (.d (.int 60)))) (e2 dPow (eC (.d (.int 10))) (eC (.d (.int 60))))) (e2 dPow (eC (.d (.int 10))) (eC (.d (.int 60)))))) (eN dInt (aCons (e2 dGe (eVar 2) (e2 dPow (eC (.d (.int 10))) (eC (.d (.int 18))))) (aNil))))) (r1_l_hand)
def r3_l_hand : MS := sSeq (sIf (tV (e2 dLt (eVar 1) (eN dLen (aCons (eVar 0) (aNil))))) (sSet 2 (e2 dIx (eVar 0) (eVar 1))) (sNext)) (r2_l_hand)
def B_l_hand : MS := sSeq (sSet 2 (eC (.d (.int 0)))) (r3_l_hand)
def F_l_hand : OpN := runB 4 B_l_hand
abbrev s_law : Stmt := top 27
abbrev N_law : List Str := ["_law_script", "_law_k"]
def c1_law : ME := eN (fCall 1 F_l_right) (aCons (eN (fCall 2 F_l_hand) (aCons (eVar 0) (aCons (eVar 1) (aNil)))) (aNil))
def B_law : MS := sRet (eN (dAll fun ks => ks.all id) (aCons (eLc dList (iRng rng1 (aCons (e2 dAdd (eC (.d (.int 2))) (eN dMin (aCons (eC (.d (.int 8))) (aCons (eN dLen (aCons (eVar 0) (aNil))) (aNil))))) (aNil))) (gN 1) (tYesM) (c1_law) [1]) (aNil)))
def F_law : OpN := runB 2 B_law
abbrev s_NoFit_init : Stmt := inClass (top 4) 0
abbrev N_NoFit_init : List Str := ["self", "worth"]
abbrev s_NoText_init : Stmt := inClass (top 5) 0
abbrev N_NoText_init : List Str := ["self", "row"]
abbrev s_NoLine_init : Stmt := inClass (top 6) 0
abbrev N_NoLine_init : List Str := ["self", "line"]
abbrev s_NoRow_init : Stmt := inClass (top 7) 0
abbrev N_NoRow_init : List Str := ["self", "row"]
abbrev s_NoCell_init : Stmt := inClass (top 8) 0
abbrev N_NoCell_init : List Str := ["self", "number", "column"]
abbrev s_NoOrder_init : Stmt := inClass (top 9) 0
abbrev N_NoOrder_init : List Str := ["self", "which"]
abbrev s_NoThing_init : Stmt := inClass (top 10) 0
abbrev N_NoThing_init : List Str := ["self", "thing"]
abbrev s_NoSource_init : Stmt := inClass (top 11) 0
abbrev N_NoSource_init : List Str := ["self", "source"]
abbrev s_NoTable_init : Stmt := inClass (top 12) 0
abbrev N_NoTable_init : List Str := ["self", "table"]
abbrev s_NoDeed_init : Stmt := inClass (top 13) 0
abbrev N_NoDeed_init : List Str := ["self"]
abbrev s_Clash_init : Stmt := inClass (top 14) 0
abbrev N_Clash_init : List Str := ["self", "table", "step", "other", "what"]
/-! ### 2. Each def keeps its data form -/
abbrev GG (K : PySem.W.Frag) (fa : Nat → Option Addr) : GT := ⟨K, fa⟩
structure Tx (K : PySem.W.Frag) (mg : Str → Option Value) : Prop where
  b_LookupError : mg "LookupError" = none
  b_RuntimeError : mg "RuntimeError" = none
  b_ValueError : mg "ValueError" = none
  b_all : mg "all" = none
  b_enumerate : mg "enumerate" = none
  b_int : mg "int" = none
  b_isinstance : mg "isinstance" = none
  b_len : mg "len" = none
  b_min : mg "min" = none
  b_range : mg "range" = none
  b_repr : mg "repr" = none
section
variable {P : Program} {w : World} {K : PySem.W.Frag} {mg : Str → Option Value} {base : Heap} {fa : Nat → Option Addr}
theorem sc_NoFit_init : FnScope N_NoFit_init ["self", "worth"] (defScope s_NoFit_init) := ⟨rfl, rfl, rfl, by decide +kernel, rfl, by decide +kernel, by decide +kernel⟩
theorem ok_NoFit_init {f : Addr} {fd : FuncData} (F : Fun K "__init__" "NoFit.__init__" s_NoFit_init f fd) {C : Addr} (O : OexG K C "ValueError.__init__") (B : BaseX K mg "NotSuch" "ValueError.__init__") (n1 : PySem.W.findIn K (.ref C) "worth" = some none) : FnG P w K mg base 1 f fd ["self", "worth"] (spInit C ["worth"]) := by
  obtain ⟨oc, od, kV, doc, pm, an, cdv, ct, osl, rfl, lk, hcd⟩ := F.ex
  obtain ⟨N, b1, b2, b3, b4, b5⟩ := B.ex
  apply fnG_of lk hcd sc_NoFit_init (fun vs H Q E h => spInit_len rfl h)
  intro A outer s H vs Q E g hr h
  exact ⟨_, (pss_cons (ps_expr (pe_xinit (N := N) (by rfl) b1 b2 b3 b4 b5 (pa_cons (pe_var (i := 0) rfl (Or.inl rfl)) (pa_cons pe_str pa_nil)))) (pss_one (ps_ostG (pe_var (i := 0) rfl (Or.inl rfl)) (pe_var (i := 1) rfl (Or.inl rfl))))), sem1 O n1 h⟩
theorem sc_NoText_init : FnScope N_NoText_init ["self", "row"] (defScope s_NoText_init) := ⟨rfl, rfl, rfl, by decide +kernel, rfl, by decide +kernel, by decide +kernel⟩
theorem ok_NoText_init {f : Addr} {fd : FuncData} (F : Fun K "__init__" "NoText.__init__" s_NoText_init f fd) {C : Addr} (O : OexG K C "ValueError.__init__") (B : BaseX K mg "NotSuch" "ValueError.__init__") (n1 : PySem.W.findIn K (.ref C) "row" = some none) : FnG P w K mg base 1 f fd ["self", "row"] (spInit C ["row"]) := by
  obtain ⟨oc, od, kV, doc, pm, an, cdv, ct, osl, rfl, lk, hcd⟩ := F.ex
  obtain ⟨N, b1, b2, b3, b4, b5⟩ := B.ex
  apply fnG_of lk hcd sc_NoText_init (fun vs H Q E h => spInit_len rfl h)
  intro A outer s H vs Q E g hr h
  exact ⟨_, (pss_cons (ps_expr (pe_xinit (N := N) (by rfl) b1 b2 b3 b4 b5 (pa_cons (pe_var (i := 0) rfl (Or.inl rfl)) (pa_cons pe_str pa_nil)))) (pss_one (ps_ostG (pe_var (i := 0) rfl (Or.inl rfl)) (pe_var (i := 1) rfl (Or.inl rfl))))), sem1 O n1 h⟩
theorem sc_NoLine_init : FnScope N_NoLine_init ["self", "line"] (defScope s_NoLine_init) := ⟨rfl, rfl, rfl, by decide +kernel, rfl, by decide +kernel, by decide +kernel⟩
theorem ok_NoLine_init {f : Addr} {fd : FuncData} (F : Fun K "__init__" "NoLine.__init__" s_NoLine_init f fd) {C : Addr} (O : OexG K C "ValueError.__init__") (B : BaseX K mg "NotSuch" "ValueError.__init__") (n1 : PySem.W.findIn K (.ref C) "line" = some none) : FnG P w K mg base 1 f fd ["self", "line"] (spInit C ["line"]) := by
  obtain ⟨oc, od, kV, doc, pm, an, cdv, ct, osl, rfl, lk, hcd⟩ := F.ex
  obtain ⟨N, b1, b2, b3, b4, b5⟩ := B.ex
  apply fnG_of lk hcd sc_NoLine_init (fun vs H Q E h => spInit_len rfl h)
  intro A outer s H vs Q E g hr h
  exact ⟨_, (pss_cons (ps_expr (pe_xinit (N := N) (by rfl) b1 b2 b3 b4 b5 (pa_cons (pe_var (i := 0) rfl (Or.inl rfl)) (pa_cons pe_str pa_nil)))) (pss_one (ps_ostG (pe_var (i := 0) rfl (Or.inl rfl)) (pe_var (i := 1) rfl (Or.inl rfl))))), sem1 O n1 h⟩
theorem sc_NoRow_init : FnScope N_NoRow_init ["self", "row"] (defScope s_NoRow_init) := ⟨rfl, rfl, rfl, by decide +kernel, rfl, by decide +kernel, by decide +kernel⟩
theorem ok_NoRow_init {f : Addr} {fd : FuncData} (F : Fun K "__init__" "NoRow.__init__" s_NoRow_init f fd) {C : Addr} (O : OexG K C "LookupError.__init__") (B : BaseX K mg "Lost" "LookupError.__init__") (n1 : PySem.W.findIn K (.ref C) "row" = some none) : FnG P w K mg base 1 f fd ["self", "row"] (spInit C ["row"]) := by
  obtain ⟨oc, od, kV, doc, pm, an, cdv, ct, osl, rfl, lk, hcd⟩ := F.ex
  obtain ⟨N, b1, b2, b3, b4, b5⟩ := B.ex
  apply fnG_of lk hcd sc_NoRow_init (fun vs H Q E h => spInit_len rfl h)
  intro A outer s H vs Q E g hr h
  exact ⟨_, (pss_cons (ps_expr (pe_xinit (N := N) (by rfl) b1 b2 b3 b4 b5 (pa_cons (pe_var (i := 0) rfl (Or.inl rfl)) (pa_cons pe_str pa_nil)))) (pss_one (ps_ostG (pe_var (i := 0) rfl (Or.inl rfl)) (pe_var (i := 1) rfl (Or.inl rfl))))), sem1 O n1 h⟩
theorem sc_NoCell_init : FnScope N_NoCell_init ["self", "number", "column"] (defScope s_NoCell_init) := ⟨rfl, rfl, rfl, by decide +kernel, rfl, by decide +kernel, by decide +kernel⟩
theorem ok_NoCell_init {f : Addr} {fd : FuncData} (F : Fun K "__init__" "NoCell.__init__" s_NoCell_init f fd) {C : Addr} (O : OexG K C "LookupError.__init__") (B : BaseX K mg "Lost" "LookupError.__init__") (n1 : PySem.W.findIn K (.ref C) "number" = some none) (n2 : PySem.W.findIn K (.ref C) "column" = some none) : FnG P w K mg base 1 f fd ["self", "number", "column"] (spInit C ["number", "column"]) := by
  obtain ⟨oc, od, kV, doc, pm, an, cdv, ct, osl, rfl, lk, hcd⟩ := F.ex
  obtain ⟨N, b1, b2, b3, b4, b5⟩ := B.ex
  apply fnG_of lk hcd sc_NoCell_init (fun vs H Q E h => spInit_len rfl h)
  intro A outer s H vs Q E g hr h
  exact ⟨_, (pss_cons (ps_expr (pe_xinit (N := N) (by rfl) b1 b2 b3 b4 b5 (pa_cons (pe_var (i := 0) rfl (Or.inl rfl)) (pa_cons pe_str pa_nil)))) (pss_cons (ps_ostG (pe_var (i := 0) rfl (Or.inl rfl)) (pe_var (i := 1) rfl (Or.inl rfl))) (pss_one (ps_ostG (pe_var (i := 0) rfl (Or.inl rfl)) (pe_var (i := 2) rfl (Or.inl rfl)))))), sem2 O n1 n2 h⟩
theorem sc_NoOrder_init : FnScope N_NoOrder_init ["self", "which"] (defScope s_NoOrder_init) := ⟨rfl, rfl, rfl, by decide +kernel, rfl, by decide +kernel, by decide +kernel⟩
theorem ok_NoOrder_init {f : Addr} {fd : FuncData} (F : Fun K "__init__" "NoOrder.__init__" s_NoOrder_init f fd) {C : Addr} (O : OexG K C "LookupError.__init__") (B : BaseX K mg "Lost" "LookupError.__init__") (n1 : PySem.W.findIn K (.ref C) "which" = some none) : FnG P w K mg base 1 f fd ["self", "which"] (spInit C ["which"]) := by
  obtain ⟨oc, od, kV, doc, pm, an, cdv, ct, osl, rfl, lk, hcd⟩ := F.ex
  obtain ⟨N, b1, b2, b3, b4, b5⟩ := B.ex
  apply fnG_of lk hcd sc_NoOrder_init (fun vs H Q E h => spInit_len rfl h)
  intro A outer s H vs Q E g hr h
  exact ⟨_, (pss_cons (ps_expr (pe_xinit (N := N) (by rfl) b1 b2 b3 b4 b5 (pa_cons (pe_var (i := 0) rfl (Or.inl rfl)) (pa_cons pe_str pa_nil)))) (pss_one (ps_ostG (pe_var (i := 0) rfl (Or.inl rfl)) (pe_var (i := 1) rfl (Or.inl rfl))))), sem1 O n1 h⟩
theorem sc_NoThing_init : FnScope N_NoThing_init ["self", "thing"] (defScope s_NoThing_init) := ⟨rfl, rfl, rfl, by decide +kernel, rfl, by decide +kernel, by decide +kernel⟩
theorem ok_NoThing_init {f : Addr} {fd : FuncData} (F : Fun K "__init__" "NoThing.__init__" s_NoThing_init f fd) {C : Addr} (O : OexG K C "LookupError.__init__") (B : BaseX K mg "Lost" "LookupError.__init__") (n1 : PySem.W.findIn K (.ref C) "thing" = some none) : FnG P w K mg base 1 f fd ["self", "thing"] (spInit C ["thing"]) := by
  obtain ⟨oc, od, kV, doc, pm, an, cdv, ct, osl, rfl, lk, hcd⟩ := F.ex
  obtain ⟨N, b1, b2, b3, b4, b5⟩ := B.ex
  apply fnG_of lk hcd sc_NoThing_init (fun vs H Q E h => spInit_len rfl h)
  intro A outer s H vs Q E g hr h
  exact ⟨_, (pss_cons (ps_expr (pe_xinit (N := N) (by rfl) b1 b2 b3 b4 b5 (pa_cons (pe_var (i := 0) rfl (Or.inl rfl)) (pa_cons pe_str pa_nil)))) (pss_one (ps_ostG (pe_var (i := 0) rfl (Or.inl rfl)) (pe_var (i := 1) rfl (Or.inl rfl))))), sem1 O n1 h⟩
theorem sc_NoSource_init : FnScope N_NoSource_init ["self", "source"] (defScope s_NoSource_init) := ⟨rfl, rfl, rfl, by decide +kernel, rfl, by decide +kernel, by decide +kernel⟩
theorem ok_NoSource_init {f : Addr} {fd : FuncData} (F : Fun K "__init__" "NoSource.__init__" s_NoSource_init f fd) {C : Addr} (O : OexG K C "LookupError.__init__") (B : BaseX K mg "Lost" "LookupError.__init__") (n1 : PySem.W.findIn K (.ref C) "source" = some none) : FnG P w K mg base 1 f fd ["self", "source"] (spInit C ["source"]) := by
  obtain ⟨oc, od, kV, doc, pm, an, cdv, ct, osl, rfl, lk, hcd⟩ := F.ex
  obtain ⟨N, b1, b2, b3, b4, b5⟩ := B.ex
  apply fnG_of lk hcd sc_NoSource_init (fun vs H Q E h => spInit_len rfl h)
  intro A outer s H vs Q E g hr h
  exact ⟨_, (pss_cons (ps_expr (pe_xinit (N := N) (by rfl) b1 b2 b3 b4 b5 (pa_cons (pe_var (i := 0) rfl (Or.inl rfl)) (pa_cons pe_str pa_nil)))) (pss_one (ps_ostG (pe_var (i := 0) rfl (Or.inl rfl)) (pe_var (i := 1) rfl (Or.inl rfl))))), sem1 O n1 h⟩
theorem sc_NoTable_init : FnScope N_NoTable_init ["self", "table"] (defScope s_NoTable_init) := ⟨rfl, rfl, rfl, by decide +kernel, rfl, by decide +kernel, by decide +kernel⟩
theorem ok_NoTable_init {f : Addr} {fd : FuncData} (F : Fun K "__init__" "NoTable.__init__" s_NoTable_init f fd) {C : Addr} (O : OexG K C "LookupError.__init__") (B : BaseX K mg "Lost" "LookupError.__init__") (n1 : PySem.W.findIn K (.ref C) "table" = some none) : FnG P w K mg base 1 f fd ["self", "table"] (spInit C ["table"]) := by
  obtain ⟨oc, od, kV, doc, pm, an, cdv, ct, osl, rfl, lk, hcd⟩ := F.ex
  obtain ⟨N, b1, b2, b3, b4, b5⟩ := B.ex
  apply fnG_of lk hcd sc_NoTable_init (fun vs H Q E h => spInit_len rfl h)
  intro A outer s H vs Q E g hr h
  exact ⟨_, (pss_cons (ps_expr (pe_xinit (N := N) (by rfl) b1 b2 b3 b4 b5 (pa_cons (pe_var (i := 0) rfl (Or.inl rfl)) (pa_cons pe_str pa_nil)))) (pss_one (ps_ostG (pe_var (i := 0) rfl (Or.inl rfl)) (pe_var (i := 1) rfl (Or.inl rfl))))), sem1 O n1 h⟩
theorem sc_NoDeed_init : FnScope N_NoDeed_init ["self"] (defScope s_NoDeed_init) := ⟨rfl, rfl, rfl, by decide +kernel, rfl, by decide +kernel, by decide +kernel⟩
theorem ok_NoDeed_init {f : Addr} {fd : FuncData} (F : Fun K "__init__" "NoDeed.__init__" s_NoDeed_init f fd) {C : Addr} (O : OexG K C "LookupError.__init__") (B : BaseX K mg "Lost" "LookupError.__init__") : FnG P w K mg base 1 f fd ["self"] (spInit C []) := by
  obtain ⟨oc, od, kV, doc, pm, an, cdv, ct, osl, rfl, lk, hcd⟩ := F.ex
  obtain ⟨N, b1, b2, b3, b4, b5⟩ := B.ex
  apply fnG_of lk hcd sc_NoDeed_init (fun vs H Q E h => spInit_len rfl h)
  intro A outer s H vs Q E g hr h
  exact ⟨_, (pss_one (ps_expr (pe_xinit (N := N) (by rfl) b1 b2 b3 b4 b5 (pa_cons (pe_var (i := 0) rfl (Or.inl rfl)) (pa_cons pe_str pa_nil))))), sem0 O h⟩
theorem sc_Clash_init : FnScope N_Clash_init ["self", "table", "step", "other", "what"] (defScope s_Clash_init) := ⟨rfl, rfl, rfl, by decide +kernel, rfl, by decide +kernel, by decide +kernel⟩
theorem ok_Clash_init {f : Addr} {fd : FuncData} (F : Fun K "__init__" "Clash.__init__" s_Clash_init f fd) {C : Addr} (O : OexG K C "RuntimeError.__init__") (B : BaseX K mg "Shut" "RuntimeError.__init__") (n1 : PySem.W.findIn K (.ref C) "table" = some none) (n2 : PySem.W.findIn K (.ref C) "step" = some none) (n3 : PySem.W.findIn K (.ref C) "other" = some none) (n4 : PySem.W.findIn K (.ref C) "what" = some none) : FnG P w K mg base 1 f fd ["self", "table", "step", "other", "what"] (spInit C ["table", "step", "other", "what"]) := by
  obtain ⟨oc, od, kV, doc, pm, an, cdv, ct, osl, rfl, lk, hcd⟩ := F.ex
  obtain ⟨N, b1, b2, b3, b4, b5⟩ := B.ex
  apply fnG_of lk hcd sc_Clash_init (fun vs H Q E h => spInit_len rfl h)
  intro A outer s H vs Q E g hr h
  exact ⟨_, (pss_cons (ps_expr (pe_xinit (N := N) (by rfl) b1 b2 b3 b4 b5 (pa_cons (pe_var (i := 0) rfl (Or.inl rfl)) (pa_cons pe_str pa_nil)))) (pss_cons (ps_ostG (pe_var (i := 0) rfl (Or.inl rfl)) (pe_var (i := 1) rfl (Or.inl rfl))) (pss_cons (ps_ostG (pe_var (i := 0) rfl (Or.inl rfl)) (pe_var (i := 2) rfl (Or.inl rfl))) (pss_cons (ps_ostG (pe_var (i := 0) rfl (Or.inl rfl)) (pe_var (i := 3) rfl (Or.inl rfl))) (pss_one (ps_ostG (pe_var (i := 0) rfl (Or.inl rfl)) (pe_var (i := 4) rfl (Or.inl rfl)))))))), sem4 O n1 n2 n3 n4 h⟩
theorem sc_l_take : FnScope N_l_take ["_law_hand_here", "_law_below"] (defScope s_l_take) := ⟨rfl, rfl, rfl, by decide +kernel, rfl, by decide +kernel, by decide +kernel⟩
theorem ok_l_take {f : Addr} {fd : FuncData} (F : Fun K "_law_take" "_law_take" s_l_take f fd) (T : Tx K mg) : FnG P w K mg base 1 f fd ["_law_hand_here", "_law_below"] (spD (GG K fa) 2 F_l_take) := by
  have sc := sc_l_take
  refine fn_okG (G := GG K fa) F sc fun cdv A outer s H E g hr tk po => ?_
  exact dss_cons (ds_if (dt_cmp op_gtA ok_cmp (de_ix ix_seq ok_ix (de_var 0) (de_int)) (de_int)) (dss_cons (ds_set (i := 2) sc.nd (de_op op_mod ok_mod (de_ix ix_seq ok_ix (de_var 0) (de_int)) (de_var 1))) (dss_cons (ds_setIx (de_op op_fdivW ok_div (de_ix ix_seq ok_ix (de_var 0) (de_int)) (de_var 1)) (de_var 0) (de_int)) (dss_one (ds_ret (de_var 2))))) (dss_nil)) (dss_cons (ds_setIx (de_op op_addA ok_add (de_ix ix_seq ok_ix (de_var 0) (de_int)) (de_int)) (de_var 0) (de_int)) (dss_cons (ds_set (i := 3) sc.nd (de_op op_mod ok_mod (de_op op_mulA ok_mulA (de_op op_addA ok_add (de_op op_addA ok_add (de_ix ix_seq ok_ix (de_var 0) (de_int)) (de_op op_mulA ok_mulA (de_op op_mulA ok_mulA (de_int) (de_ix ix_seq ok_ix (de_var 0) (de_int))) (de_ix ix_seq ok_ix (de_var 0) (de_int)))) (de_int)) (de_int)) (de_int))) (dss_cons (ds_set (i := 3) sc.nd (de_op op_mod ok_mod (de_op op_mulA ok_mulA (de_var 3) (de_op op_addA ok_add (de_op op_mod ok_mod (de_var 3) (de_int)) (de_op op_mulA ok_mulA (de_int) (de_ix ix_seq ok_ix (de_var 0) (de_int))))) (de_int))) (dss_one (ds_ret (de_op op_mod ok_mod (de_op op_addA ok_add (de_op op_fdivW ok_div (de_var 3) (de_int)) (de_op op_fdivW ok_div (de_var 3) (de_int))) (de_var 1)))))))
theorem sc_l_pick : FnScope N_l_pick ["_law_hand_here", "_law_some"] (defScope s_l_pick) := ⟨rfl, rfl, rfl, by decide +kernel, rfl, by decide +kernel, by decide +kernel⟩
theorem ok_l_pick {f : Addr} {fd : FuncData} (F : Fun K "_law_pick" "_law_pick" s_l_pick f fd) (T : Tx K mg) (C_l_take : Cal P w (GG K fa) mg base "_law_take" 1 ["_law_hand_here", "_law_below"] [] F_l_take) : FnG P w K mg base 2 f fd ["_law_hand_here", "_law_some"] (spD (GG K fa) 2 F_l_pick) := by
  have sc := sc_l_pick
  refine fn_okG (G := GG K fa) F sc fun cdv A outer s H E g hr tk po => ?_
  exact dss_one (ds_ret (de_ix ix_seq ok_ix (de_var 1) (de_calC rfl C_l_take (by exact g) (by exact hr.mono (by decide)) tk (by rfl) (da_cons (de_var 0) (da_cons (de_callB call_len ok_len (by rfl) T.b_len (by decide +kernel) (da_cons (de_var 1) (da_nil))) (da_nil))))))
theorem sc_l_thing : FnScope N_l_thing ["_law_hand_here"] (defScope s_l_thing) := ⟨rfl, rfl, rfl, by decide +kernel, rfl, by decide +kernel, by decide +kernel⟩
theorem ok_l_thing {f : Addr} {fd : FuncData} (F : Fun K "_law_thing" "_law_thing" s_l_thing f fd) (T : Tx K mg) (C_l_take : Cal P w (GG K fa) mg base "_law_take" 1 ["_law_hand_here", "_law_below"] [] F_l_take) (C_l_pick : Cal P w (GG K fa) mg base "_law_pick" 2 ["_law_hand_here", "_law_some"] [] F_l_pick) : FnG P w K mg base 3 f fd ["_law_hand_here"] (spD (GG K fa) 1 F_l_thing) := by
  have sc := sc_l_thing
  refine fn_okG (G := GG K fa) F sc fun cdv A outer s H E g hr tk po => ?_
  exact dss_cons (ds_set (i := 1) sc.nd (de_lst (da_cons (de_calC rfl C_l_take (by exact g) (by exact hr.mono (by decide)) tk (by rfl) (da_cons (de_var 0) (da_cons (de_op op_pow ok_pow (de_int) (de_int)) (da_nil)))) (da_cons (de_int) (da_cons (de_un un_neg ok_neg (de_int)) (da_cons (de_str) (da_cons (de_str) (da_cons (de_str) (da_cons (de_tup (da_nil)) (da_cons (de_tup (da_cons (de_int) (da_cons (de_str) (da_nil)))) (da_cons (de_non) (da_cons (de_bl) (da_cons (de_tup (da_cons (de_str) (da_cons (de_str) (da_nil)))) (da_cons (de_lst (da_cons (de_int) (da_nil))) (da_cons (de_dic (dp_cons (de_str) (de_int) (dp_nil))) (da_nil)))))))))))))))) (dss_one (ds_ret (de_calC rfl C_l_pick (by exact g) (by exact hr.mono (by decide)) tk (by rfl) (da_cons (de_var 0) (da_cons (de_var 1) (da_nil))))))
theorem sc_l_by_places : FnScope N_l_by_places ["_law_x", "_law_z"] (defScope s_l_by_places) := ⟨rfl, rfl, rfl, by decide +kernel, rfl, by decide +kernel, by decide +kernel⟩
theorem ok_l_by_places {f : Addr} {fd : FuncData} (F : Fun K "_law_by_places" "_law_by_places" s_l_by_places f fd) (T : Tx K mg) (NC_NoFit : NewC P w (GG K fa) mg base "NoFit" 0 1 ["worth"] ["self", "worth"] [(0, ["worth"], [0]), (1, [], [0])]) (NC_NoText : NewC P w (GG K fa) mg base "NoText" 1 1 ["row"] ["self", "row"] [(0, ["row"], [0]), (1, [], [0])]) (NC_NoLine : NewC P w (GG K fa) mg base "NoLine" 2 1 ["line"] ["self", "line"] [(0, ["line"], [0]), (1, [], [0])]) (NC_NoRow : NewC P w (GG K fa) mg base "NoRow" 3 1 ["row"] ["self", "row"] [(0, ["row"], [0]), (1, [], [0])]) (NC_NoCell : NewC P w (GG K fa) mg base "NoCell" 4 1 ["number", "column"] ["self", "number", "column"] [(1, ["column"], [0, 1]), (0, ["column", "number"], [1, 0]), (2, [], [0, 1])]) (NC_NoOrder : NewC P w (GG K fa) mg base "NoOrder" 5 1 ["which"] ["self", "which"] [(0, ["which"], [0]), (1, [], [0])]) (NC_NoThing : NewC P w (GG K fa) mg base "NoThing" 6 1 ["thing"] ["self", "thing"] [(0, ["thing"], [0]), (1, [], [0])]) (NC_NoSource : NewC P w (GG K fa) mg base "NoSource" 7 1 ["source"] ["self", "source"] [(0, ["source"], [0]), (1, [], [0])]) (NC_NoTable : NewC P w (GG K fa) mg base "NoTable" 8 1 ["table"] ["self", "table"] [(0, ["table"], [0]), (1, [], [0])]) (NC_NoDeed : NewC P w (GG K fa) mg base "NoDeed" 9 1 [] ["self"] [(0, [], [])]) (NC_Clash : NewC P w (GG K fa) mg base "Clash" 10 1 ["table", "step", "other", "what"] ["self", "table", "step", "other", "what"] [(2, ["other", "what"], [0, 1, 2, 3]), (0, ["what", "other", "step", "table"], [3, 2, 1, 0]), (4, [], [0, 1, 2, 3])]) : FnG P w K mg base 3 f fd ["_law_x", "_law_z"] (spD (GG K fa) 2 F_l_by_places) := by
  have sc := sc_l_by_places
  refine fn_okG (G := GG K fa) F sc fun cdv A outer s H E g hr tk po => ?_
  exact dss_cons (ds_set (i := 2) sc.nd (de_lstC (da_cons (de_new [0] (by rfl) NC_NoFit (by exact g) (by exact hr.mono (by decide)) (by rfl) (da_cons (de_var 0) (da_nil)) (by simp) (by decide)) (da_cons (de_new [0] (by rfl) NC_NoText (by exact g) (by exact hr.mono (by decide)) (by rfl) (da_cons (de_var 0) (da_nil)) (by simp) (by decide)) (da_cons (de_new [0] (by rfl) NC_NoLine (by exact g) (by exact hr.mono (by decide)) (by rfl) (da_cons (de_var 0) (da_nil)) (by simp) (by decide)) (da_cons (de_new [0] (by rfl) NC_NoRow (by exact g) (by exact hr.mono (by decide)) (by rfl) (da_cons (de_var 0) (da_nil)) (by simp) (by decide)) (da_cons (de_new [0, 1] (by rfl) NC_NoCell (by exact g) (by exact hr.mono (by decide)) (by rfl) (da_cons (de_var 0) (da_cons (de_var 1) (da_nil))) (by simp) (by decide)) (da_cons (de_new [0] (by rfl) NC_NoOrder (by exact g) (by exact hr.mono (by decide)) (by rfl) (da_cons (de_var 0) (da_nil)) (by simp) (by decide)) (da_cons (de_new [0] (by rfl) NC_NoThing (by exact g) (by exact hr.mono (by decide)) (by rfl) (da_cons (de_var 0) (da_nil)) (by simp) (by decide)) (da_cons (de_new [0] (by rfl) NC_NoSource (by exact g) (by exact hr.mono (by decide)) (by rfl) (da_cons (de_var 0) (da_nil)) (by simp) (by decide)) (da_cons (de_new [0] (by rfl) NC_NoTable (by exact g) (by exact hr.mono (by decide)) (by rfl) (da_cons (de_var 0) (da_nil)) (by simp) (by decide)) (da_nil)))))))))))) (dss_one (ds_ret (de_op op_catS ok_cadd (de_var 2) (de_lstC (da_cons (de_new0 (by rfl) NC_NoDeed (by exact g) (by exact hr.mono (by decide)) (by rfl) (by simp)) (da_cons (de_new [0, 1, 2, 3] (by rfl) NC_Clash (by exact g) (by exact hr.mono (by decide)) (by rfl) (da_cons (de_var 0) (da_cons (de_var 1) (da_cons (de_var 1) (da_cons (de_var 0) (da_nil))))) (by simp) (by decide)) (da_nil)))))))
theorem sc_l_by_names : FnScope N_l_by_names ["_law_x", "_law_z"] (defScope s_l_by_names) := ⟨rfl, rfl, rfl, by decide +kernel, rfl, by decide +kernel, by decide +kernel⟩
theorem ok_l_by_names {f : Addr} {fd : FuncData} (F : Fun K "_law_by_names" "_law_by_names" s_l_by_names f fd) (T : Tx K mg) (NC_NoFit : NewC P w (GG K fa) mg base "NoFit" 0 1 ["worth"] ["self", "worth"] [(0, ["worth"], [0]), (1, [], [0])]) (NC_NoText : NewC P w (GG K fa) mg base "NoText" 1 1 ["row"] ["self", "row"] [(0, ["row"], [0]), (1, [], [0])]) (NC_NoLine : NewC P w (GG K fa) mg base "NoLine" 2 1 ["line"] ["self", "line"] [(0, ["line"], [0]), (1, [], [0])]) (NC_NoRow : NewC P w (GG K fa) mg base "NoRow" 3 1 ["row"] ["self", "row"] [(0, ["row"], [0]), (1, [], [0])]) (NC_NoCell : NewC P w (GG K fa) mg base "NoCell" 4 1 ["number", "column"] ["self", "number", "column"] [(1, ["column"], [0, 1]), (0, ["column", "number"], [1, 0]), (2, [], [0, 1])]) (NC_NoOrder : NewC P w (GG K fa) mg base "NoOrder" 5 1 ["which"] ["self", "which"] [(0, ["which"], [0]), (1, [], [0])]) (NC_NoThing : NewC P w (GG K fa) mg base "NoThing" 6 1 ["thing"] ["self", "thing"] [(0, ["thing"], [0]), (1, [], [0])]) (NC_NoSource : NewC P w (GG K fa) mg base "NoSource" 7 1 ["source"] ["self", "source"] [(0, ["source"], [0]), (1, [], [0])]) (NC_NoTable : NewC P w (GG K fa) mg base "NoTable" 8 1 ["table"] ["self", "table"] [(0, ["table"], [0]), (1, [], [0])]) (NC_NoDeed : NewC P w (GG K fa) mg base "NoDeed" 9 1 [] ["self"] [(0, [], [])]) (NC_Clash : NewC P w (GG K fa) mg base "Clash" 10 1 ["table", "step", "other", "what"] ["self", "table", "step", "other", "what"] [(2, ["other", "what"], [0, 1, 2, 3]), (0, ["what", "other", "step", "table"], [3, 2, 1, 0]), (4, [], [0, 1, 2, 3])]) : FnG P w K mg base 3 f fd ["_law_x", "_law_z"] (spD (GG K fa) 2 F_l_by_names) := by
  have sc := sc_l_by_names
  refine fn_okG (G := GG K fa) F sc fun cdv A outer s H E g hr tk po => ?_
  exact dss_cons (ds_set (i := 2) sc.nd (de_lstC (da_cons (de_newK ["worth"] [0] (by rfl) NC_NoFit (by exact g) (by exact hr.mono (by decide)) (by rfl) (dk_cons (de_var 0) (dk_nil)) (by simp)) (da_cons (de_newK ["row"] [0] (by rfl) NC_NoText (by exact g) (by exact hr.mono (by decide)) (by rfl) (dk_cons (de_var 0) (dk_nil)) (by simp)) (da_cons (de_newK ["line"] [0] (by rfl) NC_NoLine (by exact g) (by exact hr.mono (by decide)) (by rfl) (dk_cons (de_var 0) (dk_nil)) (by simp)) (da_cons (de_newK ["row"] [0] (by rfl) NC_NoRow (by exact g) (by exact hr.mono (by decide)) (by rfl) (dk_cons (de_var 0) (dk_nil)) (by simp)) (da_cons (de_newK ["column", "number"] [1, 0] (by rfl) NC_NoCell (by exact g) (by exact hr.mono (by decide)) (by rfl) (dk_cons (de_var 1) (dk_cons (de_var 0) (dk_nil))) (by simp)) (da_cons (de_newK ["which"] [0] (by rfl) NC_NoOrder (by exact g) (by exact hr.mono (by decide)) (by rfl) (dk_cons (de_var 0) (dk_nil)) (by simp)) (da_nil))))))))) (dss_cons (ds_set (i := 2) sc.nd (de_op op_catS ok_cadd (de_var 2) (de_lstC (da_cons (de_newK ["thing"] [0] (by rfl) NC_NoThing (by exact g) (by exact hr.mono (by decide)) (by rfl) (dk_cons (de_var 0) (dk_nil)) (by simp)) (da_cons (de_newK ["source"] [0] (by rfl) NC_NoSource (by exact g) (by exact hr.mono (by decide)) (by rfl) (dk_cons (de_var 0) (dk_nil)) (by simp)) (da_cons (de_newK ["table"] [0] (by rfl) NC_NoTable (by exact g) (by exact hr.mono (by decide)) (by rfl) (dk_cons (de_var 0) (dk_nil)) (by simp)) (da_cons (de_new0 (by rfl) NC_NoDeed (by exact g) (by exact hr.mono (by decide)) (by rfl) (by simp)) (da_nil)))))))) (dss_one (ds_ret (de_op op_catS ok_cadd (de_var 2) (de_lstC (da_cons (de_newK ["what", "other", "step", "table"] [3, 2, 1, 0] (by rfl) NC_Clash (by exact g) (by exact hr.mono (by decide)) (by rfl) (dk_cons (de_var 0) (dk_cons (de_var 1) (dk_cons (de_var 1) (dk_cons (de_var 0) (dk_nil))))) (by simp)) (da_nil)))))))
theorem sc_l_classes : FnScope N_l_classes ["_law_e"] (defScope s_l_classes) := ⟨rfl, rfl, rfl, by decide +kernel, rfl, by decide +kernel, by decide +kernel⟩
theorem ok_l_classes {f : Addr} {fd : FuncData} (F : Fun K "_law_classes" "_law_classes" s_l_classes f fd) (T : Tx K mg) (IX_NoFit : ∃ a, mg "NoFit" = some (.ref a) ∧ IsX (GG K fa) (.ref a) 11 [0]) (IX_NoText : ∃ a, mg "NoText" = some (.ref a) ∧ IsX (GG K fa) (.ref a) 11 [1]) (IX_NoLine : ∃ a, mg "NoLine" = some (.ref a) ∧ IsX (GG K fa) (.ref a) 11 [2]) (IX_NoRow : ∃ a, mg "NoRow" = some (.ref a) ∧ IsX (GG K fa) (.ref a) 11 [3]) (IX_NoCell : ∃ a, mg "NoCell" = some (.ref a) ∧ IsX (GG K fa) (.ref a) 11 [4]) (IX_NoOrder : ∃ a, mg "NoOrder" = some (.ref a) ∧ IsX (GG K fa) (.ref a) 11 [5]) (IX_NoThing : ∃ a, mg "NoThing" = some (.ref a) ∧ IsX (GG K fa) (.ref a) 11 [6]) (IX_NoSource : ∃ a, mg "NoSource" = some (.ref a) ∧ IsX (GG K fa) (.ref a) 11 [7]) (IX_NoTable : ∃ a, mg "NoTable" = some (.ref a) ∧ IsX (GG K fa) (.ref a) 11 [8]) (IX_NoDeed : ∃ a, mg "NoDeed" = some (.ref a) ∧ IsX (GG K fa) (.ref a) 11 [9]) (IX_Clash : ∃ a, mg "Clash" = some (.ref a) ∧ IsX (GG K fa) (.ref a) 11 [10]) : FnG P w K mg base 1 f fd ["_law_e"] (spD (GG K fa) 1 F_l_classes) := by
  have sc := sc_l_classes
  obtain ⟨a_NoFit, m_NoFit, x_NoFit⟩ := IX_NoFit
  obtain ⟨a_NoText, m_NoText, x_NoText⟩ := IX_NoText
  obtain ⟨a_NoLine, m_NoLine, x_NoLine⟩ := IX_NoLine
  obtain ⟨a_NoRow, m_NoRow, x_NoRow⟩ := IX_NoRow
  obtain ⟨a_NoCell, m_NoCell, x_NoCell⟩ := IX_NoCell
  obtain ⟨a_NoOrder, m_NoOrder, x_NoOrder⟩ := IX_NoOrder
  obtain ⟨a_NoThing, m_NoThing, x_NoThing⟩ := IX_NoThing
  obtain ⟨a_NoSource, m_NoSource, x_NoSource⟩ := IX_NoSource
  obtain ⟨a_NoTable, m_NoTable, x_NoTable⟩ := IX_NoTable
  obtain ⟨a_NoDeed, m_NoDeed, x_NoDeed⟩ := IX_NoDeed
  obtain ⟨a_Clash, m_Clash, x_Clash⟩ := IX_Clash
  refine fn_okG (G := GG K fa) F sc fun cdv A outer s H E g hr tk po => ?_
  exact dss_cons (ds_set (i := 1) sc.nd (de_lst (da_cons (de_isx (by rfl) x_NoFit (by rfl) T.b_isinstance (de_var 0) (pe_glob (v := .ref a_NoFit) (by rfl) m_NoFit rfl) (fun u h => h)) (da_cons (de_isx (by rfl) x_NoText (by rfl) T.b_isinstance (de_var 0) (pe_glob (v := .ref a_NoText) (by rfl) m_NoText rfl) (fun u h => h)) (da_cons (de_isx (by rfl) x_NoLine (by rfl) T.b_isinstance (de_var 0) (pe_glob (v := .ref a_NoLine) (by rfl) m_NoLine rfl) (fun u h => h)) (da_cons (de_isx (by rfl) x_NoRow (by rfl) T.b_isinstance (de_var 0) (pe_glob (v := .ref a_NoRow) (by rfl) m_NoRow rfl) (fun u h => h)) (da_nil))))))) (dss_cons (ds_set (i := 1) sc.nd (de_op op_addA ok_add (de_var 1) (de_lst (da_cons (de_isx (by rfl) x_NoCell (by rfl) T.b_isinstance (de_var 0) (pe_glob (v := .ref a_NoCell) (by rfl) m_NoCell rfl) (fun u h => h)) (da_cons (de_isx (by rfl) x_NoOrder (by rfl) T.b_isinstance (de_var 0) (pe_glob (v := .ref a_NoOrder) (by rfl) m_NoOrder rfl) (fun u h => h)) (da_cons (de_isx (by rfl) x_NoThing (by rfl) T.b_isinstance (de_var 0) (pe_glob (v := .ref a_NoThing) (by rfl) m_NoThing rfl) (fun u h => h)) (da_cons (de_isx (by rfl) x_NoSource (by rfl) T.b_isinstance (de_var 0) (pe_glob (v := .ref a_NoSource) (by rfl) m_NoSource rfl) (fun u h => h)) (da_nil)))))))) (dss_one (ds_ret (de_op op_addA ok_add (de_var 1) (de_lst (da_cons (de_isx (by rfl) x_NoTable (by rfl) T.b_isinstance (de_var 0) (pe_glob (v := .ref a_NoTable) (by rfl) m_NoTable rfl) (fun u h => h)) (da_cons (de_isx (by rfl) x_NoDeed (by rfl) T.b_isinstance (de_var 0) (pe_glob (v := .ref a_NoDeed) (by rfl) m_NoDeed rfl) (fun u h => h)) (da_cons (de_isx (by rfl) x_Clash (by rfl) T.b_isinstance (de_var 0) (pe_glob (v := .ref a_Clash) (by rfl) m_Clash rfl) (fun u h => h)) (da_nil)))))))))
theorem sc_l_families : FnScope N_l_families ["_law_e"] (defScope s_l_families) := ⟨rfl, rfl, rfl, by decide +kernel, rfl, by decide +kernel, by decide +kernel⟩
theorem ok_l_families {f : Addr} {fd : FuncData} (F : Fun K "_law_families" "_law_families" s_l_families f fd) (T : Tx K mg) (IX_NotSuch : ∃ a, mg "NotSuch" = some (.ref a) ∧ IsX (GG K fa) (.ref a) 11 [0, 1, 2]) (IX_Lost : ∃ a, mg "Lost" = some (.ref a) ∧ IsX (GG K fa) (.ref a) 11 [3, 4, 5, 6, 7, 8, 9]) (IX_Shut : ∃ a, mg "Shut" = some (.ref a) ∧ IsX (GG K fa) (.ref a) 11 [10]) (IX_ValueError : IsX (GG K fa) (.type "ValueError") 11 [0, 1, 2]) (IX_LookupError : IsX (GG K fa) (.type "LookupError") 11 [3, 4, 5, 6, 7, 8, 9]) (IX_RuntimeError : IsX (GG K fa) (.type "RuntimeError") 11 [10]) : FnG P w K mg base 1 f fd ["_law_e"] (spD (GG K fa) 1 F_l_families) := by
  have sc := sc_l_families
  obtain ⟨a_NotSuch, m_NotSuch, x_NotSuch⟩ := IX_NotSuch
  obtain ⟨a_Lost, m_Lost, x_Lost⟩ := IX_Lost
  obtain ⟨a_Shut, m_Shut, x_Shut⟩ := IX_Shut
  refine fn_okG (G := GG K fa) F sc fun cdv A outer s H E g hr tk po => ?_
  exact dss_cons (ds_set (i := 1) sc.nd (de_lst (da_cons (de_isx (by rfl) x_NotSuch (by rfl) T.b_isinstance (de_var 0) (pe_glob (v := .ref a_NotSuch) (by rfl) m_NotSuch rfl) (fun u h => h)) (da_cons (de_isx (by rfl) x_Lost (by rfl) T.b_isinstance (de_var 0) (pe_glob (v := .ref a_Lost) (by rfl) m_Lost rfl) (fun u h => h)) (da_cons (de_isx (by rfl) x_Shut (by rfl) T.b_isinstance (de_var 0) (pe_glob (v := .ref a_Shut) (by rfl) m_Shut rfl) (fun u h => h)) (da_nil)))))) (dss_one (ds_ret (de_op op_addA ok_add (de_var 1) (de_lst (da_cons (de_isx (by rfl) IX_ValueError (by rfl) T.b_isinstance (de_var 0) (pe_bltn (by rfl) T.b_ValueError (by decide +kernel) (v := .ty "ValueError") rfl (by decide) (by decide)) (fun u h => h)) (da_cons (de_isx (by rfl) IX_LookupError (by rfl) T.b_isinstance (de_var 0) (pe_bltn (by rfl) T.b_LookupError (by decide +kernel) (v := .ty "LookupError") rfl (by decide) (by decide)) (fun u h => h)) (da_cons (de_isx (by rfl) IX_RuntimeError (by rfl) T.b_isinstance (de_var 0) (pe_bltn (by rfl) T.b_RuntimeError (by decide +kernel) (v := .ty "RuntimeError") rfl (by decide) (by decide)) (fun u h => h)) (da_nil))))))))
theorem sc_l_values : FnScope N_l_values ["_law_made"] (defScope s_l_values) := ⟨rfl, rfl, rfl, by decide +kernel, rfl, by decide +kernel, by decide +kernel⟩
theorem ok_l_values {f : Addr} {fd : FuncData} (F : Fun K "_law_values" "_law_values" s_l_values f fd) (T : Tx K mg) (FX_worth : FlX (GG K fa) "worth" [0]) (FX_row : FlX (GG K fa) "row" [1, 3]) (FX_line : FlX (GG K fa) "line" [2]) (FX_number : FlX (GG K fa) "number" [4]) (FX_column : FlX (GG K fa) "column" [4]) (FX_which : FlX (GG K fa) "which" [5]) (FX_thing : FlX (GG K fa) "thing" [6]) (FX_source : FlX (GG K fa) "source" [7]) (FX_table : FlX (GG K fa) "table" [8, 10]) (FX_step : FlX (GG K fa) "step" [10]) (FX_other : FlX (GG K fa) "other" [10]) (FX_what : FlX (GG K fa) "what" [10]) : FnG P w K mg base 1 f fd ["_law_made"] (spD (GG K fa) 1 F_l_values) := by
  have sc := sc_l_values
  refine fn_okG (G := GG K fa) F sc fun cdv A outer s H E g hr tk po => ?_
  exact dss_cons (ds_set (i := 1) sc.nd (de_lst (da_cons (de_flx (by rfl) FX_worth (de_ix ix_seq ok_ix (de_var 0) (de_int))) (da_cons (de_flx (by rfl) FX_row (de_ix ix_seq ok_ix (de_var 0) (de_int))) (da_cons (de_flx (by rfl) FX_line (de_ix ix_seq ok_ix (de_var 0) (de_int))) (da_cons (de_flx (by rfl) FX_row (de_ix ix_seq ok_ix (de_var 0) (de_int))) (da_cons (de_tup (da_cons (de_flx (by rfl) FX_number (de_ix ix_seq ok_ix (de_var 0) (de_int))) (da_cons (de_flx (by rfl) FX_column (de_ix ix_seq ok_ix (de_var 0) (de_int))) (da_nil)))) (da_cons (de_flx (by rfl) FX_which (de_ix ix_seq ok_ix (de_var 0) (de_int))) (da_nil))))))))) (dss_cons (ds_set (i := 1) sc.nd (de_op op_addA ok_add (de_var 1) (de_lst (da_cons (de_flx (by rfl) FX_thing (de_ix ix_seq ok_ix (de_var 0) (de_int))) (da_cons (de_flx (by rfl) FX_source (de_ix ix_seq ok_ix (de_var 0) (de_int))) (da_cons (de_flx (by rfl) FX_table (de_ix ix_seq ok_ix (de_var 0) (de_int))) (da_nil))))))) (dss_one (ds_ret (de_op op_addA ok_add (de_var 1) (de_lst (da_cons (de_tup (da_cons (de_flx (by rfl) FX_table (de_ix ix_seq ok_ix (de_var 0) (de_int))) (da_cons (de_flx (by rfl) FX_step (de_ix ix_seq ok_ix (de_var 0) (de_int))) (da_cons (de_flx (by rfl) FX_other (de_ix ix_seq ok_ix (de_var 0) (de_int))) (da_cons (de_flx (by rfl) FX_what (de_ix ix_seq ok_ix (de_var 0) (de_int))) (da_nil)))))) (da_nil)))))))
theorem sc_l_raised : FnScope N_l_raised ["_law_way", "_law_x", "_law_z"] (defScope s_l_raised) := ⟨rfl, rfl, rfl, by decide +kernel, rfl, by decide +kernel, by decide +kernel⟩
theorem repr_of {G : GT} {w : Wd} {μ : Store} {H : Hp} {v : V} {d : D} {Q : VK} (l : Lay G w μ H) (r : Rv G w v (.d d)) (h : reprOk d = true) (q : Q (.str d.shown) H) : rReprG G.K [v] H Q := by
  unfold reprOk at h
  simp only [Bool.and_eq_true, decide_eq_true_eq] at h
  exact ⟨v, d, rfl, Rp.mono l.same _ _ r, h.1.1, h.1.2, h.2, q⟩
theorem eq_str {G : GT} {w : Wd} {μ : Store} {H : Hp} {s : Str} {Q : VK} (l : Lay G w μ H) (q : ∀ w' H', w.le w' → Lay G w' μ H' → Q (.bl true) H') : rEqA G.K (.str s) (.str s) H Q := by
  refine ok_eq (fun _ _ _ _ => True) [] w μ H (.str s) (.str s) (.d (.str s)) (.d (.str s)) Q l (.str s) (.str s) ?_
  have e : dEq false (.d (.str s)) (.d (.str s)) μ = .ok (.d (.bool true)) μ := by simp [dEq, view, eqD, scalD, PyData.eqv]
  rw [e]
  intro w' v H' le lay rv
  have rv : Rp G.K w'.I v (.bool true) := rv
  cases rv
  exact q w' H' le lay
theorem eq_int {G : GT} {w : Wd} {μ : Store} {H : Hp} {i j : Int} {Q : VK} (l : Lay G w μ H) (q : ∀ w' H', w.le w' → Lay G w' μ H' → Q (.bl (decide (i = j))) H') : rEqA G.K (.int i) (.int j) H Q := by
  refine ok_eq (fun _ _ _ _ => True) [] w μ H (.int i) (.int j) (.d (.int i)) (.d (.int j)) Q l (.int i) (.int j) ?_
  have e : dEq false (.d (.int i)) (.d (.int j)) μ = .ok (.d (.bool (decide (i = j)))) μ := by simp [dEq, view, eqD, scalD, PyData.eqv]; try rfl
  rw [e]
  intro w' v H' le lay rv
  have rv : Rp G.K w'.I v (.bool (decide (i = j))) := rv
  cases rv
  exact q w' H' le lay
/-- raise C(k = e): m by names -/
abbrev tRk (G : GT) (W : WX) (c : Nat) (fl : List Str) (ix : List Nat) (m : Nat) (tk : TA) : TS := fun _ σ H => tk σ H fun zs H2 => zs.length = m ∧ ∃ Ca, G.FA c = some Ca ∧ tMkG Ca fl ix (fun _ H Q => Q [] H) (fun _ H Q => Q zs H) σ H2 fun cls d H' => W cls d σ H'
abbrev tRm (G : GT) (W : WX) (c : Nat) (fl : List Str) (ix : List Nat) (n m : Nat) (ta tk : TA) : TS := fun _ σ H => ta σ H fun vs H1 => tk σ H1 fun zs H2 => vs.length = n ∧ zs.length = m ∧ ∃ Ca, G.FA c = some Ca ∧ tMkG Ca fl ix (fun _ H Q => Q vs H) (fun _ H Q => Q zs H) σ H2 fun cls d H' => W cls d σ H'
abbrev tBody (G : GT) (W : WX) : TS := tSeq (tIfS (tTest (tOp (rEqA G.K) (tVar 0) (tC (.int 0)))) (tRk G W 1 ["row"] [0] 1 (tCons (tVar 1) tNil)) tNext)
  (tSeq (tIfS (tTest (tOp (rEqA G.K) (tVar 0) (tC (.int 1)))) (tRm G W 4 ["number", "column"] [0, 1] 1 1 (tCons (tVar 1) tNil) (tCons (tVar 2) tNil)) tNext)
    (tRm G W 10 ["table", "step", "other", "what"] [0, 1, 2, 3] 2 2 (tCons (tVar 1) (tCons (tVar 2) tNil)) (tCons (tVar 2) (tCons (tVar 1) tNil))))
abbrev tSuA (K : PySem.W.Frag) (C : Addr) (n : Int) : Addr → Value → Option Addr → TS := fun a cls d =>
  tAsg (tIf (tTest (tOp (rEqA K) (tCB (rReprG K) (tCons (tXf a cls d C "row" (tVar 4)) tNil)) (tCB (rReprG K) (tCons (tVar 1) tNil)))) (tC (.int n)) (tC (.int 0))) (gName 3)
abbrev tSuB (K : PySem.W.Frag) (C : Addr) (f1 f2 : Str) (n : Int) : Addr → Value → Option Addr → TS := fun a cls d =>
  tAsg (tIf (tTest (tOp (rEqA K) (tCB (rReprG K) (tCons (tTupS (tCons (tXf a cls d C f1 (tVar 4)) (tCons (tXf a cls d C f2 (tVar 4)) tNil))) tNil)) (tCB (rReprG K) (tCons (tTupS (tCons (tVar 1) (tCons (tVar 2) tNil))) tNil)))) (tC (.int n)) (tC (.int 0))) (gName 3)
/-- the suite of one field -/
theorem suA_ok {G : GT} {w : Wd} {μ : Store} {H : Hp} {C a dx : Addr} {way v1 v2 v3 : V} {x : D} {n : Int} {D : Ends} (lay : Lay G w μ H) (r1 : Rv G w v1 (.d x)) (hx : reprOk x = true) (hd : H dx = some (.xd [("row", v1)]))
    (q : ∀ w' H', w.le w' → Lay G w' μ H' → D.nx [some way, some v1, some v2, some (.int n), some (.ref a)] H') : tSuA G.K C n a (.ref C) (some dx) D [some way, some v1, some v2, some v3, some (.ref a)] H := by
  refine ⟨.ref a, rfl, rfl, rfl, dx, [("row", v1)], v1, rfl, hd, rfl, ?_⟩
  try dsimp only [tNil, tCB, tCons]
  refine repr_of lay r1 hx ?_
  refine ⟨v1, rfl, ?_⟩
  try dsimp only [tNil, tCB, tCons]
  refine repr_of lay r1 hx ?_
  try dsimp only [tNil, tCB, tCons]
  refine eq_str lay fun w' H' le l' => ⟨true, rfl, ?_⟩
  exact q w' H' le l'
/-- the suite of two -/
theorem suB_ok {G : GT} {w : Wd} {μ : Store} {H : Hp} {C a dx : Addr} {way v1 v2 v3 : V} {x z : D} {n : Int} {D : Ends} {f1 f2 : Str} {fs : List (Str × V)} (lay : Lay G w μ H) (r1 : Rv G w v1 (.d x)) (r2 : Rv G w v2 (.d z)) (hx : reprOk (.tuple [x, z]) = true) (hd : H dx = some (.xd fs)) (h1 : fs.lookup f1 = some v1) (h2 : fs.lookup f2 = some v2)
    (q : ∀ w' H', w.le w' → Lay G w' μ H' → D.nx [some way, some v1, some v2, some (.int n), some (.ref a)] H') : tSuB G.K C f1 f2 n a (.ref C) (some dx) D [some way, some v1, some v2, some v3, some (.ref a)] H := by
  have len : ([v1, v2] : List V).length ≤ sizeLine := by rw [sizeLine_eq]; simp
  have tup : ∀ {w : Wd} {H : Hp} {p : Addr} {its : Array Value}, Lay G w μ H → Rv G w v1 (.d x) → Rv G w v2 (.d z) → H p = none → w.le (w.put p (frT its [v1, v2])) ∧ Lay G (w.put p (frT its [v1, v2])) μ (upd H p (frT its [v1, v2])) ∧ Rv G (w.put p (frT its [v1, v2])) (.ref p) (.d (.tuple [x, z])) := by
    intro w H p its lay r1 r2 np
    obtain ⟨le, l2⟩ := lay.new np (frT its [v1, v2])
    have r1 : Rp G.K _ v1 x := Rv.mono le r1
    have r2 : Rp G.K _ v2 z := Rv.mono le r2
    exact ⟨le, l2, .tup (SqS.of upd_same) (.cons r1 (.cons r2 .nil))⟩
  refine ⟨.ref a, rfl, rfl, rfl, dx, fs, v1, rfl, hd, h1, .ref a, rfl, rfl, rfl, dx, fs, v2, rfl, hd, h2, len, fun p its np => ?_⟩
  obtain ⟨le1, l1, t1⟩ := tup (its := its) lay r1 r2 np
  try dsimp only [tNil, tCB, tCons]
  refine repr_of l1 t1 hx ?_
  refine ⟨v1, rfl, v2, rfl, len, fun p2 its2 np2 => ?_⟩
  obtain ⟨le2, l2, t2⟩ := tup (its := its2) l1 (Rv.mono le1 r1) (Rv.mono le1 r2) np2
  try dsimp only [tNil, tCB, tCons]
  refine repr_of l2 t2 hx ?_
  try dsimp only [tNil, tCB, tCons]
  refine eq_str l2 fun w' H' le l' => ⟨true, rfl, ?_⟩
  exact q w' H' ((le1.trans le2).trans le) l'
theorem ok_l_raised {f : Addr} {fd : FuncData} (F : Fun K "_law_raised" "_law_raised" s_l_raised f fd) (T : Tx K mg) (NC_NoText : NewC P w (GG K fa) mg base "NoText" 1 1 ["row"] ["self", "row"] [(0, ["row"], [0]), (1, [], [0])]) (NC_NoCell : NewC P w (GG K fa) mg base "NoCell" 4 1 ["number", "column"] ["self", "number", "column"] [(1, ["column"], [0, 1]), (0, ["column", "number"], [1, 0]), (2, [], [0, 1])]) (NC_Clash : NewC P w (GG K fa) mg base "Clash" 10 1 ["table", "step", "other", "what"] ["self", "table", "step", "other", "what"] [(2, ["other", "what"], [0, 1, 2, 3]), (0, ["what", "other", "step", "table"], [3, 2, 1, 0]), (4, [], [0, 1, 2, 3])]) (EM_NotSuch : ∃ a, mg "NotSuch" = some (.ref a) ∧ EmX (GG K fa) (.ref a) 11 [0, 1, 2]) (EM_Lost : ∃ a, mg "Lost" = some (.ref a) ∧ EmX (GG K fa) (.ref a) 11 [3, 4, 5, 6, 7, 8, 9]) (EM_Shut : ∃ a, mg "Shut" = some (.ref a) ∧ EmX (GG K fa) (.ref a) 11 [10]) (FX_row : FlX (GG K fa) "row" [1, 3]) (FX_number : FlX (GG K fa) "number" [4]) (FX_column : FlX (GG K fa) "column" [4]) (FX_table : FlX (GG K fa) "table" [8, 10]) (FX_other : FlX (GG K fa) "other" [10]) : FnG P w K mg base 3 f fd ["_law_way", "_law_x", "_law_z"] (spD (GG K fa) 3 F_l_raised) := by
  have sc := sc_l_raised
  obtain ⟨aN, mN, xN⟩ := EM_NotSuch
  obtain ⟨aL, mL, xL⟩ := EM_Lost
  obtain ⟨aS, mS, xS⟩ := EM_Shut
  obtain ⟨C1, hC1, E1, f1r⟩ := FX_row 1 (by simp)
  obtain ⟨C4, hC4, E4, f4n⟩ := FX_number 4 (by simp)
  obtain ⟨C4', hC4', _, f4c⟩ := FX_column 4 (by simp)
  obtain ⟨C10, hC10, E10, f10t⟩ := FX_table 10 (by simp)
  obtain ⟨C10', hC10', _, f10o⟩ := FX_other 10 (by simp)
  have z4 : C4' = C4 := Option.some.inj (hC4'.symm.trans hC4)
  have z10 : C10' = C10 := Option.some.inj (hC10'.symm.trans hC10)
  subst z4 z10
  have X1 : XfC K C1 := ⟨E1.hg, E1.hk, E1.hs, E1.hd⟩
  have X4 : XfC K C4' := ⟨E4.hg, E4.hk, E4.hs, E4.hd⟩
  have X10 : XfC K C10' := ⟨E10.hg, E10.hk, E10.hs, E10.hd⟩
  obtain ⟨D1, hD1, q1⟩ := xN 1 (by decide)
  obtain ⟨D4, hD4, q4⟩ := xN 4 (by decide)
  obtain ⟨D10, hD10, q10⟩ := xN 10 (by decide)
  obtain ⟨D4b, hD4b, p4⟩ := xL 4 (by decide)
  obtain ⟨D10b, hD10b, p10⟩ := xL 10 (by decide)
  obtain ⟨D10c, hD10c, o10⟩ := xS 10 (by decide)
  have i1 : D1 = C1 := Option.some.inj (hD1.symm.trans hC1)
  have i2 : D4 = C4' := Option.some.inj (hD4.symm.trans hC4)
  have i3 : D10 = C10' := Option.some.inj (hD10.symm.trans hC10)
  have i4 : D4b = C4' := Option.some.inj (hD4b.symm.trans hC4)
  have i5 : D10b = C10' := Option.some.inj (hD10b.symm.trans hC10)
  have i6 : D10c = C10' := Option.some.inj (hD10c.symm.trans hC10)
  subst i1 i2 i3 i4 i5 i6
  obtain ⟨oc, od, kV, doc, pm, an, cdv, ct, osl, rfl, lk, hcd⟩ := F.ex
  apply fnG_of lk hcd sc (fun vs H Q E h => h.1)
  intro A outer s H vs Q E g hr h
  have tk : Takes (cxOf (L2.CX P w) P w K mg base N_l_raised "_law_raised" (defScope s_l_raised) f cdv A outer s H E) (fun cls d _ H => E cls d H) := takes_of rfl rfl rfl rfl
  have hu := hr.units
  refine ⟨_, pss_cons (ps_set (i := 3) sc.nd rfl (Or.inl rfl) pe_int) (pss_cons (ps_try_manyA (tb := fun W => tBody (GG K fa) W) (l := [(.ref aN, 4, tSuA K D1 1), (.ref aL, 4, tSuB K D4b "number" "column" 2), (.ref aS, 4, tSuB K D10c "table" "other" 3)]) rfl rfl sc.nd tk
    (fun W pn xe tkW po => pss_cons (ps_if (pt_cmpR (op_eqA hu) (pe_var (i := 0) rfl (Or.inl rfl)) pe_int (nomark _)) (pss_one (ps_raise rfl tkW (pmk_newK ["row"] [0] rfl NC_NoText g (hr.mono (by decide)) (by rfl) (pk_cons (pe_var (i := 1) rfl (Or.inl rfl)) pk_nil) (by simp)))) pss_nil)
      (pss_cons (ps_if (pt_cmpR (op_eqA hu) (pe_var (i := 0) rfl (Or.inl rfl)) pe_int (nomark _)) (pss_one (ps_raise rfl tkW (pmk_newM (n := 1) ["column"] [0, 1] rfl NC_NoCell g (hr.mono (by decide)) (by rfl) (pa_cons (pe_var (i := 1) rfl (Or.inl rfl)) pa_nil) (pk_cons (pe_var (i := 2) rfl (Or.inl rfl)) pk_nil) (by simp)))) pss_nil)
        (pss_one (ps_raise rfl tkW (pmk_newM (n := 2) ["other", "what"] [0, 1, 2, 3] rfl NC_Clash g (hr.mono (by decide)) (by rfl) (pa_cons (pe_var (i := 1) rfl (Or.inl rfl)) (pa_cons (pe_var (i := 2) rfl (Or.inl rfl)) pa_nil)) (pk_cons (pe_var (i := 2) rfl (Or.inl rfl)) (pk_cons (pe_var (i := 1) rfl (Or.inl rfl)) pk_nil)) (by simp))))))
    (.cons rfl rfl ⟨rfl, by decide, .inl mN⟩ (fun a oe cls d pn hz hf => pss_one (ps_set (i := 3) sc.nd rfl (Or.inl rfl) (pe_ifExp (pt_cmpR (op_eqA hu)
        (pe_callB (call_reprG g hu) (by rfl) T.b_repr (by decide +kernel) (pa_cons (pe_xf X1 f1r hz hf (pe_var (i := 4) rfl (Or.inl rfl))) pa_nil))
        (pe_callB (call_reprG g hu) (by rfl) T.b_repr (by decide +kernel) (pa_cons (pe_var (i := 1) rfl (Or.inl rfl)) pa_nil)) (nomark _)) pe_int pe_int)))
      (.cons rfl rfl ⟨rfl, by decide, .inl mL⟩ (fun a oe cls d pn hz hf => pss_one (ps_set (i := 3) sc.nd rfl (Or.inl rfl) (pe_ifExp (pt_cmpR (op_eqA hu)
          (pe_callB (call_reprG g hu) (by rfl) T.b_repr (by decide +kernel) (pa_cons (pe_tupS (pa_cons (pe_xf X4 f4n hz hf (pe_var (i := 4) rfl (Or.inl rfl))) (pa_cons (pe_xf X4 f4c hz hf (pe_var (i := 4) rfl (Or.inl rfl))) pa_nil))) pa_nil))
          (pe_callB (call_reprG g hu) (by rfl) T.b_repr (by decide +kernel) (pa_cons (pe_tupS (pa_cons (pe_var (i := 1) rfl (Or.inl rfl)) (pa_cons (pe_var (i := 2) rfl (Or.inl rfl)) pa_nil))) pa_nil)) (nomark _)) pe_int pe_int)))
        (.cons rfl rfl ⟨rfl, by decide, .inl mS⟩ (fun a oe cls d pn hz hf => pss_one (ps_set (i := 3) sc.nd rfl (Or.inl rfl) (pe_ifExp (pt_cmpR (op_eqA hu)
            (pe_callB (call_reprG g hu) (by rfl) T.b_repr (by decide +kernel) (pa_cons (pe_tupS (pa_cons (pe_xf X10 f10t hz hf (pe_var (i := 4) rfl (Or.inl rfl))) (pa_cons (pe_xf X10 f10o hz hf (pe_var (i := 4) rfl (Or.inl rfl))) pa_nil))) pa_nil))
            (pe_callB (call_reprG g hu) (by rfl) T.b_repr (by decide +kernel) (pa_cons (pe_tupS (pa_cons (pe_var (i := 1) rfl (Or.inl rfl)) (pa_cons (pe_var (i := 2) rfl (Or.inl rfl)) pa_nil))) pa_nil)) (nomark _)) pe_int pe_int))) .nil)))) (pss_one (ps_ret (pe_var (i := 3) rfl (Or.inl rfl))))), ?_⟩
  obtain ⟨hn, w0, μ, bs, lay, r, p⟩ := h
  unfold F_l_raised at p
  split at p
  · rename_i k x z
    cases r with
    | cons rk r => cases r with
      | cons r1 r => cases r with
        | cons r2 r =>
          cases r
          rename_i v0 v1 v2
          obtain rfl : v0 = .int k := rv_int rk
          refine ⟨.int k, rfl, ?_⟩
          show rEqA (GG K fa).K (.int k) (.int 0) H _
          refine eq_int lay fun w1 H1 le1 l1 => ⟨_, rfl, ?_⟩
          by_cases hk : k = 0
          · subst hk
            rw [if_pos rfl] at p
            split at p
            · rename_i hx
              refine ⟨v1, rfl, rfl, _, hC1, by simp, rfl, by simp, fun dx nd => ?_⟩
              obtain ⟨le2, l2⟩ := l1.new nd (.xd [("row", v1)])
              refine ⟨true, q1, fun _ a na => ?_, fun z => nomatch z⟩
              refine suA_ok (w := w1.put dx (.xd [("row", v1)])) l2 (Rv.mono (le1.trans le2) r1) hx upd_same fun w3 H3 le3 l3 => ?_
              exact ⟨.int 1, rfl, p w3 (.int 1) H3 ((le1.trans le2).trans le3) l3 (.int 1)⟩
            · exact p.elim
          · rw [if_neg hk] at p
            split at p
            · rename_i hx
              have e0 : decide (k = 0) = false := decide_eq_false hk
              rw [e0]
              refine ⟨.int k, rfl, ?_⟩
              show rEqA (GG K fa).K (.int k) (.int 1) H1 _
              refine eq_int l1 fun w2 H2 le2 l2 => ⟨_, rfl, ?_⟩
              by_cases hk1 : k = 1
              · subst hk1
                refine ⟨v1, rfl, v2, rfl, rfl, rfl, _, hC4, by simp, rfl, by simp, fun dx nd => ?_⟩
                obtain ⟨le3, l3⟩ := l2.new nd (.xd [("column", v2), ("number", v1)])
                refine ⟨false, q4, (fun z => nomatch z), fun _ => ⟨true, p4, fun _ a na => ?_, fun z => nomatch z⟩⟩
                refine suB_ok (w := w2.put dx (.xd [("column", v2), ("number", v1)])) l3 (Rv.mono ((le1.trans le2).trans le3) r1) (Rv.mono ((le1.trans le2).trans le3) r2) hx upd_same rfl rfl fun w4 H4 le4 l4 => ?_
                exact ⟨.int 2, rfl, p w4 (.int 2) H4 (((le1.trans le2).trans le3).trans le4) l4 (.int 2)⟩
              · have e1 : decide (k = 1) = false := decide_eq_false hk1
                rw [e1]
                rw [if_neg hk1] at p
                refine ⟨v1, rfl, v2, rfl, v2, rfl, v1, rfl, rfl, rfl, _, hC10, by simp, rfl, by simp, fun dx nd => ?_⟩
                obtain ⟨le3, l3⟩ := l2.new nd (.xd [("what", v1), ("other", v2), ("step", v2), ("table", v1)])
                refine ⟨false, q10, (fun z => nomatch z), fun _ => ⟨false, p10, (fun z => nomatch z), fun _ => ⟨true, o10, fun _ a na => ?_, fun z => nomatch z⟩⟩⟩
                refine suB_ok (w := w2.put dx (.xd [("what", v1), ("other", v2), ("step", v2), ("table", v1)])) l3 (Rv.mono ((le1.trans le2).trans le3) r1) (Rv.mono ((le1.trans le2).trans le3) r2) hx upd_same rfl rfl fun w4 H4 le4 l4 => ?_
                exact ⟨.int 3, rfl, p w4 (.int 3) H4 (((le1.trans le2).trans le3).trans le4) l4 (.int 3)⟩
            · exact p.elim
  · exact p.elim

theorem sc_l_right : FnScope N_l_right ["_law_hand_here"] (defScope s_l_right) := ⟨rfl, rfl, rfl, by decide +kernel, rfl, by decide +kernel, by decide +kernel⟩
theorem ok_l_right {f : Addr} {fd : FuncData} (F : Fun K "_law_right" "_law_right" s_l_right f fd) (T : Tx K mg) (C_l_thing : Cal P w (GG K fa) mg base "_law_thing" 3 ["_law_hand_here"] [] F_l_thing) (C_l_by_places : Cal P w (GG K fa) mg base "_law_by_places" 3 ["_law_x", "_law_z"] [] F_l_by_places) (C_l_by_names : Cal P w (GG K fa) mg base "_law_by_names" 3 ["_law_x", "_law_z"] [] F_l_by_names) (C_l_classes : Cal P w (GG K fa) mg base "_law_classes" 1 ["_law_e"] [] F_l_classes) (C_l_families : Cal P w (GG K fa) mg base "_law_families" 1 ["_law_e"] [] F_l_families) (C_l_values : Cal P w (GG K fa) mg base "_law_values" 1 ["_law_made"] [] F_l_values) (C_l_raised : Cal P w (GG K fa) mg base "_law_raised" 3 ["_law_way", "_law_x", "_law_z"] [] F_l_raised) : FnG P w K mg base 4 f fd ["_law_hand_here"] (spD (GG K fa) 1 F_l_right) := by
  have sc := sc_l_right
  refine fn_okG (G := GG K fa) F sc fun cdv A outer s H E g hr tk po => ?_
  exact dss_cons (ds_asg (de_tup (da_cons (de_calC rfl C_l_thing (by exact g) (by exact hr.mono (by decide)) tk (by rfl) (da_cons (de_var 0) (da_nil))) (da_cons (de_calC rfl C_l_thing (by exact g) (by exact hr.mono (by decide)) tk (by rfl) (da_cons (de_var 0) (da_nil))) (da_nil)))) (dg_tup rfl rfl (dgs_cons (dg_name (i := 1) sc.nd) (dgs_cons (dg_name (i := 2) sc.nd) (dgs_nil))))) (dss_cons (ds_for po rfl (di_tupD (by rfl) (da_cons (de_calC rfl C_l_by_places (by exact g) (by exact hr.mono (by decide)) tk (by rfl) (da_cons (de_var 1) (da_cons (de_var 2) (da_nil)))) (da_cons (de_calC rfl C_l_by_names (by exact g) (by exact hr.mono (by decide)) tk (by rfl) (da_cons (de_var 1) (da_cons (de_var 2) (da_nil)))) (da_nil)))) (dg_name (i := 3) sc.nd) (dss_cons (ds_forG 1000 po rfl rfl (by rfl) T.b_enumerate (de_var 3) (dgs_cons (dg_name (i := 4) sc.nd) (dgs_cons (dg_name (i := 5) sc.nd) (dgs_nil))) (dss_cons (ds_set (i := 6) sc.nd (de_op op_addA ok_add (de_callTy call_intA ok_int (by rfl) T.b_int (by decide +kernel) (da_cons (de_cmp op_gtA ok_cmp (de_var 4) (de_int)) (da_nil))) (de_callTy call_intA ok_int (by rfl) T.b_int (by decide +kernel) (da_cons (de_cmp op_gtA ok_cmp (de_var 4) (de_int)) (da_nil))))) (dss_cons (ds_if (dt_cmp (op_neA (by exact hr.units)) ok_ne (de_calC rfl C_l_classes (by exact g) (by exact hr.mono (by decide)) tk (by rfl) (da_cons (de_var 5) (da_nil))) (de_lc [("_law_spot", 7)] fin_list rfl sc.nd (di_range1 (by rfl) T.b_range (da_cons (de_int) (da_nil))) (blkOk_by (N := N_l_right) (sc := defScope s_l_right) (by decide +kernel)) (fun _ _ _ _ _ => dg_name (i := 7) sc.nd) (fun _ _ _ _ _ => dts_nil) (fun _ _ _ _ _ => de_cmp (op_eqA (by exact hr.units)) ok_eq (de_var 4) (de_var 7)))) (dss_one (ds_ret (de_bl))) (dss_nil)) (dss_one (ds_if (dt_cmp (op_neA (by exact hr.units)) ok_ne (de_calC rfl C_l_families (by exact g) (by exact hr.mono (by decide)) tk (by rfl) (da_cons (de_var 5) (da_nil))) (de_lc [("_law_spot", 7)] fin_list rfl sc.nd (di_range1 (by rfl) T.b_range (da_cons (de_int) (da_nil))) (blkOk_by (N := N_l_right) (sc := defScope s_l_right) (by decide +kernel)) (fun _ _ _ _ _ => dg_name (i := 7) sc.nd) (fun _ _ _ _ _ => dts_nil) (fun _ _ _ _ _ => de_cmp op_inA ok_in (de_var 7) (de_tup (da_cons (de_var 6) (da_cons (de_op op_addA ok_add (de_var 6) (de_int)) (da_nil))))))) (dss_one (ds_ret (de_bl))) (dss_nil)))))) (dss_one (ds_if (dt_cmp (op_neA (by exact hr.units)) ok_ne (de_callB (call_reprG (by exact g) (by exact hr.units)) ok_reprG (by rfl) T.b_repr (by decide +kernel) (da_cons (de_calC rfl C_l_values (by exact g) (by exact hr.mono (by decide)) tk (by rfl) (da_cons (de_var 3) (da_nil))) (da_nil))) (de_callB (call_reprG (by exact g) (by exact hr.units)) ok_reprG (by rfl) T.b_repr (by decide +kernel) (da_cons (de_op op_addA ok_add (de_op op_addA ok_add (de_op op_addA ok_add (de_rep 4 (by decide) (by decide) (da_cons (de_var 1) (da_nil))) (de_lst (da_cons (de_tup (da_cons (de_var 1) (da_cons (de_var 2) (da_nil)))) (da_nil)))) (de_rep 4 (by decide) (by decide) (da_cons (de_var 1) (da_nil)))) (de_lst (da_cons (de_tup (da_cons (de_var 1) (da_cons (de_var 2) (da_cons (de_var 2) (da_cons (de_var 1) (da_nil)))))) (da_nil)))) (da_nil)))) (dss_one (ds_ret (de_bl))) (dss_nil))))) (dss_one (ds_ret (de_cmp (op_eqA (by exact hr.units)) ok_eq (de_lc [("_law_way", 8)] fin_list rfl sc.nd (di_range1 (by rfl) T.b_range (da_cons (de_int) (da_nil))) (blkOk_by (N := N_l_right) (sc := defScope s_l_right) (by decide +kernel)) (fun _ _ _ _ _ => dg_name (i := 8) sc.nd) (fun _ _ _ _ _ => dts_nil) (fun _ _ _ _ _ => de_calC rfl C_l_raised (by exact g) (by exact hr.mono (by decide)) takes0 (by rfl) (da_cons (de_var 8) (da_cons (de_var 1) (da_cons (de_var 2) (da_nil)))))) (de_lst (da_cons (de_int) (da_cons (de_int) (da_cons (de_int) (da_nil)))))))))
theorem sc_l_hand : FnScope N_l_hand ["_law_script", "_law_k"] (defScope s_l_hand) := ⟨rfl, rfl, rfl, by decide +kernel, rfl, by decide +kernel, by decide +kernel⟩
theorem ok_l_hand {f : Addr} {fd : FuncData} (F : Fun K "_law_hand" "_law_hand" s_l_hand f fd) (T : Tx K mg) : FnG P w K mg base 1 f fd ["_law_script", "_law_k"] (spD (GG K fa) 2 F_l_hand) := by
  have sc := sc_l_hand
  refine fn_okG (G := GG K fa) F sc fun cdv A outer s H E g hr tk po => ?_
  exact dss_cons (ds_set (i := 2) sc.nd (de_int)) (dss_cons (ds_if (dt_cmp op_ltA ok_cmp (de_var 1) (de_callB call_len ok_len (by rfl) T.b_len (by decide +kernel) (da_cons (de_var 0) (da_nil)))) (dss_one (ds_set (i := 2) sc.nd (de_ix ix_seq ok_ix (de_var 0) (de_var 1)))) (dss_nil)) (dss_cons (ds_set (i := 3) sc.nd (de_op op_mulA ok_mulA (de_op op_mod ok_mod (de_var 2) (de_op op_mulA ok_mulA (de_op op_mulA ok_mulA (de_op op_pow ok_pow (de_int) (de_int)) (de_op op_pow ok_pow (de_int) (de_int))) (de_op op_pow ok_pow (de_int) (de_int)))) (de_callTy call_intA ok_int (by rfl) T.b_int (by decide +kernel) (da_cons (de_cmp op_geA ok_cmp (de_var 2) (de_op op_pow ok_pow (de_int) (de_int))) (da_nil))))) (dss_one (ds_ret (de_lstC (da_cons (de_var 3) (da_cons (de_op op_mod ok_mod (de_op op_addA ok_add (de_op op_addA ok_add (de_op op_mod ok_mod (de_var 2) (de_int)) (de_op op_mulA ok_mulA (de_int) (de_var 1))) (de_int)) (de_int)) (da_cons (de_int) (da_nil)))))))))
theorem sc_law : FnScope N_law ["_law_script"] (defScope s_law) := ⟨rfl, rfl, rfl, by decide +kernel, rfl, by decide +kernel, by decide +kernel⟩
theorem ok_law {f : Addr} {fd : FuncData} (F : Fun K "law" "law" s_law f fd) (T : Tx K mg) (C_l_right : Cal P w (GG K fa) mg base "_law_right" 4 ["_law_hand_here"] [] F_l_right) (C_l_hand : Cal P w (GG K fa) mg base "_law_hand" 1 ["_law_script", "_law_k"] [] F_l_hand) : FnG P w K mg base 5 f fd ["_law_script"] (spD (GG K fa) 1 F_law) := by
  have sc := sc_law
  refine fn_okG (G := GG K fa) F sc fun cdv A outer s H E g hr tk po => ?_
  exact dss_one (ds_ret (de_callB (cr_all rfl) ok_all (by rfl) T.b_all (by decide +kernel) (da_cons (de_lc [("_law_k", 1)] fin_list rfl sc.nd (di_range1 (by rfl) T.b_range (da_cons (de_op op_addA ok_add (de_int) (de_callB (call_min2 rfl) ok_min (by rfl) T.b_min (by decide +kernel) (da_cons (de_int) (da_cons (de_callB call_len ok_len (by rfl) T.b_len (by decide +kernel) (da_cons (de_var 0) (da_nil))) (da_nil))))) (da_nil))) (blkOk_by (N := N_law) (sc := defScope s_law) (by decide +kernel)) (fun _ _ _ _ _ => dg_name (i := 1) sc.nd) (fun _ _ _ _ _ => dts_nil) (fun _ _ _ _ _ => de_calC rfl C_l_right (by exact g) (by exact hr.mono (by decide)) takes0 (by rfl) (da_cons (de_calC rfl C_l_hand (by exact g) (by exact hr.mono (by decide)) takes0 (by rfl) (da_cons (de_var 0) (da_cons (de_var 1) (da_nil)))) (da_nil)))) (da_nil))))
end
end LW

namespace LW
open PySem PySem.Spec PyProof.Rows L2 DL
/-- the box: three numbers in bounds; m: how many draws at most so far -/
def Bx (h m : Nat) (μ : Store) : Prop := ∃ a b c : Int, μ[h]? = some (.lst [.d (.int a), .d (.int b), .d (.int c)]) ∧ 0 ≤ a ∧ 0 ≤ b ∧ b < 2 ^ 62 ∧ 0 ≤ c ∧ c ≤ m
theorem w_take {h m : Nat} {μ : Store} {P : Dv → Store → Prop} (H : Bx h m μ) (hm : m ≤ 10 ^ 9) {n : Int} (h0 : 0 < n) (h1 : n < 2 ^ 60) (fin : ∀ (r : Nat) μ', (r : Int) < n → Bx h (m + 1) μ' → Oth h μ μ' → P (.d (.int r)) μ') : Wp (F_l_take [.c h, .d (.int n)] μ) P := by
  obtain ⟨a, b, c, e, a0, b0, b1, c0, c1⟩ := H
  have hh := lt_of_get e
  have i0 : L2.atI [Dv.d (.int a), Dv.d (.int b), Dv.d (.int c)] 0 = some (.d (.int a)) := rfl
  have i2 : L2.atI [Dv.d (.int a), Dv.d (.int b), Dv.d (.int c)] 2 = some (.d (.int c)) := rfl
  have nn : ∀ x : Int, ∃ r : Nat, x % n = (r : Int) ∧ (r : Int) < n := fun x => ⟨(x % n).toNat, (Int.toNat_of_nonneg (Int.emod_nonneg _ (by omega))).symm, by rw [Int.toNat_of_nonneg (Int.emod_nonneg _ (by omega))]; exact Int.emod_lt_of_pos _ h0⟩
  unfold F_l_take B_l_take
  apply Wp_run
  by_cases ha : 0 < a
  · obtain ⟨r, er, hr⟩ := nn a
    simp -implicitDefEqProofs (disch := first | (with_reducible assumption) | ((with_reducible show List.length _ = _); rfl) | (simp only [allD_cons, allD_nil, Option.map_some, Option.isSome_some]; done) | (simp only [List.length_cons, List.length_nil, List.length_map]; done) | ((with_reducible refine cMod_of ?_); omega) | ((with_reducible refine cDiv_of ?_ ?_) <;> omega) | ((with_reducible refine okR_of ?_ ?_) <;> omega) | omega | (simp only [List.length_take, List.length_drop, List.length_append, List.length_cons, List.length_nil, List.length_map, List.length_range, List.length_replicate]; omega)) [-sSeq_r, -sRet_r, -sDrop_r, -sSet_r, -sIf_r, -sPar_r, -sAsg_r, -sSetIx_r, -sFor_r, -gsCons_r, -gT_r, -e1_r, -e2_r, -tV_r, -tAndM_r, -tOrM_r, -tNotM_r, -eAnd_r, -eOr_r, -eNot_r, -eIf_r, -aCons_r, -eN_r, -fCall_r, -eCallK_r, -eM_r, -eSl_r, -oSome_r, -eIsN_r, -eLc_r, -iSeq_r, -iRng_r, r1_l_take, r2_l_take, r3_l_take, r4_l_take, r5_l_take, r6_l_take, dIx_c e i0, ha, dSetIx_c e (show L2.ixN _ 0 = some 0 from rfl), er]
    exact fin r _ hr ⟨a / n, b, c, by rw [List.getElem?_set_self hh], Int.ediv_nonneg a0 (by omega), b0, b1, c0, by omega⟩ (Oth.set _ _ _)
  · have e' : (μ.set h (.lst [.d (.int a), .d (.int b), .d (.int (c + 1))]))[h]? = some (.lst [.d (.int a), .d (.int b), .d (.int (c + 1))]) := by rw [List.getElem?_set_self hh]
    have i1' : L2.atI [Dv.d (.int a), Dv.d (.int b), Dv.d (.int (c + 1))] 1 = some (.d (.int b)) := rfl
    have i2' : L2.atI [Dv.d (.int a), Dv.d (.int b), Dv.d (.int (c + 1))] 2 = some (.d (.int (c + 1))) := rfl
    have cT : c + 1 < 2 ^ 40 := by omega
    have m1 : cMul 65537 (c + 1) = true := cMul_ok (a := 20) (b := 41) (by decide) (by omega) (by decide) (by decide) (by decide)
    have mm : (65537 * (c + 1)).natAbs < 2 ^ 60 := by omega
    have m2 : cMul (65537 * (c + 1)) (c + 1) = true := cMul_ok (a := 60) (b := 41) (by omega) (by omega) (by decide) (by decide) (by decide)
    have sq0 : 0 ≤ 65537 * (c + 1) * (c + 1) := Int.mul_nonneg (by omega) (by omega)
    have sq1 : 65537 * (c + 1) * (c + 1) < 2 ^ 101 := by
      have h1 : 65537 * (c + 1) * (c + 1) ≤ 2 ^ 60 * (c + 1) := Int.mul_le_mul_of_nonneg_right (by omega) (by omega)
      omega
    generalize hq : 65537 * (c + 1) * (c + 1) = q at sq0 sq1
    have m3 : cMul (b + q + 11) 48271 = true := cMul_ok (a := 110) (b := 20) (by omega) (by decide) (by decide) (by decide) (by decide)
    generalize hx : (b + q + 11) * 48271 % 2305843009213693921 = x
    have x0 : 0 ≤ x ∧ x < 2305843009213693921 := by rw [← hx]; exact ⟨Int.emod_nonneg _ (by decide), Int.emod_lt_of_pos _ (by decide)⟩
    have m4 : cMul 99991 (c + 1) = true := cMul_ok (a := 20) (b := 41) (by decide) (by omega) (by decide) (by decide) (by decide)
    have x1 : 0 ≤ x % 1000003 ∧ x % 1000003 < 1000003 := ⟨Int.emod_nonneg _ (by decide), Int.emod_lt_of_pos _ (by decide)⟩
    have m5 : cMul x (x % 1000003 + 99991 * (c + 1)) = true := cMul_ok (a := 70) (b := 70) (by omega) (by omega) (by decide) (by decide) (by decide)
    generalize hz : x * (x % 1000003 + 99991 * (c + 1)) % 2305843009213693907 = z
    obtain ⟨r, er, hr⟩ := nn (z / 97 + z / 1000033)
    simp -implicitDefEqProofs (disch := first | (with_reducible assumption) | ((with_reducible show List.length _ = _); rfl) | (simp only [allD_cons, allD_nil, Option.map_some, Option.isSome_some]; done) | (simp only [List.length_cons, List.length_nil, List.length_map]; done) | ((with_reducible refine cMod_of ?_); omega) | ((with_reducible refine cDiv_of ?_ ?_) <;> omega) | ((with_reducible refine okR_of ?_ ?_) <;> omega) | omega | (simp only [List.length_take, List.length_drop, List.length_append, List.length_cons, List.length_nil, List.length_map, List.length_range, List.length_replicate]; omega)) [-sSeq_r, -sRet_r, -sDrop_r, -sSet_r, -sIf_r, -sPar_r, -sAsg_r, -sSetIx_r, -sFor_r, -gsCons_r, -gT_r, -e1_r, -e2_r, -tV_r, -tAndM_r, -tOrM_r, -tNotM_r, -eAnd_r, -eOr_r, -eNot_r, -eIf_r, -aCons_r, -eN_r, -fCall_r, -eCallK_r, -eM_r, -eSl_r, -oSome_r, -eIsN_r, -eLc_r, -iSeq_r, -iRng_r, r1_l_take, r2_l_take, r3_l_take, r4_l_take, r5_l_take, r6_l_take, dIx_c e i0, dIx_c e i2, ha, dSetIx_c e (show L2.ixN _ 2 = some 2 from rfl), dIx_c e' i1', dIx_c e' i2', hq, hx, hz, er]
    exact fin r _ hr ⟨a, b, c + 1, e', a0, b0, b1, by omega, by omega⟩ (Oth.set _ _ _)
section
variable {h m : Nat} {μ : Store} {P : Dv → Store → Prop}
theorem w_pick (H : Bx h m μ) (hm : m ≤ 10 ^ 9) {ds : List D} (h0 : 0 < ds.length) (h1 : ds.length < 10 ^ 6) (fin : ∀ c μ', c ∈ ds → Bx h (m + 1) μ' → Oth h μ μ' → P (.d c) μ') : Wp (F_l_pick [.c h, .d (.list ds)] μ) P := by
  unfold F_l_pick B_l_pick
  apply Wp_run
  simp -implicitDefEqProofs (disch := first | (with_reducible assumption) | ((with_reducible show List.length _ = _); rfl) | (simp only [allD_cons, allD_nil, Option.map_some, Option.isSome_some]; done) | (simp only [List.length_cons, List.length_nil, List.length_map]; done) | ((with_reducible refine cMod_of ?_); omega) | ((with_reducible refine cDiv_of ?_ ?_) <;> omega) | ((with_reducible refine okR_of ?_ ?_) <;> omega) | omega | (simp only [List.length_take, List.length_drop, List.length_append, List.length_cons, List.length_nil, List.length_map, List.length_range, List.length_replicate]; omega)) [-sSeq_r, -sRet_r, -sDrop_r, -sSet_r, -sIf_r, -sPar_r, -sAsg_r, -sSetIx_r, -sFor_r, -gsCons_r, -gT_r, -e1_r, -e2_r, -tV_r, -tAndM_r, -tOrM_r, -tNotM_r, -eAnd_r, -eOr_r, -eNot_r, -eIf_r, -aCons_r, -eN_r, -fCall_r, -eCallK_r, -eM_r, -eSl_r, -oSome_r, -eIsN_r, -eLc_r, -iSeq_r, -iRng_r, ]
  refine w_take H hm (by omega) (by omega) fun r μ' hr H' O => ?_
  have hi : r < ds.length := by omega
  simp -implicitDefEqProofs (disch := first | (with_reducible assumption) | ((with_reducible show List.length _ = _); rfl) | (simp only [allD_cons, allD_nil, Option.map_some, Option.isSome_some]; done) | (simp only [List.length_cons, List.length_nil, List.length_map]; done) | ((with_reducible refine cMod_of ?_); omega) | ((with_reducible refine cDiv_of ?_ ?_) <;> omega) | ((with_reducible refine okR_of ?_ ?_) <;> omega) | omega | (simp only [List.length_take, List.length_drop, List.length_append, List.length_cons, List.length_nil, List.length_map, List.length_range, List.length_replicate]; omega)) [-sSeq_r, -sRet_r, -sDrop_r, -sSet_r, -sIf_r, -sPar_r, -sAsg_r, -sSetIx_r, -sFor_r, -gsCons_r, -gT_r, -e1_r, -e2_r, -tV_r, -tAndM_r, -tOrM_r, -tNotM_r, -eAnd_r, -eOr_r, -eNot_r, -eIf_r, -aCons_r, -eN_r, -fCall_r, -eCallK_r, -eM_r, -eSl_r, -oSome_r, -eIsN_r, -eLc_r, -iSeq_r, -iRng_r, dIx_l (atI_nn (show ds[r]? = some ds[r] by simp [hi]))]
  exact fin _ μ' (List.getElem_mem hi) H' O
/-- deep and long at most -/
structure Sg (k c : Nat) (d : D) : Prop where
  sh : d.showable = true
  dp : d.depth ≤ k
  ln : d.shown.length ≤ c
theorem Sg.mono {k c k' c' : Nat} {d : D} (h : Sg k c d) (hk : k ≤ k') (hc : c ≤ c') : Sg k' c' d := ⟨h.sh, Nat.le_trans h.dp hk, Nat.le_trans h.ln hc⟩
theorem sg_all {k c : Nat} : ∀ {ds : List D}, (∀ d ∈ ds, Sg k c d) → PyData.showableAll ds = true ∧ PyData.depthAll ds ≤ k ∧ piled (PyData.shownAll ds) ≤ ds.length * (c + 2)
  | [], _ => ⟨rfl, Nat.zero_le _, Nat.zero_le _⟩
  | d :: ds, h => by
    obtain ⟨a1, a4, a5⟩ := sg_all (ds := ds) fun e he => h e (List.mem_cons_of_mem _ he)
    obtain ⟨b1, b4, b5⟩ := h d List.mem_cons_self
    refine ⟨?_, ?_, ?_⟩
    · simp [PyData.showableAll, a1, b1]
    · simp only [PyData.depthAll]; omega
    · rw [PyData.shownAll, piled_cons, List.length_cons, Nat.succ_mul]; omega
theorem Sg.list {k c n : Nat} {ds : List D} (h : ∀ d ∈ ds, Sg k c d) (hn : ds.length ≤ n) : Sg (k + 1) (n * (c + 2) + 3) (.list ds) := by
  obtain ⟨a1, a4, a5⟩ := sg_all h
  have m : ds.length * (c + 2) ≤ n * (c + 2) := Nat.mul_le_mul_right _ hn
  refine ⟨by simpa [PyData.showable] using a1, by simp only [PyData.depth]; omega, ?_⟩
  have := listText_le (PyData.shownAll ds)
  rw [PyData.shown]
  omega
theorem Sg.tup {k c n : Nat} {ds : List D} (h : ∀ d ∈ ds, Sg k c d) (hn : ds.length ≤ n) : Sg (k + 1) (n * (c + 2) + 3) (.tuple ds) := by
  obtain ⟨a1, a4, a5⟩ := sg_all h
  have m : ds.length * (c + 2) ≤ n * (c + 2) := Nat.mul_le_mul_right _ hn
  refine ⟨by simpa [PyData.showable] using a1, by simp only [PyData.depth]; omega, ?_⟩
  have := tupleText_le (PyData.shownAll ds)
  rw [PyData.shown]
  omega
theorem Sg.ok {d : D} (h : Sg 40 16000000 d) : reprOk d = true := by
  have hb := line_big
  unfold reprOk
  simp only [h.sh, Bool.true_and, Bool.and_eq_true, decide_eq_true_eq]
  exact ⟨h.dp, by have := h.ln; omega⟩
theorem dReprG_sg {d : D} {μ : Store} (h : Sg 40 16000000 d) : dReprG [.d d] μ = .ok (.d (.str d.shown)) μ := by
  have hr := h.ok
  unfold reprOk at hr
  show (if (d.showable && decide (d.depth ≤ 40) && decide (d.shown.length ≤ sizeLine)) = true then Out.ok (Dv.d (.str d.shown)) μ else .bad) = _
  rw [if_pos hr]
theorem w_thing (H : Bx h m μ) (hm : m + 5 ≤ 10 ^ 9) (fin : ∀ x μ', Sg 3 100 x → Bx h (m + 2) μ' → Oth h μ μ' → P (.d x) μ') : Wp (F_l_thing [.c h] μ) P := by
  have p9 : ∀ μ, dPow (.d (.int 10)) (.d (.int 9)) μ = .ok (.d (.int (10 ^ 9))) μ := fun μ => dNum_ii (by decide)
  unfold F_l_thing B_l_thing
  apply Wp_run
  simp -implicitDefEqProofs (disch := first | (with_reducible assumption) | ((with_reducible show List.length _ = _); rfl) | (simp only [allD_cons, allD_nil, Option.map_some, Option.isSome_some]; done) | (simp only [List.length_cons, List.length_nil, List.length_map]; done) | ((with_reducible refine cMod_of ?_); omega) | ((with_reducible refine cDiv_of ?_ ?_) <;> omega) | ((with_reducible refine okR_of ?_ ?_) <;> omega) | omega | (simp only [List.length_take, List.length_drop, List.length_append, List.length_cons, List.length_nil, List.length_map, List.length_range, List.length_replicate]; omega)) [-sSeq_r, -sRet_r, -sDrop_r, -sSet_r, -sIf_r, -sPar_r, -sAsg_r, -sSetIx_r, -sFor_r, -gsCons_r, -gT_r, -e1_r, -e2_r, -tV_r, -tAndM_r, -tOrM_r, -tNotM_r, -eAnd_r, -eOr_r, -eNot_r, -eIf_r, -aCons_r, -eN_r, -fCall_r, -eCallK_r, -eM_r, -eSl_r, -oSome_r, -eIsN_r, -eLc_r, -iSeq_r, -iRng_r, r1_l_thing, p9]
  refine w_take H (by omega) (by decide) (by decide) fun r μ1 hr H1 O1 => ?_
  have hd : ∀ (ρ : DEnv) (μ : Store), eDic [(eC (Dv.d (PyData.str (T [97]))), eC (Dv.d (PyData.int 1)))] ρ μ = .ok (.d (.dict [(.str (T [97]), .int 1)])) μ := fun _ _ => rfl
  simp -implicitDefEqProofs (disch := first | (with_reducible assumption) | ((with_reducible show List.length _ = _); rfl) | (simp only [allD_cons, allD_nil, Option.map_some, Option.isSome_some]; done) | (simp only [List.length_cons, List.length_nil, List.length_map]; done) | ((with_reducible refine cMod_of ?_); omega) | ((with_reducible refine cDiv_of ?_ ?_) <;> omega) | ((with_reducible refine okR_of ?_ ?_) <;> omega) | omega | (simp only [List.length_take, List.length_drop, List.length_append, List.length_cons, List.length_nil, List.length_map, List.length_range, List.length_replicate]; omega)) [-sSeq_r, -sRet_r, -sDrop_r, -sSet_r, -sIf_r, -sPar_r, -sAsg_r, -sSetIx_r, -sFor_r, -gsCons_r, -gT_r, -e1_r, -e2_r, -tV_r, -tAndM_r, -tOrM_r, -tNotM_r, -eAnd_r, -eOr_r, -eNot_r, -eIf_r, -aCons_r, -eN_r, -fCall_r, -eCallK_r, -eM_r, -eSl_r, -oSome_r, -eIsN_r, -eLc_r, -iSeq_r, -iRng_r, r1_l_thing, hd]
  refine w_pick H1 (by omega) (by simp) (by simp) fun x μ2 hx H2 O2 => ?_
  refine fin x μ2 ?_ H2 (O1.trans O2)
  simp only [List.mem_cons, List.not_mem_nil, or_false] at hx
  have hi : ∀ i : Int, i.natAbs < 10 ^ 40 → Sg 3 100 (.int i) := fun i h => by
    obtain ⟨a, b, c, d, e⟩ := Sm.int h
    exact ⟨a, by omega, by omega⟩
  have dc : ∀ d : D, (d.showable && decide (d.depth ≤ 3) && decide (d.shown.length ≤ 100)) = true → Sg 3 100 d := fun d h => by
    simp only [Bool.and_eq_true, decide_eq_true_eq] at h
    exact ⟨h.1.1, h.1.2, h.2⟩
  rcases hx with rfl | rfl | rfl | rfl | rfl | rfl | rfl | rfl | rfl | rfl | rfl | rfl | rfl
  · exact hi _ (by omega)
  · exact hi _ (by decide)
  · exact hi _ (by decide)
  · exact dc _ (by decide +kernel)
  · exact dc _ (by decide +kernel)
  · exact dc _ (by decide +kernel)
  · exact dc _ (by decide +kernel)
  · exact dc _ (by decide +kernel)
  · exact dc _ (by decide +kernel)
  · exact dc _ (by decide +kernel)
  · exact dc _ (by decide +kernel)
  · exact dc _ (by decide +kernel)
  · exact dc _ (by decide +kernel)
theorem cList_c {xs : List Dv} (h : xs.length ≤ 16000000) : cList xs μ = .ok (.c μ.length) (μ ++ [.lst xs]) := by
  unfold cList
  rw [if_pos (Nat.le_trans h line_big)]
theorem cPow_ok {j : Int} (h0 : 0 ≤ j) (h1 : j ≤ 1000000) : cPow 10 j = true := by
  unfold cPow
  rw [decide_eq_true h0, decide_eq_true h1]
  decide
theorem w_hand {ns : List Int} {k : Nat} (hn : ns.length ≤ 63) (hk : k ≤ 100) (hb : ∀ i ∈ ns, Builtin.Int.intBits i ≤ 1048576) (fin : ∀ n μ', Bx n 1 μ' → P (.c n) μ') : Wp (F_l_hand [.d (.list (ns.map PyData.int)), .d (.int k)] μ) P := by
  have main : ∀ cell : Int, Builtin.Int.intBits cell ≤ 1048576 → Wp (r2_l_hand [some (.d (.list (ns.map PyData.int))), some (.d (.int k)), some (.d (.int cell)), none] μ) (finP P) := by
    intro cell hc
    have c2 : cMul 7919 (k : Int) = true := cMul_ok (a := 40) (b := 20) (by decide) (by omega) (by decide) (by decide) (by decide)
    have p18 : dPow (.d (.int 10)) (.d (.int 18)) μ = .ok (.d (.int (10 ^ 18))) μ := dNum_ii (cPow_ok (by decide) (by decide))
    have p60 : dPow (.d (.int 10)) (.d (.int 60)) μ = .ok (.d (.int (10 ^ 60))) μ := dNum_ii (cPow_ok (by decide) (by decide))
    have u1 : cMul (10 ^ 60) (10 ^ 60) = true := cMul_ok (a := 200) (b := 200) (by decide) (by decide) (by decide) (by decide) (by decide)
    have u2 : cMul (10 ^ 60 * 10 ^ 60) (10 ^ 60) = true := cMul_ok (a := 400) (b := 200) (by decide) (by decide) (by decide) (by decide) (by decide)
    have hU0 : (0 : Int) < 10 ^ 60 * 10 ^ 60 * 10 ^ 60 := by decide
    have hU1 : (10 : Int) ^ 60 * 10 ^ 60 * 10 ^ 60 < 2 ^ 600 := by decide
    generalize hM : (cell % 2305843009213693951 + 7919 * (k : Int) + 3) % 2305843009213693951 = M
    have M0 : 0 ≤ M ∧ M < 2 ^ 62 := by omega
    generalize hT : (10 : Int) ^ 18 = t at p18
    generalize hu : (10 : Int) ^ 60 = u at p60 u1 u2 hU0 hU1
    generalize hv : u * u * u = v at hU0 hU1
    have last : ∀ b : Int, 0 ≤ b → Wp (r1_l_hand [some (.d (.list (ns.map PyData.int))), some (.d (.int k)), some (.d (.int cell)), some (.d (.int b))] μ) (finP P) := fun b h0 => by
      simp -implicitDefEqProofs (disch := first | (with_reducible assumption) | ((with_reducible show List.length _ = _); rfl) | (simp only [allD_cons, allD_nil, Option.map_some, Option.isSome_some]; done) | (simp only [List.length_cons, List.length_nil, List.length_map]; done) | ((with_reducible refine cMod_of ?_); omega) | ((with_reducible refine cDiv_of ?_ ?_) <;> omega) | ((with_reducible refine okR_of ?_ ?_) <;> omega) | omega | (simp only [List.length_take, List.length_drop, List.length_append, List.length_cons, List.length_nil, List.length_map, List.length_range, List.length_replicate]; omega)) [-sSeq_r, -sRet_r, -sDrop_r, -sSet_r, -sIf_r, -sPar_r, -sAsg_r, -sSetIx_r, -sFor_r, -gsCons_r, -gT_r, -e1_r, -e2_r, -tV_r, -tAndM_r, -tOrM_r, -tNotM_r, -eAnd_r, -eOr_r, -eNot_r, -eIf_r, -aCons_r, -eN_r, -fCall_r, -eCallK_r, -eM_r, -eSl_r, -oSome_r, -eIsN_r, -eLc_r, -iSeq_r, -iRng_r, r1_l_hand, hM]
      rw [cList_c (by simp), Wp_ok]
      exact fin μ.length _ ⟨b, M, 0, by simp, h0, M0.1, M0.2, by decide, by decide⟩
    have v0 := Int.emod_nonneg cell (show v ≠ 0 by omega)
    have v1 := Int.emod_lt_of_pos cell hU0
    have w1 : cMul (cell % v) 1 = true := cMul_ok (a := 600) (b := 10) (by omega) (by decide) (by decide) (by decide) (by decide)
    have w0 : cMul (cell % v) 0 = true := cMul_ok (a := 600) (b := 10) (by omega) (by decide) (by decide) (by decide) (by decide)
    have l1 := last (cell % v) v0
    have l0 := last 0 (by decide)
    by_cases g : t ≤ cell
    · have dec : dGe (.d (.int cell)) (.d (.int t)) μ = .ok (.d (.bool true)) μ := by
        show Out.ok (Dv.d (PyData.bool (decide (cell ≥ t)))) μ = _
        rw [decide_eq_true g]
      simp -implicitDefEqProofs (disch := first | (with_reducible assumption) | ((with_reducible show List.length _ = _); rfl) | (simp only [allD_cons, allD_nil, Option.map_some, Option.isSome_some]; done) | (simp only [List.length_cons, List.length_nil, List.length_map]; done) | ((with_reducible refine cMod_of ?_); omega) | ((with_reducible refine cDiv_of ?_ ?_) <;> omega) | ((with_reducible refine okR_of ?_ ?_) <;> omega) | omega | (simp only [List.length_take, List.length_drop, List.length_append, List.length_cons, List.length_nil, List.length_map, List.length_range, List.length_replicate]; omega)) [-sSeq_r, -sRet_r, -sDrop_r, -sSet_r, -sIf_r, -sPar_r, -sAsg_r, -sSetIx_r, -sFor_r, -gsCons_r, -gT_r, -e1_r, -e2_r, -tV_r, -tAndM_r, -tOrM_r, -tNotM_r, -eAnd_r, -eOr_r, -eNot_r, -eIf_r, -aCons_r, -eN_r, -fCall_r, -eCallK_r, -eM_r, -eSl_r, -oSome_r, -eIsN_r, -eLc_r, -iSeq_r, -iRng_r, r2_l_hand, p18, p60, dec, hv]
      exact l1
    · have dec : dGe (.d (.int cell)) (.d (.int t)) μ = .ok (.d (.bool false)) μ := by
        show Out.ok (Dv.d (PyData.bool (decide (cell ≥ t)))) μ = _
        rw [decide_eq_false g]
      simp -implicitDefEqProofs (disch := first | (with_reducible assumption) | ((with_reducible show List.length _ = _); rfl) | (simp only [allD_cons, allD_nil, Option.map_some, Option.isSome_some]; done) | (simp only [List.length_cons, List.length_nil, List.length_map]; done) | ((with_reducible refine cMod_of ?_); omega) | ((with_reducible refine cDiv_of ?_ ?_) <;> omega) | ((with_reducible refine okR_of ?_ ?_) <;> omega) | omega | (simp only [List.length_take, List.length_drop, List.length_append, List.length_cons, List.length_nil, List.length_map, List.length_range, List.length_replicate]; omega)) [-sSeq_r, -sRet_r, -sDrop_r, -sSet_r, -sIf_r, -sPar_r, -sAsg_r, -sSetIx_r, -sFor_r, -gsCons_r, -gT_r, -e1_r, -e2_r, -tV_r, -tAndM_r, -tOrM_r, -tNotM_r, -eAnd_r, -eOr_r, -eNot_r, -eIf_r, -aCons_r, -eN_r, -fCall_r, -eCallK_r, -eM_r, -eSl_r, -oSome_r, -eIsN_r, -eLc_r, -iSeq_r, -iRng_r, r2_l_hand, p18, p60, dec, hv]
      exact l0
  unfold F_l_hand B_l_hand
  apply Wp_run
  by_cases g : k < ns.length
  · have hi : L2.atI (ns.map PyData.int) (k : Int) = some (.int ns[k]) := atI_nn (by simp [g])
    have hm := main ns[k] (hb _ (List.getElem_mem g))
    simp -implicitDefEqProofs (disch := first | (with_reducible assumption) | ((with_reducible show List.length _ = _); rfl) | (simp only [allD_cons, allD_nil, Option.map_some, Option.isSome_some]; done) | (simp only [List.length_cons, List.length_nil, List.length_map]; done) | ((with_reducible refine cMod_of ?_); omega) | ((with_reducible refine cDiv_of ?_ ?_) <;> omega) | ((with_reducible refine okR_of ?_ ?_) <;> omega) | omega | (simp only [List.length_take, List.length_drop, List.length_append, List.length_cons, List.length_nil, List.length_map, List.length_range, List.length_replicate]; omega)) [-sSeq_r, -sRet_r, -sDrop_r, -sSet_r, -sIf_r, -sPar_r, -sAsg_r, -sSetIx_r, -sFor_r, -gsCons_r, -gT_r, -e1_r, -e2_r, -tV_r, -tAndM_r, -tOrM_r, -tNotM_r, -eAnd_r, -eOr_r, -eNot_r, -eIf_r, -aCons_r, -eN_r, -fCall_r, -eCallK_r, -eM_r, -eSl_r, -oSome_r, -eIsN_r, -eLc_r, -iSeq_r, -iRng_r, r3_l_hand, g, dIx_l hi]
    exact hm
  · have hm := main 0 (by decide)
    simp -implicitDefEqProofs (disch := first | (with_reducible assumption) | ((with_reducible show List.length _ = _); rfl) | (simp only [allD_cons, allD_nil, Option.map_some, Option.isSome_some]; done) | (simp only [List.length_cons, List.length_nil, List.length_map]; done) | ((with_reducible refine cMod_of ?_); omega) | ((with_reducible refine cDiv_of ?_ ?_) <;> omega) | ((with_reducible refine okR_of ?_ ?_) <;> omega) | omega | (simp only [List.length_take, List.length_drop, List.length_append, List.length_cons, List.length_nil, List.length_map, List.length_range, List.length_replicate]; omega)) [-sSeq_r, -sRet_r, -sDrop_r, -sSet_r, -sIf_r, -sPar_r, -sAsg_r, -sSetIx_r, -sFor_r, -gsCons_r, -gT_r, -e1_r, -e2_r, -tV_r, -tAndM_r, -tOrM_r, -tNotM_r, -eAnd_r, -eOr_r, -eNot_r, -eIf_r, -aCons_r, -eN_r, -fCall_r, -eCallK_r, -eM_r, -eSl_r, -oSome_r, -eIsN_r, -eLc_r, -iSeq_r, -iRng_r, r3_l_hand, g]
    exact hm
end
end LW

namespace LW
open PySem PySem.Spec PyProof.Rows L2 DL
/-- the fields of the i-th class's instance -/
def flds (i : Nat) (x z : D) : List (Str × Dv) := match i with
  | 0 => [("worth", .d x)] | 1 => [("row", .d x)] | 2 => [("line", .d x)] | 3 => [("row", .d x)] | 4 => [("column", .d z), ("number", .d x)] | 5 => [("which", .d x)]
  | 6 => [("thing", .d x)] | 7 => [("source", .d x)] | 8 => [("table", .d x)] | 9 => [] | _ => [("what", .d x), ("other", .d z), ("step", .d z), ("table", .d x)]
def Md (n : Nat) (x z : D) (μ : Store) : Prop := ∃ p : Nat → Nat, μ[n]? = some (.lst ((List.range 11).map fun i => Dv.c (p i))) ∧ ∀ i, i < 11 → μ[p i]? = some (.exc i (flds i x z))
theorem Md.app {n : Nat} {x z : D} {μ : Store} (l : Store) (h : Md n x z μ) : Md n x z (μ ++ l) := by
  obtain ⟨p, h1, h2⟩ := h
  exact ⟨p, by rw [List.getElem?_append_left (lt_of_get h1)]; exact h1, fun i hi => by rw [List.getElem?_append_left (lt_of_get (h2 i hi))]; exact h2 i hi⟩
theorem get_app {μ l : Store} {k : Nat} : (μ ++ l)[μ.length + k]? = l[k]? := by rw [List.getElem?_append_right (Nat.le_add_right ..), Nat.add_sub_cancel_left]
theorem cAdd_cc {a b : Nat} {xs ys : List Dv} {μ : Store} (h1 : μ[a]? = some (.lst xs)) (h2 : μ[b]? = some (.lst ys)) (h : xs.length + ys.length ≤ 16000000) : cAdd (.c a) (.c b) μ = .ok (.c μ.length) (μ ++ [.lst (xs ++ ys)]) := by
  unfold cAdd items
  simp only [h1, h2]
  exact cList_c (by simpa using h)
section
variable {μ : Store} {P : Dv → Store → Prop} {x z : D}
/-- one after the other -/
theorem aCons_eq {a : ME} {ma : MA} {ρ : DEnv} {μ μ1 μ2 : Store} {b : Dv} {bs : List Dv} (h1 : a ρ μ = .ok b μ1) (h2 : ma ρ μ1 = .ok bs μ2) : aCons a ma ρ μ = .ok (b :: bs) μ2 := by
  unfold aCons
  rw [h1]
  show ((ma ρ μ1).bind fun xs μ => .ok (b :: xs) μ) = _
  rw [h2]
  rfl
theorem aNil_eq {ρ : DEnv} {μ : Store} : aNil ρ μ = .ok [] μ := rfl
theorem w_places (fin : ∀ n l, Md n x z (μ ++ l) → P (.c n) (μ ++ l)) : Wp (F_l_by_places [.d x, .d z] μ) P := by
  unfold F_l_by_places B_l_by_places
  apply Wp_run
  have e1 : aCons (eNew 0 ["worth"] 1 0 [0] (aCons (eVar 0) (aNil)) (aNil)) (aCons (eNew 1 ["row"] 1 0 [0] (aCons (eVar 0) (aNil)) (aNil)) (aCons (eNew 2 ["line"] 1 0 [0] (aCons (eVar 0) (aNil)) (aNil)) (aCons (eNew 3 ["row"] 1 0 [0] (aCons (eVar 0) (aNil)) (aNil)) (aCons (eNew 4 ["number", "column"] 2 0 [0, 1] (aCons (eVar 0) (aCons (eVar 1) (aNil))) (aNil)) (aCons (eNew 5 ["which"] 1 0 [0] (aCons (eVar 0) (aNil)) (aNil)) (aCons (eNew 6 ["thing"] 1 0 [0] (aCons (eVar 0) (aNil)) (aNil)) (aCons (eNew 7 ["source"] 1 0 [0] (aCons (eVar 0) (aNil)) (aNil)) (aCons (eNew 8 ["table"] 1 0 [0] (aCons (eVar 0) (aNil)) (aNil)) (aNil))))))))) [some (.d x), some (.d z), none] μ
      = .ok [.c (μ.length), .c (μ.length + 1), .c (μ.length + 2), .c (μ.length + 3), .c (μ.length + 4), .c (μ.length + 5), .c (μ.length + 6), .c (μ.length + 7), .c (μ.length + 8)] (μ ++ [.exc 0 (flds 0 x z), .exc 1 (flds 1 x z), .exc 2 (flds 2 x z), .exc 3 (flds 3 x z), .exc 4 (flds 4 x z), .exc 5 (flds 5 x z), .exc 6 (flds 6 x z), .exc 7 (flds 7 x z), .exc 8 (flds 8 x z)]) := by
    refine (aCons_eq rfl (aCons_eq rfl (aCons_eq rfl (aCons_eq rfl (aCons_eq rfl (aCons_eq rfl (aCons_eq rfl (aCons_eq rfl (aCons_eq rfl aNil_eq))))))))).trans ?_
    simp only [List.append_assoc, List.cons_append, List.nil_append, List.length_append, List.length_cons, List.length_nil, Nat.zero_add, Nat.reduceAdd]
    rfl
  have e2 : ∀ s ν, aCons (eNew 9 [] 0 0 [] (aNil) (aNil)) (aCons (eNew 10 ["table", "step", "other", "what"] 4 0 [0, 1, 2, 3] (aCons (eVar 0) (aCons (eVar 1) (aCons (eVar 1) (aCons (eVar 0) (aNil))))) (aNil)) (aNil)) [some (.d x), some (.d z), s] ν
      = .ok [.c ν.length, .c (ν.length + 1)] (ν ++ [.exc 9 (flds 9 x z), .exc 10 (flds 10 x z)]) := by
    intro s ν
    refine (aCons_eq rfl (aCons_eq rfl aNil_eq)).trans ?_
    simp only [List.append_assoc, List.cons_append, List.nil_append, List.length_append, List.length_cons, List.length_nil, Nat.zero_add, Nat.reduceAdd]
    rfl
  rw [Wp_sSeq, Wp_sSet, Wp_eN]
  show Wp (aCons _ _ [some (.d x), some (.d z), none] μ) _
  rw [e1, Wp_ok]
  show Wp (cList _ _) _
  rw [cList_c (by simp), Wp_ok]
  show Wp (r1_l_by_places _ _) _
  unfold r1_l_by_places
  rw [Wp_sRet, Wp_e2]
  show Wp (Out.ok (Dv.c _) _) _
  rw [Wp_ok]
  show Wp (eN cList _ _ _) _
  rw [Wp_eN]
  show Wp (aCons _ _ [some (.d x), some (.d z), some (.c _)] _) _
  rw [e2, Wp_ok]
  show Wp (cList _ _) _
  rw [cList_c (by simp), Wp_ok]
  show Wp (cAdd _ _ _) _
  simp only [List.append_assoc, List.cons_append, List.nil_append, List.length_append, List.length_cons, List.length_nil, Nat.zero_add, Nat.reduceAdd, Nat.add_assoc]
  rw [cAdd_cc (xs := [.c (μ.length), .c (μ.length + 1), .c (μ.length + 2), .c (μ.length + 3), .c (μ.length + 4), .c (μ.length + 5), .c (μ.length + 6), .c (μ.length + 7), .c (μ.length + 8)]) (ys := [.c (μ.length + 10), .c (μ.length + 11)]) (by rw [get_app]; rfl) (by rw [get_app]; rfl) (by simp), Wp_ok]
  show P _ _
  rw [List.append_assoc]
  refine fin _ _ ⟨fun i => μ.length + (if i < 9 then i else i + 1), ?_, fun i hi => ?_⟩
  · simp only [List.length_append, List.length_cons, List.length_nil, Nat.zero_add, Nat.reduceAdd]
    rw [get_app]
    rfl
  · rw [get_app]
    match i, hi with
    | 0, _ => rfl
    | 1, _ => rfl
    | 2, _ => rfl
    | 3, _ => rfl
    | 4, _ => rfl
    | 5, _ => rfl
    | 6, _ => rfl
    | 7, _ => rfl
    | 8, _ => rfl
    | 9, _ => rfl
    | 10, _ => rfl
    | n + 11, h => omega
theorem w_names (fin : ∀ n l, Md n x z (μ ++ l) → P (.c n) (μ ++ l)) : Wp (F_l_by_names [.d x, .d z] μ) P := by
  unfold F_l_by_names B_l_by_names
  apply Wp_run
  have e1 : aCons (eNew 0 ["worth"] 0 1 [0] (aNil) (aCons (eVar 0) (aNil))) (aCons (eNew 1 ["row"] 0 1 [0] (aNil) (aCons (eVar 0) (aNil))) (aCons (eNew 2 ["line"] 0 1 [0] (aNil) (aCons (eVar 0) (aNil))) (aCons (eNew 3 ["row"] 0 1 [0] (aNil) (aCons (eVar 0) (aNil))) (aCons (eNew 4 ["number", "column"] 0 2 [1, 0] (aNil) (aCons (eVar 1) (aCons (eVar 0) (aNil)))) (aCons (eNew 5 ["which"] 0 1 [0] (aNil) (aCons (eVar 0) (aNil))) (aNil)))))) [some (.d x), some (.d z), none] μ
      = .ok [.c (μ.length), .c (μ.length + 1), .c (μ.length + 2), .c (μ.length + 3), .c (μ.length + 4), .c (μ.length + 5)] (μ ++ [.exc 0 (flds 0 x z), .exc 1 (flds 1 x z), .exc 2 (flds 2 x z), .exc 3 (flds 3 x z), .exc 4 (flds 4 x z), .exc 5 (flds 5 x z)]) := by
    refine (aCons_eq rfl (aCons_eq rfl (aCons_eq rfl (aCons_eq rfl (aCons_eq rfl (aCons_eq rfl aNil_eq)))))).trans ?_
    simp only [List.append_assoc, List.cons_append, List.nil_append, List.length_append, List.length_cons, List.length_nil, Nat.zero_add, Nat.reduceAdd]
    rfl
  have e2 : ∀ s ν, aCons (eNew 6 ["thing"] 0 1 [0] (aNil) (aCons (eVar 0) (aNil))) (aCons (eNew 7 ["source"] 0 1 [0] (aNil) (aCons (eVar 0) (aNil))) (aCons (eNew 8 ["table"] 0 1 [0] (aNil) (aCons (eVar 0) (aNil))) (aCons (eNew 9 [] 0 0 [] (aNil) (aNil)) (aNil)))) [some (.d x), some (.d z), s] ν
      = .ok [.c ν.length, .c (ν.length + 1), .c (ν.length + 2), .c (ν.length + 3)] (ν ++ [.exc 6 (flds 6 x z), .exc 7 (flds 7 x z), .exc 8 (flds 8 x z), .exc 9 (flds 9 x z)]) := by
    intro s ν
    refine (aCons_eq rfl (aCons_eq rfl (aCons_eq rfl (aCons_eq rfl aNil_eq)))).trans ?_
    simp only [List.append_assoc, List.cons_append, List.nil_append, List.length_append, List.length_cons, List.length_nil, Nat.zero_add, Nat.reduceAdd]
    rfl
  have e3 : ∀ s ν, aCons (eNew 10 ["table", "step", "other", "what"] 0 4 [3, 2, 1, 0] (aNil) (aCons (eVar 0) (aCons (eVar 1) (aCons (eVar 1) (aCons (eVar 0) (aNil)))))) (aNil) [some (.d x), some (.d z), s] ν
      = .ok [.c ν.length] (ν ++ [.exc 10 (flds 10 x z)]) := by
    intro s ν
    exact aCons_eq rfl aNil_eq
  rw [Wp_sSeq, Wp_sSet, Wp_eN]
  show Wp (aCons _ _ [some (.d x), some (.d z), none] μ) _
  rw [e1, Wp_ok]
  show Wp (cList _ _) _
  rw [cList_c (by simp), Wp_ok]
  show Wp (r2_l_by_names _ _) _
  unfold r2_l_by_names
  rw [Wp_sSeq, Wp_sSet, Wp_e2]
  show Wp (Out.ok (Dv.c _) _) _
  rw [Wp_ok]
  show Wp (eN cList _ _ _) _
  rw [Wp_eN]
  show Wp (aCons _ _ [some (.d x), some (.d z), some (.c _)] _) _
  rw [e2, Wp_ok]
  show Wp (cList _ _) _
  rw [cList_c (by simp), Wp_ok]
  show Wp (cAdd _ _ _) _
  simp only [List.append_assoc, List.cons_append, List.nil_append, List.length_append, List.length_cons, List.length_nil, Nat.zero_add, Nat.reduceAdd, Nat.add_assoc]
  rw [cAdd_cc (xs := [.c (μ.length), .c (μ.length + 1), .c (μ.length + 2), .c (μ.length + 3), .c (μ.length + 4), .c (μ.length + 5)]) (ys := [.c (μ.length + 7), .c (μ.length + 8), .c (μ.length + 9), .c (μ.length + 10)]) (by rw [get_app]; rfl) (by rw [get_app]; rfl) (by simp), Wp_ok]
  show Wp (r1_l_by_names _ _) _
  unfold r1_l_by_names
  rw [Wp_sRet, Wp_e2]
  show Wp (Out.ok (Dv.c _) _) _
  rw [Wp_ok]
  show Wp (eN cList _ _ _) _
  rw [Wp_eN]
  show Wp (aCons _ _ [some (.d x), some (.d z), some (.c _)] _) _
  rw [e3, Wp_ok]
  show Wp (cList _ _) _
  rw [cList_c (by simp), Wp_ok]
  show Wp (cAdd _ _ _) _
  simp only [List.append_assoc, List.cons_append, List.nil_append, List.length_append, List.length_cons, List.length_nil, Nat.zero_add, Nat.reduceAdd, Nat.add_assoc]
  rw [cAdd_cc (xs := [.c (μ.length), .c (μ.length + 1), .c (μ.length + 2), .c (μ.length + 3), .c (μ.length + 4), .c (μ.length + 5), .c (μ.length + 7), .c (μ.length + 8), .c (μ.length + 9), .c (μ.length + 10)]) (ys := [.c (μ.length + 13)]) (by rw [get_app]; rfl) (by rw [get_app]; rfl) (by simp), Wp_ok]
  show P _ _
  rw [List.append_assoc]
  refine fin _ _ ⟨fun i => μ.length + (if i < 6 then i else if i < 10 then i + 1 else 13), ?_, fun i hi => ?_⟩
  · simp only [List.length_append, List.length_cons, List.length_nil, Nat.zero_add, Nat.reduceAdd]
    rw [get_app]
    rfl
  · rw [get_app]
    match i, hi with
    | 0, _ => rfl
    | 1, _ => rfl
    | 2, _ => rfl
    | 3, _ => rfl
    | 4, _ => rfl
    | 5, _ => rfl
    | 6, _ => rfl
    | 7, _ => rfl
    | 8, _ => rfl
    | 9, _ => rfl
    | 10, _ => rfl
    | n + 11, h => omega
theorem dIsx_at {k i : Nat} {tb : List Nat} {fs : List (Str × Dv)} (e : μ[k]? = some (.exc i fs)) (hi : i < 11) : dIsx 11 tb (.c k) μ = .ok (.d (.bool (tb.contains i))) μ := by
  unfold dIsx
  simp only [e]
  rw [if_pos hi]
/-- which class it is of -/
def cl (i : Nat) : List D := (List.range 11).map fun (s : Nat) => .bool (decide ((i : Int) = (s : Int)))
theorem F_classes {k i : Nat} {fs : List (Str × Dv)} (e : μ[k]? = some (.exc i fs)) (hi : i < 11) : F_l_classes [.c k] μ = .ok (.d (.list (cl i))) μ := by
  have w : Wp (F_l_classes [.c k] μ) fun b μ' => b = .d (.list (cl i)) ∧ μ' = μ := by
    unfold F_l_classes B_l_classes
    apply Wp_run
    simp -implicitDefEqProofs (disch := first | (with_reducible assumption) | ((with_reducible show List.length _ = _); rfl) | (simp only [allD_cons, allD_nil, Option.map_some, Option.isSome_some]; done) | (simp only [List.length_cons, List.length_nil, List.length_map]; done) | ((with_reducible refine cMod_of ?_); omega) | ((with_reducible refine cDiv_of ?_ ?_) <;> omega) | ((with_reducible refine okR_of ?_ ?_) <;> omega) | omega | (simp only [List.length_take, List.length_drop, List.length_append, List.length_cons, List.length_nil, List.length_map, List.length_range, List.length_replicate]; omega)) [-sSeq_r, -sRet_r, -sDrop_r, -sSet_r, -sIf_r, -sPar_r, -sAsg_r, -sSetIx_r, -sFor_r, -gsCons_r, -gT_r, -e1_r, -e2_r, -tV_r, -tAndM_r, -tOrM_r, -tNotM_r, -eAnd_r, -eOr_r, -eNot_r, -eIf_r, -aCons_r, -eN_r, -fCall_r, -eCallK_r, -eM_r, -eSl_r, -oSome_r, -eIsN_r, -eLc_r, -iSeq_r, -iRng_r, r1_l_classes, r2_l_classes, dIsx_at e hi, dAdd_ll]
    match i, hi with
    | 0, _ => rfl
    | 1, _ => rfl
    | 2, _ => rfl
    | 3, _ => rfl
    | 4, _ => rfl
    | 5, _ => rfl
    | 6, _ => rfl
    | 7, _ => rfl
    | 8, _ => rfl
    | 9, _ => rfl
    | 10, _ => rfl
    | n + 11, h => omega
  obtain ⟨b, μ', h, rfl, rfl⟩ := Wp_of w
  exact h
def fam (i : Nat) : Nat := (if 2 < i then 1 else 0) + (if 9 < i then 1 else 0)
def fml (i : Nat) : List D := (List.range 6).map fun (s : Nat) => .bool (decide ((s : Int) = (fam i : Int)) || decide ((s : Int) = (fam i : Int) + 3))
theorem F_families {k i : Nat} {fs : List (Str × Dv)} (e : μ[k]? = some (.exc i fs)) (hi : i < 11) : F_l_families [.c k] μ = .ok (.d (.list (fml i))) μ := by
  have w : Wp (F_l_families [.c k] μ) fun b μ' => b = .d (.list (fml i)) ∧ μ' = μ := by
    unfold F_l_families B_l_families
    apply Wp_run
    simp -implicitDefEqProofs (disch := first | (with_reducible assumption) | ((with_reducible show List.length _ = _); rfl) | (simp only [allD_cons, allD_nil, Option.map_some, Option.isSome_some]; done) | (simp only [List.length_cons, List.length_nil, List.length_map]; done) | ((with_reducible refine cMod_of ?_); omega) | ((with_reducible refine cDiv_of ?_ ?_) <;> omega) | ((with_reducible refine okR_of ?_ ?_) <;> omega) | omega | (simp only [List.length_take, List.length_drop, List.length_append, List.length_cons, List.length_nil, List.length_map, List.length_range, List.length_replicate]; omega)) [-sSeq_r, -sRet_r, -sDrop_r, -sSet_r, -sIf_r, -sPar_r, -sAsg_r, -sSetIx_r, -sFor_r, -gsCons_r, -gT_r, -e1_r, -e2_r, -tV_r, -tAndM_r, -tOrM_r, -tNotM_r, -eAnd_r, -eOr_r, -eNot_r, -eIf_r, -aCons_r, -eN_r, -fCall_r, -eCallK_r, -eM_r, -eSl_r, -oSome_r, -eIsN_r, -eLc_r, -iSeq_r, -iRng_r, r1_l_families, dIsx_at e hi, dAdd_ll]
    match i, hi with
    | 0, _ => rfl
    | 1, _ => rfl
    | 2, _ => rfl
    | 3, _ => rfl
    | 4, _ => rfl
    | 5, _ => rfl
    | 6, _ => rfl
    | 7, _ => rfl
    | 8, _ => rfl
    | 9, _ => rfl
    | 10, _ => rfl
    | n + 11, h => omega
  obtain ⟨b, μ', h, rfl, rfl⟩ := Wp_of w
  exact h
end
end LW

namespace LW
open PySem PySem.Spec PyProof.Rows L2 DL
def VL (x z : D) : List D := [x, x, x, x, .tuple [x, z], x, x, x, x, .tuple [x, z, z, x]]
section
variable {μ : Store} {P : Dv → Store → Prop} {x z : D}
theorem F_values {n : Nat} (h : Md n x z μ) : F_l_values [.c n] μ = .ok (.d (.list (VL x z))) μ := by
  obtain ⟨p, h1, h2⟩ := h
  have ix : ∀ i : Nat, i < 11 → dIx (.c n) (.d (.int i)) μ = .ok (.c (p i)) μ := fun i hi => dIx_c h1 (atI_nn (by simp [hi]))
  have fl : ∀ (i : Nat) (cs : List Nat) (f : Str) (b : D), i < 11 → i ∈ cs → (flds i x z).lookup f = some (.d b) → dFlx cs f (.c (p i)) μ = .ok (.d b) μ := fun i cs f b hi hc hf => by
    unfold dFlx
    simp only [h2 i hi]
    rw [if_pos hc, hf]
  have r0 := fl 0 [0] "worth" x (by decide) (by decide) rfl
  have r1 := fl 1 [1, 3] "row" x (by decide) (by decide) rfl
  have r2 := fl 2 [2] "line" x (by decide) (by decide) rfl
  have r3 := fl 3 [1, 3] "row" x (by decide) (by decide) rfl
  have r4 := fl 4 [4] "number" x (by decide) (by decide) rfl
  have r4b := fl 4 [4] "column" z (by decide) (by decide) rfl
  have r5 := fl 5 [5] "which" x (by decide) (by decide) rfl
  have r6 := fl 6 [6] "thing" x (by decide) (by decide) rfl
  have r7 := fl 7 [7] "source" x (by decide) (by decide) rfl
  have r8 := fl 8 [8, 10] "table" x (by decide) (by decide) rfl
  have ra := fl 10 [8, 10] "table" x (by decide) (by decide) rfl
  have rb := fl 10 [10] "step" z (by decide) (by decide) rfl
  have rc := fl 10 [10] "other" z (by decide) (by decide) rfl
  have rd := fl 10 [10] "what" x (by decide) (by decide) rfl
  have i0 : dIx (.c n) (.d (.int 0)) μ = .ok (.c (p 0)) μ := ix 0 (by decide)
  have i1 : dIx (.c n) (.d (.int 1)) μ = .ok (.c (p 1)) μ := ix 1 (by decide)
  have i2 : dIx (.c n) (.d (.int 2)) μ = .ok (.c (p 2)) μ := ix 2 (by decide)
  have i3 : dIx (.c n) (.d (.int 3)) μ = .ok (.c (p 3)) μ := ix 3 (by decide)
  have i4 : dIx (.c n) (.d (.int 4)) μ = .ok (.c (p 4)) μ := ix 4 (by decide)
  have i5 : dIx (.c n) (.d (.int 5)) μ = .ok (.c (p 5)) μ := ix 5 (by decide)
  have i6 : dIx (.c n) (.d (.int 6)) μ = .ok (.c (p 6)) μ := ix 6 (by decide)
  have i7 : dIx (.c n) (.d (.int 7)) μ = .ok (.c (p 7)) μ := ix 7 (by decide)
  have i8 : dIx (.c n) (.d (.int 8)) μ = .ok (.c (p 8)) μ := ix 8 (by decide)
  have i10 : dIx (.c n) (.d (.int 10)) μ = .ok (.c (p 10)) μ := ix 10 (by decide)
  simp only [S_2] at r8 ra
  have w : Wp (F_l_values [.c n] μ) fun b μ' => b = .d (.list (VL x z)) ∧ μ' = μ := by
    unfold F_l_values B_l_values
    apply Wp_run
    simp -implicitDefEqProofs (disch := first | (with_reducible assumption) | ((with_reducible show List.length _ = _); rfl) | (simp only [allD_cons, allD_nil, Option.map_some, Option.isSome_some]; done) | (simp only [List.length_cons, List.length_nil, List.length_map]; done) | ((with_reducible refine cMod_of ?_); omega) | ((with_reducible refine cDiv_of ?_ ?_) <;> omega) | ((with_reducible refine okR_of ?_ ?_) <;> omega) | omega | (simp only [List.length_take, List.length_drop, List.length_append, List.length_cons, List.length_nil, List.length_map, List.length_range, List.length_replicate]; omega)) [-sSeq_r, -sRet_r, -sDrop_r, -sSet_r, -sIf_r, -sPar_r, -sAsg_r, -sSetIx_r, -sFor_r, -gsCons_r, -gT_r, -e1_r, -e2_r, -tV_r, -tAndM_r, -tOrM_r, -tNotM_r, -eAnd_r, -eOr_r, -eNot_r, -eIf_r, -aCons_r, -eN_r, -fCall_r, -eCallK_r, -eM_r, -eSl_r, -oSome_r, -eIsN_r, -eLc_r, -iSeq_r, -iRng_r, r1_l_values, r2_l_values, i0, i1, i2, i3, i4, i5, i6, i7, i8, i10, r0, r1, r2, r3, r4, r4b, r5, r6, r7, r8, ra, rb, rc, rd, dAdd_ll]
    rfl
  obtain ⟨b, μ', h, rfl, rfl⟩ := Wp_of w
  exact h
theorem rng1_n {k : Nat} (h : k ≤ 1000000) : rng1 [.d (.int (k : Int))] μ = .ok ((List.range k).map fun (i : Nat) => Dv.d (.int i)) μ := by
  have := rng1_r (μ := μ) (j := (k : Int)) (okR_of (by omega) (by omega))
  rw [Int.toNat_natCast] at this
  exact this
/-- a comprehension over a range, whose items are data -/
theorem lc_rng {n v : Nat} {te : ME} {ρ : DEnv} {μ : Store} (f : Nat → D) (hn : n ≤ 1000) (h : ∀ s, s < n → te ((wipeD ρ [v]).set v (some (.d (.int (s : Int))))) μ = .ok (.d (f s)) μ) :
    eLc dList (iRng rng1 (aCons (eC (.d (.int n))) aNil)) (gN v) tYesM te [v] ρ μ = .ok (.d (.list ((List.range n).map f))) μ := by
  have er : iRng rng1 (aCons (eC (.d (.int n))) aNil) ρ μ = .ok ((List.range n).map fun (i : Nat) => Dv.d (.int i)) μ := by
    unfold iRng
    rw [aCons_eq (b := .d (.int n)) (bs := []) (μ1 := μ) (μ2 := μ) rfl rfl, bind_ok]
    exact rng1_n (by omega)
  unfold eLc
  rw [er]
  rw [bind_ok]
  unfold lcF
  have hb := line_big
  rw [if_pos (by rw [List.length_map, List.length_range]; omega), lcM_map (f := fun b => match b with | .d (.int i) => .d (f i.toNat) | b => b) (fun b hb => ?_)]
  · rw [gb_ok, List.map_map]
    have e2 : List.map ((fun b : Dv => match b with | .d (.int i) => Dv.d (f i.toNat) | b => b) ∘ fun (i : Nat) => Dv.d (PyData.int i)) (List.range n) = ((List.range n).map f).map Dv.d := by
      rw [List.map_map]
      refine List.map_congr_left fun i _ => ?_
      show Dv.d (f (i : Int).toNat) = Dv.d (f i)
      rw [Int.toNat_natCast]
    rw [e2]
    exact dList_map (by rw [List.length_map, List.length_range]; omega)
  · obtain ⟨s, hs, rfl⟩ := List.mem_map.mp hb
    refine ⟨(wipeD ρ [v]).set v (some (.d (.int (s : Int)))), rfl, ?_⟩
    rw [h s (List.mem_range.mp hs)]
    show Out.ok (Dv.d (f s)) μ = Out.ok (Dv.d (f (s : Int).toNat)) μ
    rw [Int.toNat_natCast]
theorem eq_cl : ∀ i, i < 11 → ((SeqAt.shaped (.list (cl i)) && PyData.eqv (.list (cl i)) (.list (cl i))) = true ∧ (SeqAt.shaped (.list (fml i)) && PyData.eqv (.list (fml i)) (.list (fml i))) = true) := by decide +kernel
theorem ne_same {d : D} (h : (SeqAt.shaped d && PyData.eqv d d) = true) : dEq true (.d d) (.d d) μ = .ok (.d (.bool false)) μ := by
  simp only [Bool.and_eq_true] at h
  rw [dEq_dd (by simp [h.1]), h.2]
  rfl
theorem ne_str {s : Str} : dEq true (.d (.str s)) (.d (.str s)) μ = .ok (.d (.bool false)) μ := by
  rw [dEq_dd rfl]
  simp [PyData.eqv]
/-- over a list of anything that stays as it is -/
theorem Wp_forGc {g : MGs} {mb : MS} {n : Nat} {xs : List Dv} (I : Nat → DEnv → Store → Prop) : ∀ {k i : Nat} {ρ : DEnv} {μ : Store} {P : Fl → Store → Prop}, (∀ i ρ μ, I i ρ μ → μ[n]? = some (.lst xs)) → I i ρ μ → i ≤ xs.length → xs.length - i < k →
    (∀ j x ρ μ, xs[j]? = some x → I j ρ μ → Wp (g [.d (.int j), x] ρ μ) fun ρ1 μ1 => Wp (mb ρ1 μ1) (forP (I (j + 1)) P)) →
    (∀ ρ' μ', I xs.length ρ' μ' → P (.nx ρ') μ') → Wp (forG g mb n k i ρ μ) P
  | 0, i, ρ, μ, P, _, _, _, h, _, _ => by omega
  | k + 1, i, ρ, μ, P, e, h0, le, h, step, fin => by
    unfold forG
    simp only [e i ρ μ h0]
    by_cases hi : i < xs.length
    · have ei : xs[i]? = some xs[i] := by simp [hi]
      simp only [ei]
      rw [Wp_gb]
      refine Wp_mono (step i _ ρ μ ei h0) fun ρ1 μ1 w1 => ?_
      rw [Wp_bind]
      refine Wp_mono w1 fun f μ2 w2 => ?_
      have rest : ∀ ρ2, I (i + 1) ρ2 μ2 → Wp (forG g mb n k (i + 1) ρ2 μ2) P := fun ρ2 i2 => Wp_forGc I (k := k) (i := i + 1) e i2 (by omega) (by omega) step fin
      cases f with
      | nx ρ2 => exact rest ρ2 w2
      | ct ρ2 => exact rest ρ2 w2
      | bk ρ2 => exact .mk w2
      | rt v => exact .mk w2
    · have ei2 : xs[i]? = none := by simp; omega
      simp only [ei2]
      exact .mk (fin ρ μ (by rw [show xs.length = i by omega]; exact h0))
theorem sg_VL (hx : Sg 3 100 x) (hz : Sg 3 100 z) : Sg 40 16000000 (.list (VL x z)) := by
  have t2 : Sg 4 500 (.tuple [x, z]) := (Sg.tup (k := 3) (c := 100) (n := 2) (fun d hd => by simp at hd; rcases hd with rfl | rfl <;> assumption) (by simp)).mono (by omega) (by omega)
  have t4 : Sg 4 500 (.tuple [x, z, z, x]) := (Sg.tup (k := 3) (c := 100) (n := 4) (fun d hd => by simp at hd; rcases hd with rfl | rfl | rfl <;> assumption) (by simp)).mono (by omega) (by omega)
  have x4 : Sg 4 500 x := hx.mono (by omega) (by omega)
  refine (Sg.list (k := 4) (c := 500) (n := 10) (fun d hd => ?_) (by simp [VL])).mono (by omega) (by omega)
  simp [VL] at hd
  rcases hd with rfl | rfl | rfl | rfl <;> assumption
theorem F_raised (hx : Sg 3 100 x) (hz : Sg 3 100 z) {s : Nat} (hs : s < 3) : F_l_raised [.d (.int s), .d x, .d z] μ = .ok (.d (.int (s + 1))) μ := by
  have t2 : reprOk (.tuple [x, z]) = true := Sg.ok ((Sg.tup (k := 3) (c := 100) (n := 2) (fun d hd => by simp at hd; rcases hd with rfl | rfl <;> assumption) (by simp)).mono (by omega) (by omega))
  have t1 : reprOk x = true := Sg.ok (hx.mono (by omega) (by omega))
  unfold F_l_raised
  match s, hs with
  | 0, _ => simp [t1]
  | 1, _ => simp [t2]
  | 2, _ => simp [t2]
  | n + 3, h => omega
end
end LW

namespace LW
open PySem PySem.Spec PyProof.Rows L2 DL
section
variable {h m : Nat} {μ : Store} {P : Dv → Store → Prop} {x z : D}
theorem bind_eq {β γ : Type} {o : Out β} {b : β} {μ : Store} {k : β → Store → Out γ} (e : o = .ok b μ) : o.bind k = k b μ := by rw [e]; rfl
/-- one turn of the inner loop -/
theorem w_turn {n i k : Nat} {fs : List (Str × Dv)} {a6 : Option Dv} {Q : Fl → Store → Prop} (e : μ[k]? = some (.exc i fs)) (hi : i < 11)
    (fin : ∀ b6, Q (.nx [some (.c h), some (.d x), some (.d z), some (.c n), some (.d (.int (i : Int))), some (.c k), b6, none, none]) μ) :
    Wp (w1_l_right [some (.c h), some (.d x), some (.d z), some (.c n), some (.d (.int (i : Int))), some (.c k), a6, none, none] μ) Q := by
  have f6 : (e2 dAdd (eN dInt (aCons (e2 dGt (eVar 4) (eC (.d (.int 2)))) (aNil))) (eN dInt (aCons (e2 dGt (eVar 4) (eC (.d (.int 9)))) (aNil)))) [some (.c h), some (.d x), some (.d z), some (.c n), some (.d (.int (i : Int))), some (.c k), a6, none, none] μ = .ok (.d (.int (fam i : Nat))) μ := by
    match i, hi with
    | 0, _ => rfl
    | 1, _ => rfl
    | 2, _ => rfl
    | 3, _ => rfl
    | 4, _ => rfl
    | 5, _ => rfl
    | 6, _ => rfl
    | 7, _ => rfl
    | 8, _ => rfl
    | 9, _ => rfl
    | 10, _ => rfl
    | n + 11, h => omega
  obtain ⟨q1, q2⟩ := eq_cl i hi
  generalize hr : ([some (.c h), some (.d x), some (.d z), some (.c n), some (.d (.int (i : Int))), some (.c k), some (.d (.int (fam i : Nat))), none, none] : DEnv) = ρ
  have g4 : eVar 4 ρ μ = .ok (.d (.int (i : Int))) μ := by rw [← hr]; rfl
  have c1 : eLc dList (iRng rng1 (aCons (eC (.d (.int 11))) (aNil))) (gN 7) (tYesM) (c1_l_right) [7] ρ μ = .ok (.d (.list (cl i))) μ := by
    refine lc_rng (n := 11) (v := 7) (te := c1_l_right) (f := fun s => .bool (decide ((i : Int) = (s : Int)))) (by omega) fun s hs => ?_
    rw [← hr]
    show dEq false (.d (.int (i : Int))) (.d (.int (s : Int))) μ = _
    rw [dEq_ii]
    rfl
  have c2 : eLc dList (iRng rng1 (aCons (eC (.d (.int 6))) (aNil))) (gN 7) (tYesM) (c2_l_right) [7] ρ μ = .ok (.d (.list (fml i))) μ := by
    refine lc_rng (n := 6) (v := 7) (te := c2_l_right) (f := fun s => .bool (decide ((s : Int) = (fam i : Int)) || decide ((s : Int) = (fam i : Int) + 3))) (by omega) fun s hs => ?_
    rw [← hr]
    show dIn false (.d (.int (s : Int))) (.d (.tuple [.int (fam i : Int), .int ((fam i : Int) + 3)])) μ = _
    show Out.ok (Dv.d (.bool (PyData.eqv (.int (fam i : Int)) (.int (s : Int)) || (PyData.eqv (.int ((fam i : Int) + 3)) (.int (s : Int)) || false)))) μ = _
    have q : ∀ a b : Int, PyData.eqv (.int a) (.int b) = decide (b = a) := fun a b => by
      simp only [PyData.eqv]
      exact decide_eq_decide.mpr eq_comm
    rw [q, q, Bool.or_false]
  have t1 : tV (e2 (dEq true) (eN (fCall 1 F_l_classes) (aCons (eVar 5) (aNil))) (eLc dList (iRng rng1 (aCons (eC (.d (.int 11))) (aNil))) (gN 7) (tYesM) (c1_l_right) [7])) ρ μ = .ok false μ := by
    unfold tV e2
    have a1 : eN (fCall 1 F_l_classes) (aCons (eVar 5) (aNil)) ρ μ = .ok (.d (.list (cl i))) μ := by
      rw [← hr]
      exact F_classes e hi
    rw [bind_eq ((bind_eq a1).trans ((bind_eq c1).trans (ne_same q1)))]
    rfl
  have t2 : tV (e2 (dEq true) (eN (fCall 1 F_l_families) (aCons (eVar 5) (aNil))) (eLc dList (iRng rng1 (aCons (eC (.d (.int 6))) (aNil))) (gN 7) (tYesM) (c2_l_right) [7])) ρ μ = .ok false μ := by
    unfold tV e2
    have a1 : eN (fCall 1 F_l_families) (aCons (eVar 5) (aNil)) ρ μ = .ok (.d (.list (fml i))) μ := by
      rw [← hr]
      exact F_families e hi
    rw [bind_eq ((bind_eq a1).trans ((bind_eq c2).trans (ne_same q2)))]
    rfl
  unfold w1_l_right
  rw [Wp_sSeq, Wp_sSet, f6, Wp_ok]
  show Wp (r2_l_right [some (.c h), some (.d x), some (.d z), some (.c n), some (.d (.int (i : Int))), some (.c k), some (.d (.int (fam i : Nat))), none, none] μ) Q
  rw [hr]
  unfold r2_l_right
  rw [Wp_sSeq, Wp_sIf, t1, Wp_ok, kIf_f, Wp_sNext, kSeq_nx]
  unfold r1_l_right
  rw [Wp_sIf, t2, Wp_ok, kIf_f, Wp_sNext, ← hr]
  exact fin _
def kTD (A : List Dv → Store → Prop) : List Dv → Store → Prop := fun bs μ => bs.length ≤ sizeLine ∧ A bs μ
theorem Wp_iTupD {ma : MA} {ρ : DEnv} {μ : Store} {A : List Dv → Store → Prop} : Wp (iTupD ma ρ μ) A = Wp (ma ρ μ) (kTD A) := by
  unfold iTupD
  rw [Wp_bind]
  congr 1
  funext bs μ
  unfold kTD
  by_cases q : bs.length ≤ sizeLine
  · rw [if_pos q, Wp_ok]; simp [q]
  · rw [if_neg q, Wp_bad]; simp [q]
/-- one list of the eleven -/
theorem w_made {n : Nat} {a4 a5 a6 : Option Dv} {Q : Fl → Store → Prop} (hx : Sg 3 100 x) (hz : Sg 3 100 z) (H : Md n x z μ)
    (fin : ∀ b4 b5 b6, Q (.nx [some (.c h), some (.d x), some (.d z), some (.c n), b4, b5, b6, none, none]) μ) :
    Wp (w2_l_right [some (.c h), some (.d x), some (.d z), some (.c n), a4, a5, a6, none, none] μ) Q := by
  have hv := F_values H
  obtain ⟨p, h1, h2⟩ := H
  unfold w2_l_right
  rw [Wp_sSeq, Wp_sForG]
  show Wp (Out.ok (Dv.c n) μ) _
  rw [Wp_ok, kForG_r, forGb_r]
  refine Wp_forGc (xs := (List.range 11).map fun i => Dv.c (p i)) (fun _ ρ μ' => μ' = μ ∧ ∃ a4 a5 a6, ρ = [some (.c h), some (.d x), some (.d z), some (.c n), a4, a5, a6, none, none]) (fun i ρ μ' I => by rw [I.1]; exact h1) ⟨rfl, _, _, _, rfl⟩ (Nat.zero_le _) (by simp) (fun j b ρ μ' hb I => ?_) (fun ρ' μ' I => ?_)
  · obtain ⟨rfl, b4, b5, b6, rfl⟩ := I
    have hj : j < 11 := by
      have := (List.getElem?_eq_some_iff.mp hb).1
      simpa using this
    have eb : b = .c (p j) := by
      have e : ((List.range 11).map fun i => Dv.c (p i))[j]? = some (.c (p j)) := by simp [hj]
      rw [e] at hb
      exact (Option.some.inj hb).symm
    subst eb
    rw [show gsCons (gN 4) (gsCons (gN 5) gsNil) [.d (.int (j : Int)), .c (p j)] [some (.c h), some (.d x), some (.d z), some (.c n), b4, b5, b6, none, none] μ' = .ok [some (.c h), some (.d x), some (.d z), some (.c n), some (.d (.int (j : Int))), some (.c (p j)), b6, none, none] μ' from rfl, Wp_ok]
    exact w_turn (h2 j hj) hj fun b6 => ⟨rfl, _, _, _, rfl⟩
  · obtain ⟨rfl, b4, b5, b6, rfl⟩ := I
    rw [kSeq_nx]
    generalize hr : ([some (.c h), some (.d x), some (.d z), some (.c n), b4, b5, b6, none, none] : DEnv) = ρ
    have a1 : eN (fCall 1 F_l_values) (aCons (eVar 3) (aNil)) ρ μ' = .ok (.d (.list (VL x z))) μ' := by
      rw [← hr]
      exact hv
    have rp : dRep 4 [.d x] μ' = .ok (.d (.list [x, x, x, x])) μ' := dList_map (ds := [x, x, x, x]) (by simp)
    have a2 : (e2 dAdd (e2 dAdd (e2 dAdd (eN (dRep 4) (aCons (eVar 1) (aNil))) (eN dList (aCons (eN dTup (aCons (eVar 1) (aCons (eVar 2) (aNil)))) (aNil)))) (eN (dRep 4) (aCons (eVar 1) (aNil)))) (eN dList (aCons (eN dTup (aCons (eVar 1) (aCons (eVar 2) (aCons (eVar 2) (aCons (eVar 1) (aNil)))))) (aNil)))) ρ μ' = .ok (.d (.list (VL x z))) μ' := by
      have w : Wp ((e2 dAdd (e2 dAdd (e2 dAdd (eN (dRep 4) (aCons (eVar 1) (aNil))) (eN dList (aCons (eN dTup (aCons (eVar 1) (aCons (eVar 2) (aNil)))) (aNil)))) (eN (dRep 4) (aCons (eVar 1) (aNil)))) (eN dList (aCons (eN dTup (aCons (eVar 1) (aCons (eVar 2) (aCons (eVar 2) (aCons (eVar 1) (aNil)))))) (aNil)))) ρ μ') fun b μ2 => b = .d (.list (VL x z)) ∧ μ2 = μ' := by
        rw [← hr]
        simp -implicitDefEqProofs (disch := first | (with_reducible assumption) | ((with_reducible show List.length _ = _); rfl) | (simp only [allD_cons, allD_nil, Option.map_some, Option.isSome_some]; done) | (simp only [List.length_cons, List.length_nil, List.length_map]; done) | ((with_reducible refine cMod_of ?_); omega) | ((with_reducible refine cDiv_of ?_ ?_) <;> omega) | ((with_reducible refine okR_of ?_ ?_) <;> omega) | omega | (simp only [List.length_take, List.length_drop, List.length_append, List.length_cons, List.length_nil, List.length_map, List.length_range, List.length_replicate]; omega)) [-sSeq_r, -sRet_r, -sDrop_r, -sSet_r, -sIf_r, -sPar_r, -sAsg_r, -sSetIx_r, -sFor_r, -gsCons_r, -gT_r, -e1_r, -e2_r, -tV_r, -tAndM_r, -tOrM_r, -tNotM_r, -eAnd_r, -eOr_r, -eNot_r, -eIf_r, -aCons_r, -eN_r, -fCall_r, -eCallK_r, -eM_r, -eSl_r, -oSome_r, -eIsN_r, -eLc_r, -iSeq_r, -iRng_r, rp, dAdd_ll]
        rfl
      obtain ⟨b, μ2, e, rfl, rfl⟩ := Wp_of w
      exact e
    have sg := sg_VL hx hz
    have rp1 : ∀ {a : ME}, a ρ μ' = .ok (.d (.list (VL x z))) μ' → eN dReprG (aCons a aNil) ρ μ' = .ok (.d (.str (PyData.list (VL x z)).shown)) μ' := fun ha => by
      unfold eN
      rw [bind_eq (aCons_eq ha aNil_eq)]
      exact dReprG_sg sg
    unfold r3_l_right
    rw [Wp_sIf]
    have t3 : ∀ {a b : ME}, a ρ μ' = .ok (.d (.list (VL x z))) μ' → b ρ μ' = .ok (.d (.list (VL x z))) μ' → tV (e2 (dEq true) (eN dReprG (aCons a aNil)) (eN dReprG (aCons b aNil))) ρ μ' = .ok false μ' := fun ha hb => by
      unfold tV e2
      rw [bind_eq ((bind_eq (rp1 ha)).trans ((bind_eq (rp1 hb)).trans ne_str))]
      rfl
    rw [t3 a1 a2, Wp_ok, kIf_f, Wp_sNext, ← hr]
    exact fin _ _ _
theorem w_right (H : Bx h m μ) (hm : m ≤ 1000) (fin : ∀ μ', P (.d (.bool true)) μ') : Wp (F_l_right [.c h] μ) P := by
  unfold F_l_right B_l_right
  apply Wp_run
  simp -implicitDefEqProofs (disch := first | (with_reducible assumption) | ((with_reducible show List.length _ = _); rfl) | (simp only [allD_cons, allD_nil, Option.map_some, Option.isSome_some]; done) | (simp only [List.length_cons, List.length_nil, List.length_map]; done) | ((with_reducible refine cMod_of ?_); omega) | ((with_reducible refine cDiv_of ?_ ?_) <;> omega) | ((with_reducible refine okR_of ?_ ?_) <;> omega) | omega | (simp only [List.length_take, List.length_drop, List.length_append, List.length_cons, List.length_nil, List.length_map, List.length_range, List.length_replicate]; omega)) [-sSeq_r, -sRet_r, -sDrop_r, -sSet_r, -sIf_r, -sPar_r, -sAsg_r, -sSetIx_r, -sFor_r, -gsCons_r, -gT_r, -e1_r, -e2_r, -tV_r, -tAndM_r, -tOrM_r, -tNotM_r, -eAnd_r, -eOr_r, -eNot_r, -eIf_r, -aCons_r, -eN_r, -fCall_r, -eCallK_r, -eM_r, -eSl_r, -oSome_r, -eIsN_r, -eLc_r, -iSeq_r, -iRng_r, ]
  refine w_thing H (by omega) fun x μ1 hx H1 O1 => ?_
  simp -implicitDefEqProofs (disch := first | (with_reducible assumption) | ((with_reducible show List.length _ = _); rfl) | (simp only [allD_cons, allD_nil, Option.map_some, Option.isSome_some]; done) | (simp only [List.length_cons, List.length_nil, List.length_map]; done) | ((with_reducible refine cMod_of ?_); omega) | ((with_reducible refine cDiv_of ?_ ?_) <;> omega) | ((with_reducible refine okR_of ?_ ?_) <;> omega) | omega | (simp only [List.length_take, List.length_drop, List.length_append, List.length_cons, List.length_nil, List.length_map, List.length_range, List.length_replicate]; omega)) [-sSeq_r, -sRet_r, -sDrop_r, -sSet_r, -sIf_r, -sPar_r, -sAsg_r, -sSetIx_r, -sFor_r, -gsCons_r, -gT_r, -e1_r, -e2_r, -tV_r, -tAndM_r, -tOrM_r, -tNotM_r, -eAnd_r, -eOr_r, -eNot_r, -eIf_r, -aCons_r, -eN_r, -fCall_r, -eCallK_r, -eM_r, -eSl_r, -oSome_r, -eIsN_r, -eLc_r, -iSeq_r, -iRng_r, ]
  refine w_thing H1 (by omega) fun z μ2 hz H2 O2 => ?_
  simp -implicitDefEqProofs (disch := first | (with_reducible assumption) | ((with_reducible show List.length _ = _); rfl) | (simp only [allD_cons, allD_nil, Option.map_some, Option.isSome_some]; done) | (simp only [List.length_cons, List.length_nil, List.length_map]; done) | ((with_reducible refine cMod_of ?_); omega) | ((with_reducible refine cDiv_of ?_ ?_) <;> omega) | ((with_reducible refine okR_of ?_ ?_) <;> omega) | omega | (simp only [List.length_take, List.length_drop, List.length_append, List.length_cons, List.length_nil, List.length_map, List.length_range, List.length_replicate]; omega)) [-sSeq_r, -sRet_r, -sDrop_r, -sSet_r, -sIf_r, -sPar_r, -sAsg_r, -sSetIx_r, -sFor_r, -gsCons_r, -gT_r, -e1_r, -e2_r, -tV_r, -tAndM_r, -tOrM_r, -tNotM_r, -eAnd_r, -eOr_r, -eNot_r, -eIf_r, -aCons_r, -eN_r, -fCall_r, -eCallK_r, -eM_r, -eSl_r, -oSome_r, -eIsN_r, -eLc_r, -iSeq_r, -iRng_r, r5_l_right]
  rw [Wp_iTupD]
  simp -implicitDefEqProofs (disch := first | (with_reducible assumption) | ((with_reducible show List.length _ = _); rfl) | (simp only [allD_cons, allD_nil, Option.map_some, Option.isSome_some]; done) | (simp only [List.length_cons, List.length_nil, List.length_map]; done) | ((with_reducible refine cMod_of ?_); omega) | ((with_reducible refine cDiv_of ?_ ?_) <;> omega) | ((with_reducible refine okR_of ?_ ?_) <;> omega) | omega | (simp only [List.length_take, List.length_drop, List.length_append, List.length_cons, List.length_nil, List.length_map, List.length_range, List.length_replicate]; omega)) [-sSeq_r, -sRet_r, -sDrop_r, -sSet_r, -sIf_r, -sPar_r, -sAsg_r, -sSetIx_r, -sFor_r, -gsCons_r, -gT_r, -e1_r, -e2_r, -tV_r, -tAndM_r, -tOrM_r, -tNotM_r, -eAnd_r, -eOr_r, -eNot_r, -eIf_r, -aCons_r, -eN_r, -fCall_r, -eCallK_r, -eM_r, -eSl_r, -oSome_r, -eIsN_r, -eLc_r, -iSeq_r, -iRng_r, ]
  refine w_places fun n1 l1 M1 => ?_
  simp -implicitDefEqProofs (disch := first | (with_reducible assumption) | ((with_reducible show List.length _ = _); rfl) | (simp only [allD_cons, allD_nil, Option.map_some, Option.isSome_some]; done) | (simp only [List.length_cons, List.length_nil, List.length_map]; done) | ((with_reducible refine cMod_of ?_); omega) | ((with_reducible refine cDiv_of ?_ ?_) <;> omega) | ((with_reducible refine okR_of ?_ ?_) <;> omega) | omega | (simp only [List.length_take, List.length_drop, List.length_append, List.length_cons, List.length_nil, List.length_map, List.length_range, List.length_replicate]; omega)) [-sSeq_r, -sRet_r, -sDrop_r, -sSet_r, -sIf_r, -sPar_r, -sAsg_r, -sSetIx_r, -sFor_r, -gsCons_r, -gT_r, -e1_r, -e2_r, -tV_r, -tAndM_r, -tOrM_r, -tNotM_r, -eAnd_r, -eOr_r, -eNot_r, -eIf_r, -aCons_r, -eN_r, -fCall_r, -eCallK_r, -eM_r, -eSl_r, -oSome_r, -eIsN_r, -eLc_r, -iSeq_r, -iRng_r, ]
  refine w_names fun n2 l2 M2 => ?_
  simp -implicitDefEqProofs (disch := first | (with_reducible assumption) | ((with_reducible show List.length _ = _); rfl) | (simp only [allD_cons, allD_nil, Option.map_some, Option.isSome_some]; done) | (simp only [List.length_cons, List.length_nil, List.length_map]; done) | ((with_reducible refine cMod_of ?_); omega) | ((with_reducible refine cDiv_of ?_ ?_) <;> omega) | ((with_reducible refine okR_of ?_ ?_) <;> omega) | omega | (simp only [List.length_take, List.length_drop, List.length_append, List.length_cons, List.length_nil, List.length_map, List.length_range, List.length_replicate]; omega)) [-sSeq_r, -sRet_r, -sDrop_r, -sSet_r, -sIf_r, -sPar_r, -sAsg_r, -sSetIx_r, -sFor_r, -gsCons_r, -gT_r, -e1_r, -e2_r, -tV_r, -tAndM_r, -tOrM_r, -tNotM_r, -eAnd_r, -eOr_r, -eNot_r, -eIf_r, -aCons_r, -eN_r, -fCall_r, -eCallK_r, -eM_r, -eSl_r, -oSome_r, -eIsN_r, -eLc_r, -iSeq_r, -iRng_r, ]
  generalize hν : μ2 ++ (l1 ++ l2) = ν
  have N1 : Md n1 x z ν := by rw [← hν, ← List.append_assoc]; exact M1.app l2
  have N2 : Md n2 x z ν := by rw [← hν, ← List.append_assoc]; exact M2
  refine ⟨by rw [sizeLine_eq]; simp, ?_⟩
  rw [kFor_r]
  refine Wp_forL (fun _ ρ μ' => μ' = ν ∧ ∃ a3 a4 a5 a6, ρ = [some (.c h), some (.d x), some (.d z), a3, a4, a5, a6, none, none]) (i := 0) ⟨rfl, _, _, _, _, rfl⟩ (fun j b ρ μ' hb I => ?_) fun ρ' μ' I => ?_
  · obtain ⟨rfl, a3, a4, a5, a6, rfl⟩ := I
    have hn : ∃ n, b = .c n ∧ Md n x z μ' := by
      match j, hb with
      | 0, hb => exact ⟨n1, (Option.some.inj hb).symm, N1⟩
      | 1, hb => exact ⟨n2, (Option.some.inj hb).symm, N2⟩
      | j + 2, hb => simp at hb
    obtain ⟨n, rfl, N⟩ := hn
    rw [Wp_gN]
    exact w_made hx hz N fun b4 b5 b6 => ⟨rfl, _, _, _, _, rfl⟩
  · obtain ⟨rfl, a3, a4, a5, a6, rfl⟩ := I
    rw [kSeq_nx]
    generalize hr : ([some (.c h), some (.d x), some (.d z), a3, a4, a5, a6, none, none] : DEnv) = ρ
    have c : eLc dList (iRng rng1 (aCons (eC (.d (.int 3))) (aNil))) (gN 8) (tYesM) (c3_l_right) [8] ρ μ' = .ok (.d (.list [.int 1, .int 2, .int 3])) μ' := by
      refine lc_rng (n := 3) (v := 8) (te := c3_l_right) (f := fun s => .int (s + 1)) (by omega) fun s hs => ?_
      rw [← hr]
      exact F_raised hx hz hs
    have l3 : eN dList (aCons (eC (.d (.int 1))) (aCons (eC (.d (.int 2))) (aCons (eC (.d (.int 3))) (aNil)))) ρ μ' = .ok (.d (.list [.int 1, .int 2, .int 3])) μ' := by
      unfold eN
      rw [bind_eq (aCons_eq rfl (aCons_eq rfl (aCons_eq rfl aNil_eq)))]
      exact dList_map (ds := [.int 1, .int 2, .int 3]) (by simp)
    have q : dEq false (.d (.list [.int 1, .int 2, .int 3])) (.d (.list [.int 1, .int 2, .int 3])) μ' = .ok (.d (.bool true)) μ' := by
      rw [dEq_dd (by decide +kernel)]
      rfl
    unfold r4_l_right
    rw [Wp_sRet]
    unfold e2
    rw [bind_eq c, bind_eq l3, q, Wp_ok]
    exact fin μ'
theorem law_right : ∀ ns : List Int, ns.length ≤ 63 → (∀ i ∈ ns, Builtin.Int.intBits i ≤ 1048576) → ∃ μ', F_law [.d (.list (ns.map PyData.int))] [] = .ok (.d (.bool true)) μ' := by
  intro ns hn hi
  have w : Wp (F_law [.d (.list (ns.map PyData.int))] []) fun b _ => b = .d (.bool true) := by
    unfold F_law B_law
    apply Wp_run
    obtain ⟨k, ek, hk⟩ : ∃ k : Nat, (2 : Int) + ((min 8 ns.length : Nat) : Int) = (k : Int) ∧ k ≤ 10 := ⟨2 + min 8 ns.length, by omega, by omega⟩
    simp -implicitDefEqProofs (disch := first | (with_reducible assumption) | ((with_reducible show List.length _ = _); rfl) | (simp only [allD_cons, allD_nil, Option.map_some, Option.isSome_some]; done) | (simp only [List.length_cons, List.length_nil, List.length_map]; done) | ((with_reducible refine cMod_of ?_); omega) | ((with_reducible refine cDiv_of ?_ ?_) <;> omega) | ((with_reducible refine okR_of ?_ ?_) <;> omega) | omega | (simp only [List.length_take, List.length_drop, List.length_append, List.length_cons, List.length_nil, List.length_map, List.length_range, List.length_replicate]; omega)) [-sSeq_r, -sRet_r, -sDrop_r, -sSet_r, -sIf_r, -sPar_r, -sAsg_r, -sSetIx_r, -sFor_r, -gsCons_r, -gT_r, -e1_r, -e2_r, -tV_r, -tAndM_r, -tOrM_r, -tNotM_r, -eAnd_r, -eOr_r, -eNot_r, -eIf_r, -aCons_r, -eN_r, -fCall_r, -eCallK_r, -eM_r, -eSl_r, -oSome_r, -eIsN_r, -eLc_r, -iSeq_r, -iRng_r, dLen_l]
    have hq : (2 + if (ns.length : Int) < 8 then (ns.length : Int) else 8).toNat ≤ 10 := by split <;> omega
    generalize (2 + if (ns.length : Int) < 8 then (ns.length : Int) else 8).toNat = q at hq
    refine Wp_lcF (by rw [List.length_map, List.length_range]; omega) ?_
    refine Wp_lcM_y (fun _ _ => True) (fun y => y = .d (.bool true)) (i := 0) trivial (fun j b μ hb _ => ?_) fun ys μ' hl hy _ => ?_
    · have hj : j < q := by
        have := (List.getElem?_eq_some_iff.mp hb).1
        simpa using this
      have eb : b = .d (.int (j : Int)) := by
        have e : ((List.range q).map fun (i : Nat) => Dv.d (PyData.int i))[j]? = some (.d (.int (j : Int))) := by simp [hj]
        rw [e] at hb
        exact (Option.some.inj hb).symm
      subst eb
      simp -implicitDefEqProofs (disch := first | (with_reducible assumption) | ((with_reducible show List.length _ = _); rfl) | (simp only [allD_cons, allD_nil, Option.map_some, Option.isSome_some]; done) | (simp only [List.length_cons, List.length_nil, List.length_map]; done) | ((with_reducible refine cMod_of ?_); omega) | ((with_reducible refine cDiv_of ?_ ?_) <;> omega) | ((with_reducible refine okR_of ?_ ?_) <;> omega) | omega | (simp only [List.length_take, List.length_drop, List.length_append, List.length_cons, List.length_nil, List.length_map, List.length_range, List.length_replicate]; omega)) [-sSeq_r, -sRet_r, -sDrop_r, -sSet_r, -sIf_r, -sPar_r, -sAsg_r, -sSetIx_r, -sFor_r, -gsCons_r, -gT_r, -e1_r, -e2_r, -tV_r, -tAndM_r, -tOrM_r, -tNotM_r, -eAnd_r, -eOr_r, -eNot_r, -eIf_r, -aCons_r, -eN_r, -fCall_r, -eCallK_r, -eM_r, -eSl_r, -oSome_r, -eIsN_r, -eLc_r, -iSeq_r, -iRng_r, c1_law, wipeD]
      refine w_hand (k := j) hn (by omega) hi fun n μ1 H1 => ?_
      simp -implicitDefEqProofs (disch := first | (with_reducible assumption) | ((with_reducible show List.length _ = _); rfl) | (simp only [allD_cons, allD_nil, Option.map_some, Option.isSome_some]; done) | (simp only [List.length_cons, List.length_nil, List.length_map]; done) | ((with_reducible refine cMod_of ?_); omega) | ((with_reducible refine cDiv_of ?_ ?_) <;> omega) | ((with_reducible refine okR_of ?_ ?_) <;> omega) | omega | (simp only [List.length_take, List.length_drop, List.length_append, List.length_cons, List.length_nil, List.length_map, List.length_range, List.length_replicate]; omega)) [-sSeq_r, -sRet_r, -sDrop_r, -sSet_r, -sIf_r, -sPar_r, -sAsg_r, -sSetIx_r, -sFor_r, -gsCons_r, -gT_r, -e1_r, -e2_r, -tV_r, -tAndM_r, -tOrM_r, -tNotM_r, -eAnd_r, -eOr_r, -eNot_r, -eIf_r, -aCons_r, -eN_r, -fCall_r, -eCallK_r, -eM_r, -eSl_r, -oSome_r, -eIsN_r, -eLc_r, -iSeq_r, -iRng_r, ]
      exact w_right H1 (by omega) fun _ => rfl
    · have ey : ys = ((List.replicate ys.length true).map PyData.bool).map Dv.d := by
        apply List.ext_getElem
        · simp
        · intro i h1 h2
          rw [hy _ (List.getElem_mem h1)]
          simp
      rw [List.length_map, List.length_range] at hl
      rw [ey, dList_map (by rw [List.length_map, List.length_replicate]; omega), Wp_ok]
      rw [kAC_r, Wp_aNil, kAC2_r, kN_r, dAll_b, Wp_ok]
      show Dv.d (.bool _) = Dv.d (.bool true)
      rw [show (List.replicate ys.length true).all id = true by simp]
  obtain ⟨b, μ', e, rfl⟩ := Wp_of w
  exact ⟨μ', e⟩
end
end LW

namespace LW
open PySem PySem.Spec PyProof.Rows L2 DL
/-! ### 4. What the top has written, the head -/
set_option maxHeartbeats 0 in
theorem all_mk {l : PySem.W.OpenLaw} {w : World} {K : PySem.W.Frag} {h : Heap} {mg : Str → Option Value} {fa : Addr} (X : K.In h) (G : h.Ns mainGlobals mg) (hfa : mg "law" = some (.ref fa))
    {f_l_take : Addr} {oc_l_take kV_l_take dc_l_take pm_l_take cd_l_take ct_l_take : Value} {od_l_take an_l_take : Option Addr} {sl_l_take : Array (Option Value)}
    {f_l_pick : Addr} {oc_l_pick kV_l_pick dc_l_pick pm_l_pick cd_l_pick ct_l_pick : Value} {od_l_pick an_l_pick : Option Addr} {sl_l_pick : Array (Option Value)}
    {f_l_thing : Addr} {oc_l_thing kV_l_thing dc_l_thing pm_l_thing cd_l_thing ct_l_thing : Value} {od_l_thing an_l_thing : Option Addr} {sl_l_thing : Array (Option Value)}
    {f_l_by_places : Addr} {oc_l_by_places kV_l_by_places dc_l_by_places pm_l_by_places cd_l_by_places ct_l_by_places : Value} {od_l_by_places an_l_by_places : Option Addr} {sl_l_by_places : Array (Option Value)}
    {f_l_by_names : Addr} {oc_l_by_names kV_l_by_names dc_l_by_names pm_l_by_names cd_l_by_names ct_l_by_names : Value} {od_l_by_names an_l_by_names : Option Addr} {sl_l_by_names : Array (Option Value)}
    {f_l_classes : Addr} {oc_l_classes kV_l_classes dc_l_classes pm_l_classes cd_l_classes ct_l_classes : Value} {od_l_classes an_l_classes : Option Addr} {sl_l_classes : Array (Option Value)}
    {f_l_families : Addr} {oc_l_families kV_l_families dc_l_families pm_l_families cd_l_families ct_l_families : Value} {od_l_families an_l_families : Option Addr} {sl_l_families : Array (Option Value)}
    {f_l_values : Addr} {oc_l_values kV_l_values dc_l_values pm_l_values cd_l_values ct_l_values : Value} {od_l_values an_l_values : Option Addr} {sl_l_values : Array (Option Value)}
    {f_l_raised : Addr} {oc_l_raised kV_l_raised dc_l_raised pm_l_raised cd_l_raised ct_l_raised : Value} {od_l_raised an_l_raised : Option Addr} {sl_l_raised : Array (Option Value)}
    {f_l_right : Addr} {oc_l_right kV_l_right dc_l_right pm_l_right cd_l_right ct_l_right : Value} {od_l_right an_l_right : Option Addr} {sl_l_right : Array (Option Value)}
    {f_l_hand : Addr} {oc_l_hand kV_l_hand dc_l_hand pm_l_hand cd_l_hand ct_l_hand : Value} {od_l_hand an_l_hand : Option Addr} {sl_l_hand : Array (Option Value)}
    {f_law : Addr} {oc_law kV_law dc_law pm_law cd_law ct_law : Value} {od_law an_law : Option Addr} {sl_law : Array (Option Value)}
    {C_NotSuch : Addr}
    {C_Lost : Addr}
    {C_Shut : Addr}
    {C_NoFit : Addr} {nm_NoFit q_NoFit : Str} {N_NoFit : Addr} {bs_NoFit bm_NoFit : List Value} {sn_NoFit : List Str} {sub_NoFit : List Value} {ab_NoFit : Bool} {col_NoFit : Option Bool} {dd_NoFit : Option Addr} {k0_NoFit k1_NoFit k2_NoFit k3_NoFit k5_NoFit : Option Value}
    {f_NoFit_init : Addr} {oc_NoFit_init kV_NoFit_init dc_NoFit_init pm_NoFit_init cd_NoFit_init ct_NoFit_init : Value} {od_NoFit_init an_NoFit_init : Option Addr} {sl_NoFit_init : Array (Option Value)}
    {C_NoText : Addr} {nm_NoText q_NoText : Str} {N_NoText : Addr} {bs_NoText bm_NoText : List Value} {sn_NoText : List Str} {sub_NoText : List Value} {ab_NoText : Bool} {col_NoText : Option Bool} {dd_NoText : Option Addr} {k0_NoText k1_NoText k2_NoText k3_NoText k5_NoText : Option Value}
    {f_NoText_init : Addr} {oc_NoText_init kV_NoText_init dc_NoText_init pm_NoText_init cd_NoText_init ct_NoText_init : Value} {od_NoText_init an_NoText_init : Option Addr} {sl_NoText_init : Array (Option Value)}
    {C_NoLine : Addr} {nm_NoLine q_NoLine : Str} {N_NoLine : Addr} {bs_NoLine bm_NoLine : List Value} {sn_NoLine : List Str} {sub_NoLine : List Value} {ab_NoLine : Bool} {col_NoLine : Option Bool} {dd_NoLine : Option Addr} {k0_NoLine k1_NoLine k2_NoLine k3_NoLine k5_NoLine : Option Value}
    {f_NoLine_init : Addr} {oc_NoLine_init kV_NoLine_init dc_NoLine_init pm_NoLine_init cd_NoLine_init ct_NoLine_init : Value} {od_NoLine_init an_NoLine_init : Option Addr} {sl_NoLine_init : Array (Option Value)}
    {C_NoRow : Addr} {nm_NoRow q_NoRow : Str} {N_NoRow : Addr} {bs_NoRow bm_NoRow : List Value} {sn_NoRow : List Str} {sub_NoRow : List Value} {ab_NoRow : Bool} {col_NoRow : Option Bool} {dd_NoRow : Option Addr} {k0_NoRow k1_NoRow k2_NoRow k3_NoRow k5_NoRow : Option Value}
    {f_NoRow_init : Addr} {oc_NoRow_init kV_NoRow_init dc_NoRow_init pm_NoRow_init cd_NoRow_init ct_NoRow_init : Value} {od_NoRow_init an_NoRow_init : Option Addr} {sl_NoRow_init : Array (Option Value)}
    {C_NoCell : Addr} {nm_NoCell q_NoCell : Str} {N_NoCell : Addr} {bs_NoCell bm_NoCell : List Value} {sn_NoCell : List Str} {sub_NoCell : List Value} {ab_NoCell : Bool} {col_NoCell : Option Bool} {dd_NoCell : Option Addr} {k0_NoCell k1_NoCell k2_NoCell k3_NoCell k5_NoCell : Option Value}
    {f_NoCell_init : Addr} {oc_NoCell_init kV_NoCell_init dc_NoCell_init pm_NoCell_init cd_NoCell_init ct_NoCell_init : Value} {od_NoCell_init an_NoCell_init : Option Addr} {sl_NoCell_init : Array (Option Value)}
    {C_NoOrder : Addr} {nm_NoOrder q_NoOrder : Str} {N_NoOrder : Addr} {bs_NoOrder bm_NoOrder : List Value} {sn_NoOrder : List Str} {sub_NoOrder : List Value} {ab_NoOrder : Bool} {col_NoOrder : Option Bool} {dd_NoOrder : Option Addr} {k0_NoOrder k1_NoOrder k2_NoOrder k3_NoOrder k5_NoOrder : Option Value}
    {f_NoOrder_init : Addr} {oc_NoOrder_init kV_NoOrder_init dc_NoOrder_init pm_NoOrder_init cd_NoOrder_init ct_NoOrder_init : Value} {od_NoOrder_init an_NoOrder_init : Option Addr} {sl_NoOrder_init : Array (Option Value)}
    {C_NoThing : Addr} {nm_NoThing q_NoThing : Str} {N_NoThing : Addr} {bs_NoThing bm_NoThing : List Value} {sn_NoThing : List Str} {sub_NoThing : List Value} {ab_NoThing : Bool} {col_NoThing : Option Bool} {dd_NoThing : Option Addr} {k0_NoThing k1_NoThing k2_NoThing k3_NoThing k5_NoThing : Option Value}
    {f_NoThing_init : Addr} {oc_NoThing_init kV_NoThing_init dc_NoThing_init pm_NoThing_init cd_NoThing_init ct_NoThing_init : Value} {od_NoThing_init an_NoThing_init : Option Addr} {sl_NoThing_init : Array (Option Value)}
    {C_NoSource : Addr} {nm_NoSource q_NoSource : Str} {N_NoSource : Addr} {bs_NoSource bm_NoSource : List Value} {sn_NoSource : List Str} {sub_NoSource : List Value} {ab_NoSource : Bool} {col_NoSource : Option Bool} {dd_NoSource : Option Addr} {k0_NoSource k1_NoSource k2_NoSource k3_NoSource k5_NoSource : Option Value}
    {f_NoSource_init : Addr} {oc_NoSource_init kV_NoSource_init dc_NoSource_init pm_NoSource_init cd_NoSource_init ct_NoSource_init : Value} {od_NoSource_init an_NoSource_init : Option Addr} {sl_NoSource_init : Array (Option Value)}
    {C_NoTable : Addr} {nm_NoTable q_NoTable : Str} {N_NoTable : Addr} {bs_NoTable bm_NoTable : List Value} {sn_NoTable : List Str} {sub_NoTable : List Value} {ab_NoTable : Bool} {col_NoTable : Option Bool} {dd_NoTable : Option Addr} {k0_NoTable k1_NoTable k2_NoTable k3_NoTable k5_NoTable : Option Value}
    {f_NoTable_init : Addr} {oc_NoTable_init kV_NoTable_init dc_NoTable_init pm_NoTable_init cd_NoTable_init ct_NoTable_init : Value} {od_NoTable_init an_NoTable_init : Option Addr} {sl_NoTable_init : Array (Option Value)}
    {C_NoDeed : Addr} {nm_NoDeed q_NoDeed : Str} {N_NoDeed : Addr} {bs_NoDeed bm_NoDeed : List Value} {sn_NoDeed : List Str} {sub_NoDeed : List Value} {ab_NoDeed : Bool} {col_NoDeed : Option Bool} {dd_NoDeed : Option Addr} {k0_NoDeed k1_NoDeed k2_NoDeed k3_NoDeed k5_NoDeed : Option Value}
    {f_NoDeed_init : Addr} {oc_NoDeed_init kV_NoDeed_init dc_NoDeed_init pm_NoDeed_init cd_NoDeed_init ct_NoDeed_init : Value} {od_NoDeed_init an_NoDeed_init : Option Addr} {sl_NoDeed_init : Array (Option Value)}
    {C_Clash : Addr} {nm_Clash q_Clash : Str} {N_Clash : Addr} {bs_Clash bm_Clash : List Value} {sn_Clash : List Str} {sub_Clash : List Value} {ab_Clash : Bool} {col_Clash : Option Bool} {dd_Clash : Option Addr} {k0_Clash k1_Clash k2_Clash k3_Clash k5_Clash : Option Value}
    {f_Clash_init : Addr} {oc_Clash_init kV_Clash_init dc_Clash_init pm_Clash_init cd_Clash_init ct_Clash_init : Value} {od_Clash_init an_Clash_init : Option Addr} {sl_Clash_init : Array (Option Value)}
    (en_x : PySem.W.specialIn K (.builtin "object.__class__") "__get__" = some (some (.builtin "getset_descriptor.__get__")))
    (et_x : PySem.W.takesIn K (.builtin "object.__class__") = some true)
    (a_NotSuch : PySem.W.nsIn K mainGlobals "NotSuch" = some (some (.ref C_NotSuch)))
    (g1_NotSuch : PySem.W.specialIn K (.ref C_NotSuch) "__getattribute__" = some (some (.builtin "type.__getattribute__")))
    (g2_NotSuch : PySem.W.readsIn K C_NotSuch (.type "type") = true)
    (g3_NotSuch : PySem.W.findCls K (.ref C_NotSuch) (.type "type") "__init__" = some (.val (.builtin "ValueError.__init__")))
    (a_Lost : PySem.W.nsIn K mainGlobals "Lost" = some (some (.ref C_Lost)))
    (g1_Lost : PySem.W.specialIn K (.ref C_Lost) "__getattribute__" = some (some (.builtin "type.__getattribute__")))
    (g2_Lost : PySem.W.readsIn K C_Lost (.type "type") = true)
    (g3_Lost : PySem.W.findCls K (.ref C_Lost) (.type "type") "__init__" = some (.val (.builtin "LookupError.__init__")))
    (a_Shut : PySem.W.nsIn K mainGlobals "Shut" = some (some (.ref C_Shut)))
    (g1_Shut : PySem.W.specialIn K (.ref C_Shut) "__getattribute__" = some (some (.builtin "type.__getattribute__")))
    (g2_Shut : PySem.W.readsIn K C_Shut (.type "type") = true)
    (g3_Shut : PySem.W.findCls K (.ref C_Shut) (.type "type") "__init__" = some (.val (.builtin "RuntimeError.__init__")))
    (a_NoFit : PySem.W.nsIn K mainGlobals "NoFit" = some (some (.ref C_NoFit)))
    (xl_NoFit : K.lookup C_NoFit = some (excClassObj nm_NoFit q_NoFit C_NoFit N_NoFit bs_NoFit bm_NoFit true sn_NoFit sub_NoFit ab_NoFit col_NoFit dd_NoFit k0_NoFit k1_NoFit k2_NoFit k3_NoFit k5_NoFit "ValueError.__new__"))
    (xr_NoFit : PySem.OXG.refsT PySem.OXG.tlV bm_NoFit = true)
    (xs_NoFit : PySem.W.findIn K (.ref C_NoFit) "__setattr__" = some (some (.builtin "object.__setattr__")))
    (xe_NoFit : PySem.W.subIn K (.ref C_NoFit) (.type "BaseException") = some true)
    (xt_NoFit : PySem.W.typeIn K (.ref C_NoFit) = some (.type "type"))
    (xk_NoFit : PySem.W.keepIn K (.ref C_NoFit) = true)
    (eg_NoFit : PySem.W.findIn K (.ref C_NoFit) "__getattribute__" = some (some (.builtin "BaseException.__getattribute__")))
    (ek_NoFit : PySem.W.findIn K (.ref C_NoFit) "__getattr__" = some none)
    (ed_NoFit : PySem.W.hasDictIn K C_NoFit = true)
    (ea_NoFit : PySem.W.findIn K (.ref C_NoFit) "__class__" = some (some (.builtin "object.__class__")))
    (em_NoFit : PySem.W.mroIn K C_NoFit (.type "object") = some true)
    (ai_NoFit : PySem.W.findIn K (.ref C_NoFit) "__init__" = some (some (.ref f_NoFit_init)))
    (ti_NoFit : PySem.W.typeIn K (.ref f_NoFit_init) = some (.type "function"))
    (l_NoFit_init : K.lookup f_NoFit_init = some ⟨oc_NoFit_init, od_NoFit_init, .func (PySem.W.fnOf "__init__" "NoFit.__init__" (defArgs s_NoFit_init) (defBody s_NoFit_init) (defScope s_NoFit_init) .none kV_NoFit_init dc_NoFit_init pm_NoFit_init an_NoFit_init cd_NoFit_init ct_NoFit_init), sl_NoFit_init⟩)
    (c_NoFit_init : PySem.W.codeIn K cd_NoFit_init "NoFit.__init__" = true)
    (k_NoFit_init : PySem.W.keepIn K (.ref f_NoFit_init) = true)
    (n0_NoFit : PySem.W.findIn K (.ref C_NoFit) "worth" = some none)
    (a_NoText : PySem.W.nsIn K mainGlobals "NoText" = some (some (.ref C_NoText)))
    (xl_NoText : K.lookup C_NoText = some (excClassObj nm_NoText q_NoText C_NoText N_NoText bs_NoText bm_NoText true sn_NoText sub_NoText ab_NoText col_NoText dd_NoText k0_NoText k1_NoText k2_NoText k3_NoText k5_NoText "ValueError.__new__"))
    (xr_NoText : PySem.OXG.refsT PySem.OXG.tlV bm_NoText = true)
    (xs_NoText : PySem.W.findIn K (.ref C_NoText) "__setattr__" = some (some (.builtin "object.__setattr__")))
    (xe_NoText : PySem.W.subIn K (.ref C_NoText) (.type "BaseException") = some true)
    (xt_NoText : PySem.W.typeIn K (.ref C_NoText) = some (.type "type"))
    (xk_NoText : PySem.W.keepIn K (.ref C_NoText) = true)
    (eg_NoText : PySem.W.findIn K (.ref C_NoText) "__getattribute__" = some (some (.builtin "BaseException.__getattribute__")))
    (ek_NoText : PySem.W.findIn K (.ref C_NoText) "__getattr__" = some none)
    (ed_NoText : PySem.W.hasDictIn K C_NoText = true)
    (ea_NoText : PySem.W.findIn K (.ref C_NoText) "__class__" = some (some (.builtin "object.__class__")))
    (em_NoText : PySem.W.mroIn K C_NoText (.type "object") = some true)
    (ai_NoText : PySem.W.findIn K (.ref C_NoText) "__init__" = some (some (.ref f_NoText_init)))
    (ti_NoText : PySem.W.typeIn K (.ref f_NoText_init) = some (.type "function"))
    (l_NoText_init : K.lookup f_NoText_init = some ⟨oc_NoText_init, od_NoText_init, .func (PySem.W.fnOf "__init__" "NoText.__init__" (defArgs s_NoText_init) (defBody s_NoText_init) (defScope s_NoText_init) .none kV_NoText_init dc_NoText_init pm_NoText_init an_NoText_init cd_NoText_init ct_NoText_init), sl_NoText_init⟩)
    (c_NoText_init : PySem.W.codeIn K cd_NoText_init "NoText.__init__" = true)
    (k_NoText_init : PySem.W.keepIn K (.ref f_NoText_init) = true)
    (n0_NoText : PySem.W.findIn K (.ref C_NoText) "row" = some none)
    (a_NoLine : PySem.W.nsIn K mainGlobals "NoLine" = some (some (.ref C_NoLine)))
    (xl_NoLine : K.lookup C_NoLine = some (excClassObj nm_NoLine q_NoLine C_NoLine N_NoLine bs_NoLine bm_NoLine true sn_NoLine sub_NoLine ab_NoLine col_NoLine dd_NoLine k0_NoLine k1_NoLine k2_NoLine k3_NoLine k5_NoLine "ValueError.__new__"))
    (xr_NoLine : PySem.OXG.refsT PySem.OXG.tlV bm_NoLine = true)
    (xs_NoLine : PySem.W.findIn K (.ref C_NoLine) "__setattr__" = some (some (.builtin "object.__setattr__")))
    (xe_NoLine : PySem.W.subIn K (.ref C_NoLine) (.type "BaseException") = some true)
    (xt_NoLine : PySem.W.typeIn K (.ref C_NoLine) = some (.type "type"))
    (xk_NoLine : PySem.W.keepIn K (.ref C_NoLine) = true)
    (eg_NoLine : PySem.W.findIn K (.ref C_NoLine) "__getattribute__" = some (some (.builtin "BaseException.__getattribute__")))
    (ek_NoLine : PySem.W.findIn K (.ref C_NoLine) "__getattr__" = some none)
    (ed_NoLine : PySem.W.hasDictIn K C_NoLine = true)
    (ea_NoLine : PySem.W.findIn K (.ref C_NoLine) "__class__" = some (some (.builtin "object.__class__")))
    (em_NoLine : PySem.W.mroIn K C_NoLine (.type "object") = some true)
    (ai_NoLine : PySem.W.findIn K (.ref C_NoLine) "__init__" = some (some (.ref f_NoLine_init)))
    (ti_NoLine : PySem.W.typeIn K (.ref f_NoLine_init) = some (.type "function"))
    (l_NoLine_init : K.lookup f_NoLine_init = some ⟨oc_NoLine_init, od_NoLine_init, .func (PySem.W.fnOf "__init__" "NoLine.__init__" (defArgs s_NoLine_init) (defBody s_NoLine_init) (defScope s_NoLine_init) .none kV_NoLine_init dc_NoLine_init pm_NoLine_init an_NoLine_init cd_NoLine_init ct_NoLine_init), sl_NoLine_init⟩)
    (c_NoLine_init : PySem.W.codeIn K cd_NoLine_init "NoLine.__init__" = true)
    (k_NoLine_init : PySem.W.keepIn K (.ref f_NoLine_init) = true)
    (n0_NoLine : PySem.W.findIn K (.ref C_NoLine) "line" = some none)
    (a_NoRow : PySem.W.nsIn K mainGlobals "NoRow" = some (some (.ref C_NoRow)))
    (xl_NoRow : K.lookup C_NoRow = some (excClassObj nm_NoRow q_NoRow C_NoRow N_NoRow bs_NoRow bm_NoRow true sn_NoRow sub_NoRow ab_NoRow col_NoRow dd_NoRow k0_NoRow k1_NoRow k2_NoRow k3_NoRow k5_NoRow "LookupError.__new__"))
    (xr_NoRow : PySem.OXG.refsT PySem.OXG.tlL bm_NoRow = true)
    (xs_NoRow : PySem.W.findIn K (.ref C_NoRow) "__setattr__" = some (some (.builtin "object.__setattr__")))
    (xe_NoRow : PySem.W.subIn K (.ref C_NoRow) (.type "BaseException") = some true)
    (xt_NoRow : PySem.W.typeIn K (.ref C_NoRow) = some (.type "type"))
    (xk_NoRow : PySem.W.keepIn K (.ref C_NoRow) = true)
    (eg_NoRow : PySem.W.findIn K (.ref C_NoRow) "__getattribute__" = some (some (.builtin "BaseException.__getattribute__")))
    (ek_NoRow : PySem.W.findIn K (.ref C_NoRow) "__getattr__" = some none)
    (ed_NoRow : PySem.W.hasDictIn K C_NoRow = true)
    (ea_NoRow : PySem.W.findIn K (.ref C_NoRow) "__class__" = some (some (.builtin "object.__class__")))
    (em_NoRow : PySem.W.mroIn K C_NoRow (.type "object") = some true)
    (ai_NoRow : PySem.W.findIn K (.ref C_NoRow) "__init__" = some (some (.ref f_NoRow_init)))
    (ti_NoRow : PySem.W.typeIn K (.ref f_NoRow_init) = some (.type "function"))
    (l_NoRow_init : K.lookup f_NoRow_init = some ⟨oc_NoRow_init, od_NoRow_init, .func (PySem.W.fnOf "__init__" "NoRow.__init__" (defArgs s_NoRow_init) (defBody s_NoRow_init) (defScope s_NoRow_init) .none kV_NoRow_init dc_NoRow_init pm_NoRow_init an_NoRow_init cd_NoRow_init ct_NoRow_init), sl_NoRow_init⟩)
    (c_NoRow_init : PySem.W.codeIn K cd_NoRow_init "NoRow.__init__" = true)
    (k_NoRow_init : PySem.W.keepIn K (.ref f_NoRow_init) = true)
    (n0_NoRow : PySem.W.findIn K (.ref C_NoRow) "row" = some none)
    (a_NoCell : PySem.W.nsIn K mainGlobals "NoCell" = some (some (.ref C_NoCell)))
    (xl_NoCell : K.lookup C_NoCell = some (excClassObj nm_NoCell q_NoCell C_NoCell N_NoCell bs_NoCell bm_NoCell true sn_NoCell sub_NoCell ab_NoCell col_NoCell dd_NoCell k0_NoCell k1_NoCell k2_NoCell k3_NoCell k5_NoCell "LookupError.__new__"))
    (xr_NoCell : PySem.OXG.refsT PySem.OXG.tlL bm_NoCell = true)
    (xs_NoCell : PySem.W.findIn K (.ref C_NoCell) "__setattr__" = some (some (.builtin "object.__setattr__")))
    (xe_NoCell : PySem.W.subIn K (.ref C_NoCell) (.type "BaseException") = some true)
    (xt_NoCell : PySem.W.typeIn K (.ref C_NoCell) = some (.type "type"))
    (xk_NoCell : PySem.W.keepIn K (.ref C_NoCell) = true)
    (eg_NoCell : PySem.W.findIn K (.ref C_NoCell) "__getattribute__" = some (some (.builtin "BaseException.__getattribute__")))
    (ek_NoCell : PySem.W.findIn K (.ref C_NoCell) "__getattr__" = some none)
    (ed_NoCell : PySem.W.hasDictIn K C_NoCell = true)
    (ea_NoCell : PySem.W.findIn K (.ref C_NoCell) "__class__" = some (some (.builtin "object.__class__")))
    (em_NoCell : PySem.W.mroIn K C_NoCell (.type "object") = some true)
    (ai_NoCell : PySem.W.findIn K (.ref C_NoCell) "__init__" = some (some (.ref f_NoCell_init)))
    (ti_NoCell : PySem.W.typeIn K (.ref f_NoCell_init) = some (.type "function"))
    (l_NoCell_init : K.lookup f_NoCell_init = some ⟨oc_NoCell_init, od_NoCell_init, .func (PySem.W.fnOf "__init__" "NoCell.__init__" (defArgs s_NoCell_init) (defBody s_NoCell_init) (defScope s_NoCell_init) .none kV_NoCell_init dc_NoCell_init pm_NoCell_init an_NoCell_init cd_NoCell_init ct_NoCell_init), sl_NoCell_init⟩)
    (c_NoCell_init : PySem.W.codeIn K cd_NoCell_init "NoCell.__init__" = true)
    (k_NoCell_init : PySem.W.keepIn K (.ref f_NoCell_init) = true)
    (n0_NoCell : PySem.W.findIn K (.ref C_NoCell) "number" = some none)
    (n1_NoCell : PySem.W.findIn K (.ref C_NoCell) "column" = some none)
    (a_NoOrder : PySem.W.nsIn K mainGlobals "NoOrder" = some (some (.ref C_NoOrder)))
    (xl_NoOrder : K.lookup C_NoOrder = some (excClassObj nm_NoOrder q_NoOrder C_NoOrder N_NoOrder bs_NoOrder bm_NoOrder true sn_NoOrder sub_NoOrder ab_NoOrder col_NoOrder dd_NoOrder k0_NoOrder k1_NoOrder k2_NoOrder k3_NoOrder k5_NoOrder "LookupError.__new__"))
    (xr_NoOrder : PySem.OXG.refsT PySem.OXG.tlL bm_NoOrder = true)
    (xs_NoOrder : PySem.W.findIn K (.ref C_NoOrder) "__setattr__" = some (some (.builtin "object.__setattr__")))
    (xe_NoOrder : PySem.W.subIn K (.ref C_NoOrder) (.type "BaseException") = some true)
    (xt_NoOrder : PySem.W.typeIn K (.ref C_NoOrder) = some (.type "type"))
    (xk_NoOrder : PySem.W.keepIn K (.ref C_NoOrder) = true)
    (eg_NoOrder : PySem.W.findIn K (.ref C_NoOrder) "__getattribute__" = some (some (.builtin "BaseException.__getattribute__")))
    (ek_NoOrder : PySem.W.findIn K (.ref C_NoOrder) "__getattr__" = some none)
    (ed_NoOrder : PySem.W.hasDictIn K C_NoOrder = true)
    (ea_NoOrder : PySem.W.findIn K (.ref C_NoOrder) "__class__" = some (some (.builtin "object.__class__")))
    (em_NoOrder : PySem.W.mroIn K C_NoOrder (.type "object") = some true)
    (ai_NoOrder : PySem.W.findIn K (.ref C_NoOrder) "__init__" = some (some (.ref f_NoOrder_init)))
    (ti_NoOrder : PySem.W.typeIn K (.ref f_NoOrder_init) = some (.type "function"))
    (l_NoOrder_init : K.lookup f_NoOrder_init = some ⟨oc_NoOrder_init, od_NoOrder_init, .func (PySem.W.fnOf "__init__" "NoOrder.__init__" (defArgs s_NoOrder_init) (defBody s_NoOrder_init) (defScope s_NoOrder_init) .none kV_NoOrder_init dc_NoOrder_init pm_NoOrder_init an_NoOrder_init cd_NoOrder_init ct_NoOrder_init), sl_NoOrder_init⟩)
    (c_NoOrder_init : PySem.W.codeIn K cd_NoOrder_init "NoOrder.__init__" = true)
    (k_NoOrder_init : PySem.W.keepIn K (.ref f_NoOrder_init) = true)
    (n0_NoOrder : PySem.W.findIn K (.ref C_NoOrder) "which" = some none)
    (a_NoThing : PySem.W.nsIn K mainGlobals "NoThing" = some (some (.ref C_NoThing)))
    (xl_NoThing : K.lookup C_NoThing = some (excClassObj nm_NoThing q_NoThing C_NoThing N_NoThing bs_NoThing bm_NoThing true sn_NoThing sub_NoThing ab_NoThing col_NoThing dd_NoThing k0_NoThing k1_NoThing k2_NoThing k3_NoThing k5_NoThing "LookupError.__new__"))
    (xr_NoThing : PySem.OXG.refsT PySem.OXG.tlL bm_NoThing = true)
    (xs_NoThing : PySem.W.findIn K (.ref C_NoThing) "__setattr__" = some (some (.builtin "object.__setattr__")))
    (xe_NoThing : PySem.W.subIn K (.ref C_NoThing) (.type "BaseException") = some true)
    (xt_NoThing : PySem.W.typeIn K (.ref C_NoThing) = some (.type "type"))
    (xk_NoThing : PySem.W.keepIn K (.ref C_NoThing) = true)
    (eg_NoThing : PySem.W.findIn K (.ref C_NoThing) "__getattribute__" = some (some (.builtin "BaseException.__getattribute__")))
    (ek_NoThing : PySem.W.findIn K (.ref C_NoThing) "__getattr__" = some none)
    (ed_NoThing : PySem.W.hasDictIn K C_NoThing = true)
    (ea_NoThing : PySem.W.findIn K (.ref C_NoThing) "__class__" = some (some (.builtin "object.__class__")))
    (em_NoThing : PySem.W.mroIn K C_NoThing (.type "object") = some true)
    (ai_NoThing : PySem.W.findIn K (.ref C_NoThing) "__init__" = some (some (.ref f_NoThing_init)))
    (ti_NoThing : PySem.W.typeIn K (.ref f_NoThing_init) = some (.type "function"))
    (l_NoThing_init : K.lookup f_NoThing_init = some ⟨oc_NoThing_init, od_NoThing_init, .func (PySem.W.fnOf "__init__" "NoThing.__init__" (defArgs s_NoThing_init) (defBody s_NoThing_init) (defScope s_NoThing_init) .none kV_NoThing_init dc_NoThing_init pm_NoThing_init an_NoThing_init cd_NoThing_init ct_NoThing_init), sl_NoThing_init⟩)
    (c_NoThing_init : PySem.W.codeIn K cd_NoThing_init "NoThing.__init__" = true)
    (k_NoThing_init : PySem.W.keepIn K (.ref f_NoThing_init) = true)
    (n0_NoThing : PySem.W.findIn K (.ref C_NoThing) "thing" = some none)
    (a_NoSource : PySem.W.nsIn K mainGlobals "NoSource" = some (some (.ref C_NoSource)))
    (xl_NoSource : K.lookup C_NoSource = some (excClassObj nm_NoSource q_NoSource C_NoSource N_NoSource bs_NoSource bm_NoSource true sn_NoSource sub_NoSource ab_NoSource col_NoSource dd_NoSource k0_NoSource k1_NoSource k2_NoSource k3_NoSource k5_NoSource "LookupError.__new__"))
    (xr_NoSource : PySem.OXG.refsT PySem.OXG.tlL bm_NoSource = true)
    (xs_NoSource : PySem.W.findIn K (.ref C_NoSource) "__setattr__" = some (some (.builtin "object.__setattr__")))
    (xe_NoSource : PySem.W.subIn K (.ref C_NoSource) (.type "BaseException") = some true)
    (xt_NoSource : PySem.W.typeIn K (.ref C_NoSource) = some (.type "type"))
    (xk_NoSource : PySem.W.keepIn K (.ref C_NoSource) = true)
    (eg_NoSource : PySem.W.findIn K (.ref C_NoSource) "__getattribute__" = some (some (.builtin "BaseException.__getattribute__")))
    (ek_NoSource : PySem.W.findIn K (.ref C_NoSource) "__getattr__" = some none)
    (ed_NoSource : PySem.W.hasDictIn K C_NoSource = true)
    (ea_NoSource : PySem.W.findIn K (.ref C_NoSource) "__class__" = some (some (.builtin "object.__class__")))
    (em_NoSource : PySem.W.mroIn K C_NoSource (.type "object") = some true)
    (ai_NoSource : PySem.W.findIn K (.ref C_NoSource) "__init__" = some (some (.ref f_NoSource_init)))
    (ti_NoSource : PySem.W.typeIn K (.ref f_NoSource_init) = some (.type "function"))
    (l_NoSource_init : K.lookup f_NoSource_init = some ⟨oc_NoSource_init, od_NoSource_init, .func (PySem.W.fnOf "__init__" "NoSource.__init__" (defArgs s_NoSource_init) (defBody s_NoSource_init) (defScope s_NoSource_init) .none kV_NoSource_init dc_NoSource_init pm_NoSource_init an_NoSource_init cd_NoSource_init ct_NoSource_init), sl_NoSource_init⟩)
    (c_NoSource_init : PySem.W.codeIn K cd_NoSource_init "NoSource.__init__" = true)
    (k_NoSource_init : PySem.W.keepIn K (.ref f_NoSource_init) = true)
    (n0_NoSource : PySem.W.findIn K (.ref C_NoSource) "source" = some none)
    (a_NoTable : PySem.W.nsIn K mainGlobals "NoTable" = some (some (.ref C_NoTable)))
    (xl_NoTable : K.lookup C_NoTable = some (excClassObj nm_NoTable q_NoTable C_NoTable N_NoTable bs_NoTable bm_NoTable true sn_NoTable sub_NoTable ab_NoTable col_NoTable dd_NoTable k0_NoTable k1_NoTable k2_NoTable k3_NoTable k5_NoTable "LookupError.__new__"))
    (xr_NoTable : PySem.OXG.refsT PySem.OXG.tlL bm_NoTable = true)
    (xs_NoTable : PySem.W.findIn K (.ref C_NoTable) "__setattr__" = some (some (.builtin "object.__setattr__")))
    (xe_NoTable : PySem.W.subIn K (.ref C_NoTable) (.type "BaseException") = some true)
    (xt_NoTable : PySem.W.typeIn K (.ref C_NoTable) = some (.type "type"))
    (xk_NoTable : PySem.W.keepIn K (.ref C_NoTable) = true)
    (eg_NoTable : PySem.W.findIn K (.ref C_NoTable) "__getattribute__" = some (some (.builtin "BaseException.__getattribute__")))
    (ek_NoTable : PySem.W.findIn K (.ref C_NoTable) "__getattr__" = some none)
    (ed_NoTable : PySem.W.hasDictIn K C_NoTable = true)
    (ea_NoTable : PySem.W.findIn K (.ref C_NoTable) "__class__" = some (some (.builtin "object.__class__")))
    (em_NoTable : PySem.W.mroIn K C_NoTable (.type "object") = some true)
    (ai_NoTable : PySem.W.findIn K (.ref C_NoTable) "__init__" = some (some (.ref f_NoTable_init)))
    (ti_NoTable : PySem.W.typeIn K (.ref f_NoTable_init) = some (.type "function"))
    (l_NoTable_init : K.lookup f_NoTable_init = some ⟨oc_NoTable_init, od_NoTable_init, .func (PySem.W.fnOf "__init__" "NoTable.__init__" (defArgs s_NoTable_init) (defBody s_NoTable_init) (defScope s_NoTable_init) .none kV_NoTable_init dc_NoTable_init pm_NoTable_init an_NoTable_init cd_NoTable_init ct_NoTable_init), sl_NoTable_init⟩)
    (c_NoTable_init : PySem.W.codeIn K cd_NoTable_init "NoTable.__init__" = true)
    (k_NoTable_init : PySem.W.keepIn K (.ref f_NoTable_init) = true)
    (n0_NoTable : PySem.W.findIn K (.ref C_NoTable) "table" = some none)
    (a_NoDeed : PySem.W.nsIn K mainGlobals "NoDeed" = some (some (.ref C_NoDeed)))
    (xl_NoDeed : K.lookup C_NoDeed = some (excClassObj nm_NoDeed q_NoDeed C_NoDeed N_NoDeed bs_NoDeed bm_NoDeed true sn_NoDeed sub_NoDeed ab_NoDeed col_NoDeed dd_NoDeed k0_NoDeed k1_NoDeed k2_NoDeed k3_NoDeed k5_NoDeed "LookupError.__new__"))
    (xr_NoDeed : PySem.OXG.refsT PySem.OXG.tlL bm_NoDeed = true)
    (xs_NoDeed : PySem.W.findIn K (.ref C_NoDeed) "__setattr__" = some (some (.builtin "object.__setattr__")))
    (xe_NoDeed : PySem.W.subIn K (.ref C_NoDeed) (.type "BaseException") = some true)
    (xt_NoDeed : PySem.W.typeIn K (.ref C_NoDeed) = some (.type "type"))
    (xk_NoDeed : PySem.W.keepIn K (.ref C_NoDeed) = true)
    (eg_NoDeed : PySem.W.findIn K (.ref C_NoDeed) "__getattribute__" = some (some (.builtin "BaseException.__getattribute__")))
    (ek_NoDeed : PySem.W.findIn K (.ref C_NoDeed) "__getattr__" = some none)
    (ed_NoDeed : PySem.W.hasDictIn K C_NoDeed = true)
    (ea_NoDeed : PySem.W.findIn K (.ref C_NoDeed) "__class__" = some (some (.builtin "object.__class__")))
    (em_NoDeed : PySem.W.mroIn K C_NoDeed (.type "object") = some true)
    (ai_NoDeed : PySem.W.findIn K (.ref C_NoDeed) "__init__" = some (some (.ref f_NoDeed_init)))
    (ti_NoDeed : PySem.W.typeIn K (.ref f_NoDeed_init) = some (.type "function"))
    (l_NoDeed_init : K.lookup f_NoDeed_init = some ⟨oc_NoDeed_init, od_NoDeed_init, .func (PySem.W.fnOf "__init__" "NoDeed.__init__" (defArgs s_NoDeed_init) (defBody s_NoDeed_init) (defScope s_NoDeed_init) .none kV_NoDeed_init dc_NoDeed_init pm_NoDeed_init an_NoDeed_init cd_NoDeed_init ct_NoDeed_init), sl_NoDeed_init⟩)
    (c_NoDeed_init : PySem.W.codeIn K cd_NoDeed_init "NoDeed.__init__" = true)
    (k_NoDeed_init : PySem.W.keepIn K (.ref f_NoDeed_init) = true)
    (a_Clash : PySem.W.nsIn K mainGlobals "Clash" = some (some (.ref C_Clash)))
    (xl_Clash : K.lookup C_Clash = some (excClassObj nm_Clash q_Clash C_Clash N_Clash bs_Clash bm_Clash true sn_Clash sub_Clash ab_Clash col_Clash dd_Clash k0_Clash k1_Clash k2_Clash k3_Clash k5_Clash "RuntimeError.__new__"))
    (xr_Clash : PySem.OXG.refsT PySem.OXG.tlR bm_Clash = true)
    (xs_Clash : PySem.W.findIn K (.ref C_Clash) "__setattr__" = some (some (.builtin "object.__setattr__")))
    (xe_Clash : PySem.W.subIn K (.ref C_Clash) (.type "BaseException") = some true)
    (xt_Clash : PySem.W.typeIn K (.ref C_Clash) = some (.type "type"))
    (xk_Clash : PySem.W.keepIn K (.ref C_Clash) = true)
    (eg_Clash : PySem.W.findIn K (.ref C_Clash) "__getattribute__" = some (some (.builtin "BaseException.__getattribute__")))
    (ek_Clash : PySem.W.findIn K (.ref C_Clash) "__getattr__" = some none)
    (ed_Clash : PySem.W.hasDictIn K C_Clash = true)
    (ea_Clash : PySem.W.findIn K (.ref C_Clash) "__class__" = some (some (.builtin "object.__class__")))
    (em_Clash : PySem.W.mroIn K C_Clash (.type "object") = some true)
    (ai_Clash : PySem.W.findIn K (.ref C_Clash) "__init__" = some (some (.ref f_Clash_init)))
    (ti_Clash : PySem.W.typeIn K (.ref f_Clash_init) = some (.type "function"))
    (l_Clash_init : K.lookup f_Clash_init = some ⟨oc_Clash_init, od_Clash_init, .func (PySem.W.fnOf "__init__" "Clash.__init__" (defArgs s_Clash_init) (defBody s_Clash_init) (defScope s_Clash_init) .none kV_Clash_init dc_Clash_init pm_Clash_init an_Clash_init cd_Clash_init ct_Clash_init), sl_Clash_init⟩)
    (c_Clash_init : PySem.W.codeIn K cd_Clash_init "Clash.__init__" = true)
    (k_Clash_init : PySem.W.keepIn K (.ref f_Clash_init) = true)
    (n0_Clash : PySem.W.findIn K (.ref C_Clash) "table" = some none)
    (n1_Clash : PySem.W.findIn K (.ref C_Clash) "step" = some none)
    (n2_Clash : PySem.W.findIn K (.ref C_Clash) "other" = some none)
    (n3_Clash : PySem.W.findIn K (.ref C_Clash) "what" = some none)
    (q_NoFit_NoFit : PySem.W.kitOne K (.ref C_NoFit) (.ref C_NoFit) = some true)
    (q_NoFit_NoText : PySem.W.kitOne K (.ref C_NoText) (.ref C_NoFit) = some false)
    (q_NoFit_NoLine : PySem.W.kitOne K (.ref C_NoLine) (.ref C_NoFit) = some false)
    (q_NoFit_NoRow : PySem.W.kitOne K (.ref C_NoRow) (.ref C_NoFit) = some false)
    (q_NoFit_NoCell : PySem.W.kitOne K (.ref C_NoCell) (.ref C_NoFit) = some false)
    (q_NoFit_NoOrder : PySem.W.kitOne K (.ref C_NoOrder) (.ref C_NoFit) = some false)
    (q_NoFit_NoThing : PySem.W.kitOne K (.ref C_NoThing) (.ref C_NoFit) = some false)
    (q_NoFit_NoSource : PySem.W.kitOne K (.ref C_NoSource) (.ref C_NoFit) = some false)
    (q_NoFit_NoTable : PySem.W.kitOne K (.ref C_NoTable) (.ref C_NoFit) = some false)
    (q_NoFit_NoDeed : PySem.W.kitOne K (.ref C_NoDeed) (.ref C_NoFit) = some false)
    (q_NoFit_Clash : PySem.W.kitOne K (.ref C_Clash) (.ref C_NoFit) = some false)
    (q_NoText_NoFit : PySem.W.kitOne K (.ref C_NoFit) (.ref C_NoText) = some false)
    (q_NoText_NoText : PySem.W.kitOne K (.ref C_NoText) (.ref C_NoText) = some true)
    (q_NoText_NoLine : PySem.W.kitOne K (.ref C_NoLine) (.ref C_NoText) = some false)
    (q_NoText_NoRow : PySem.W.kitOne K (.ref C_NoRow) (.ref C_NoText) = some false)
    (q_NoText_NoCell : PySem.W.kitOne K (.ref C_NoCell) (.ref C_NoText) = some false)
    (q_NoText_NoOrder : PySem.W.kitOne K (.ref C_NoOrder) (.ref C_NoText) = some false)
    (q_NoText_NoThing : PySem.W.kitOne K (.ref C_NoThing) (.ref C_NoText) = some false)
    (q_NoText_NoSource : PySem.W.kitOne K (.ref C_NoSource) (.ref C_NoText) = some false)
    (q_NoText_NoTable : PySem.W.kitOne K (.ref C_NoTable) (.ref C_NoText) = some false)
    (q_NoText_NoDeed : PySem.W.kitOne K (.ref C_NoDeed) (.ref C_NoText) = some false)
    (q_NoText_Clash : PySem.W.kitOne K (.ref C_Clash) (.ref C_NoText) = some false)
    (q_NoLine_NoFit : PySem.W.kitOne K (.ref C_NoFit) (.ref C_NoLine) = some false)
    (q_NoLine_NoText : PySem.W.kitOne K (.ref C_NoText) (.ref C_NoLine) = some false)
    (q_NoLine_NoLine : PySem.W.kitOne K (.ref C_NoLine) (.ref C_NoLine) = some true)
    (q_NoLine_NoRow : PySem.W.kitOne K (.ref C_NoRow) (.ref C_NoLine) = some false)
    (q_NoLine_NoCell : PySem.W.kitOne K (.ref C_NoCell) (.ref C_NoLine) = some false)
    (q_NoLine_NoOrder : PySem.W.kitOne K (.ref C_NoOrder) (.ref C_NoLine) = some false)
    (q_NoLine_NoThing : PySem.W.kitOne K (.ref C_NoThing) (.ref C_NoLine) = some false)
    (q_NoLine_NoSource : PySem.W.kitOne K (.ref C_NoSource) (.ref C_NoLine) = some false)
    (q_NoLine_NoTable : PySem.W.kitOne K (.ref C_NoTable) (.ref C_NoLine) = some false)
    (q_NoLine_NoDeed : PySem.W.kitOne K (.ref C_NoDeed) (.ref C_NoLine) = some false)
    (q_NoLine_Clash : PySem.W.kitOne K (.ref C_Clash) (.ref C_NoLine) = some false)
    (q_NoRow_NoFit : PySem.W.kitOne K (.ref C_NoFit) (.ref C_NoRow) = some false)
    (q_NoRow_NoText : PySem.W.kitOne K (.ref C_NoText) (.ref C_NoRow) = some false)
    (q_NoRow_NoLine : PySem.W.kitOne K (.ref C_NoLine) (.ref C_NoRow) = some false)
    (q_NoRow_NoRow : PySem.W.kitOne K (.ref C_NoRow) (.ref C_NoRow) = some true)
    (q_NoRow_NoCell : PySem.W.kitOne K (.ref C_NoCell) (.ref C_NoRow) = some false)
    (q_NoRow_NoOrder : PySem.W.kitOne K (.ref C_NoOrder) (.ref C_NoRow) = some false)
    (q_NoRow_NoThing : PySem.W.kitOne K (.ref C_NoThing) (.ref C_NoRow) = some false)
    (q_NoRow_NoSource : PySem.W.kitOne K (.ref C_NoSource) (.ref C_NoRow) = some false)
    (q_NoRow_NoTable : PySem.W.kitOne K (.ref C_NoTable) (.ref C_NoRow) = some false)
    (q_NoRow_NoDeed : PySem.W.kitOne K (.ref C_NoDeed) (.ref C_NoRow) = some false)
    (q_NoRow_Clash : PySem.W.kitOne K (.ref C_Clash) (.ref C_NoRow) = some false)
    (q_NoCell_NoFit : PySem.W.kitOne K (.ref C_NoFit) (.ref C_NoCell) = some false)
    (q_NoCell_NoText : PySem.W.kitOne K (.ref C_NoText) (.ref C_NoCell) = some false)
    (q_NoCell_NoLine : PySem.W.kitOne K (.ref C_NoLine) (.ref C_NoCell) = some false)
    (q_NoCell_NoRow : PySem.W.kitOne K (.ref C_NoRow) (.ref C_NoCell) = some false)
    (q_NoCell_NoCell : PySem.W.kitOne K (.ref C_NoCell) (.ref C_NoCell) = some true)
    (q_NoCell_NoOrder : PySem.W.kitOne K (.ref C_NoOrder) (.ref C_NoCell) = some false)
    (q_NoCell_NoThing : PySem.W.kitOne K (.ref C_NoThing) (.ref C_NoCell) = some false)
    (q_NoCell_NoSource : PySem.W.kitOne K (.ref C_NoSource) (.ref C_NoCell) = some false)
    (q_NoCell_NoTable : PySem.W.kitOne K (.ref C_NoTable) (.ref C_NoCell) = some false)
    (q_NoCell_NoDeed : PySem.W.kitOne K (.ref C_NoDeed) (.ref C_NoCell) = some false)
    (q_NoCell_Clash : PySem.W.kitOne K (.ref C_Clash) (.ref C_NoCell) = some false)
    (q_NoOrder_NoFit : PySem.W.kitOne K (.ref C_NoFit) (.ref C_NoOrder) = some false)
    (q_NoOrder_NoText : PySem.W.kitOne K (.ref C_NoText) (.ref C_NoOrder) = some false)
    (q_NoOrder_NoLine : PySem.W.kitOne K (.ref C_NoLine) (.ref C_NoOrder) = some false)
    (q_NoOrder_NoRow : PySem.W.kitOne K (.ref C_NoRow) (.ref C_NoOrder) = some false)
    (q_NoOrder_NoCell : PySem.W.kitOne K (.ref C_NoCell) (.ref C_NoOrder) = some false)
    (q_NoOrder_NoOrder : PySem.W.kitOne K (.ref C_NoOrder) (.ref C_NoOrder) = some true)
    (q_NoOrder_NoThing : PySem.W.kitOne K (.ref C_NoThing) (.ref C_NoOrder) = some false)
    (q_NoOrder_NoSource : PySem.W.kitOne K (.ref C_NoSource) (.ref C_NoOrder) = some false)
    (q_NoOrder_NoTable : PySem.W.kitOne K (.ref C_NoTable) (.ref C_NoOrder) = some false)
    (q_NoOrder_NoDeed : PySem.W.kitOne K (.ref C_NoDeed) (.ref C_NoOrder) = some false)
    (q_NoOrder_Clash : PySem.W.kitOne K (.ref C_Clash) (.ref C_NoOrder) = some false)
    (q_NoThing_NoFit : PySem.W.kitOne K (.ref C_NoFit) (.ref C_NoThing) = some false)
    (q_NoThing_NoText : PySem.W.kitOne K (.ref C_NoText) (.ref C_NoThing) = some false)
    (q_NoThing_NoLine : PySem.W.kitOne K (.ref C_NoLine) (.ref C_NoThing) = some false)
    (q_NoThing_NoRow : PySem.W.kitOne K (.ref C_NoRow) (.ref C_NoThing) = some false)
    (q_NoThing_NoCell : PySem.W.kitOne K (.ref C_NoCell) (.ref C_NoThing) = some false)
    (q_NoThing_NoOrder : PySem.W.kitOne K (.ref C_NoOrder) (.ref C_NoThing) = some false)
    (q_NoThing_NoThing : PySem.W.kitOne K (.ref C_NoThing) (.ref C_NoThing) = some true)
    (q_NoThing_NoSource : PySem.W.kitOne K (.ref C_NoSource) (.ref C_NoThing) = some false)
    (q_NoThing_NoTable : PySem.W.kitOne K (.ref C_NoTable) (.ref C_NoThing) = some false)
    (q_NoThing_NoDeed : PySem.W.kitOne K (.ref C_NoDeed) (.ref C_NoThing) = some false)
    (q_NoThing_Clash : PySem.W.kitOne K (.ref C_Clash) (.ref C_NoThing) = some false)
    (q_NoSource_NoFit : PySem.W.kitOne K (.ref C_NoFit) (.ref C_NoSource) = some false)
    (q_NoSource_NoText : PySem.W.kitOne K (.ref C_NoText) (.ref C_NoSource) = some false)
    (q_NoSource_NoLine : PySem.W.kitOne K (.ref C_NoLine) (.ref C_NoSource) = some false)
    (q_NoSource_NoRow : PySem.W.kitOne K (.ref C_NoRow) (.ref C_NoSource) = some false)
    (q_NoSource_NoCell : PySem.W.kitOne K (.ref C_NoCell) (.ref C_NoSource) = some false)
    (q_NoSource_NoOrder : PySem.W.kitOne K (.ref C_NoOrder) (.ref C_NoSource) = some false)
    (q_NoSource_NoThing : PySem.W.kitOne K (.ref C_NoThing) (.ref C_NoSource) = some false)
    (q_NoSource_NoSource : PySem.W.kitOne K (.ref C_NoSource) (.ref C_NoSource) = some true)
    (q_NoSource_NoTable : PySem.W.kitOne K (.ref C_NoTable) (.ref C_NoSource) = some false)
    (q_NoSource_NoDeed : PySem.W.kitOne K (.ref C_NoDeed) (.ref C_NoSource) = some false)
    (q_NoSource_Clash : PySem.W.kitOne K (.ref C_Clash) (.ref C_NoSource) = some false)
    (q_NoTable_NoFit : PySem.W.kitOne K (.ref C_NoFit) (.ref C_NoTable) = some false)
    (q_NoTable_NoText : PySem.W.kitOne K (.ref C_NoText) (.ref C_NoTable) = some false)
    (q_NoTable_NoLine : PySem.W.kitOne K (.ref C_NoLine) (.ref C_NoTable) = some false)
    (q_NoTable_NoRow : PySem.W.kitOne K (.ref C_NoRow) (.ref C_NoTable) = some false)
    (q_NoTable_NoCell : PySem.W.kitOne K (.ref C_NoCell) (.ref C_NoTable) = some false)
    (q_NoTable_NoOrder : PySem.W.kitOne K (.ref C_NoOrder) (.ref C_NoTable) = some false)
    (q_NoTable_NoThing : PySem.W.kitOne K (.ref C_NoThing) (.ref C_NoTable) = some false)
    (q_NoTable_NoSource : PySem.W.kitOne K (.ref C_NoSource) (.ref C_NoTable) = some false)
    (q_NoTable_NoTable : PySem.W.kitOne K (.ref C_NoTable) (.ref C_NoTable) = some true)
    (q_NoTable_NoDeed : PySem.W.kitOne K (.ref C_NoDeed) (.ref C_NoTable) = some false)
    (q_NoTable_Clash : PySem.W.kitOne K (.ref C_Clash) (.ref C_NoTable) = some false)
    (q_NoDeed_NoFit : PySem.W.kitOne K (.ref C_NoFit) (.ref C_NoDeed) = some false)
    (q_NoDeed_NoText : PySem.W.kitOne K (.ref C_NoText) (.ref C_NoDeed) = some false)
    (q_NoDeed_NoLine : PySem.W.kitOne K (.ref C_NoLine) (.ref C_NoDeed) = some false)
    (q_NoDeed_NoRow : PySem.W.kitOne K (.ref C_NoRow) (.ref C_NoDeed) = some false)
    (q_NoDeed_NoCell : PySem.W.kitOne K (.ref C_NoCell) (.ref C_NoDeed) = some false)
    (q_NoDeed_NoOrder : PySem.W.kitOne K (.ref C_NoOrder) (.ref C_NoDeed) = some false)
    (q_NoDeed_NoThing : PySem.W.kitOne K (.ref C_NoThing) (.ref C_NoDeed) = some false)
    (q_NoDeed_NoSource : PySem.W.kitOne K (.ref C_NoSource) (.ref C_NoDeed) = some false)
    (q_NoDeed_NoTable : PySem.W.kitOne K (.ref C_NoTable) (.ref C_NoDeed) = some false)
    (q_NoDeed_NoDeed : PySem.W.kitOne K (.ref C_NoDeed) (.ref C_NoDeed) = some true)
    (q_NoDeed_Clash : PySem.W.kitOne K (.ref C_Clash) (.ref C_NoDeed) = some false)
    (q_Clash_NoFit : PySem.W.kitOne K (.ref C_NoFit) (.ref C_Clash) = some false)
    (q_Clash_NoText : PySem.W.kitOne K (.ref C_NoText) (.ref C_Clash) = some false)
    (q_Clash_NoLine : PySem.W.kitOne K (.ref C_NoLine) (.ref C_Clash) = some false)
    (q_Clash_NoRow : PySem.W.kitOne K (.ref C_NoRow) (.ref C_Clash) = some false)
    (q_Clash_NoCell : PySem.W.kitOne K (.ref C_NoCell) (.ref C_Clash) = some false)
    (q_Clash_NoOrder : PySem.W.kitOne K (.ref C_NoOrder) (.ref C_Clash) = some false)
    (q_Clash_NoThing : PySem.W.kitOne K (.ref C_NoThing) (.ref C_Clash) = some false)
    (q_Clash_NoSource : PySem.W.kitOne K (.ref C_NoSource) (.ref C_Clash) = some false)
    (q_Clash_NoTable : PySem.W.kitOne K (.ref C_NoTable) (.ref C_Clash) = some false)
    (q_Clash_NoDeed : PySem.W.kitOne K (.ref C_NoDeed) (.ref C_Clash) = some false)
    (q_Clash_Clash : PySem.W.kitOne K (.ref C_Clash) (.ref C_Clash) = some true)
    (q_NotSuch_NoFit : PySem.W.kitOne K (.ref C_NoFit) (.ref C_NotSuch) = some true)
    (q_NotSuch_NoText : PySem.W.kitOne K (.ref C_NoText) (.ref C_NotSuch) = some true)
    (q_NotSuch_NoLine : PySem.W.kitOne K (.ref C_NoLine) (.ref C_NotSuch) = some true)
    (q_NotSuch_NoRow : PySem.W.kitOne K (.ref C_NoRow) (.ref C_NotSuch) = some false)
    (q_NotSuch_NoCell : PySem.W.kitOne K (.ref C_NoCell) (.ref C_NotSuch) = some false)
    (q_NotSuch_NoOrder : PySem.W.kitOne K (.ref C_NoOrder) (.ref C_NotSuch) = some false)
    (q_NotSuch_NoThing : PySem.W.kitOne K (.ref C_NoThing) (.ref C_NotSuch) = some false)
    (q_NotSuch_NoSource : PySem.W.kitOne K (.ref C_NoSource) (.ref C_NotSuch) = some false)
    (q_NotSuch_NoTable : PySem.W.kitOne K (.ref C_NoTable) (.ref C_NotSuch) = some false)
    (q_NotSuch_NoDeed : PySem.W.kitOne K (.ref C_NoDeed) (.ref C_NotSuch) = some false)
    (q_NotSuch_Clash : PySem.W.kitOne K (.ref C_Clash) (.ref C_NotSuch) = some false)
    (q_Lost_NoFit : PySem.W.kitOne K (.ref C_NoFit) (.ref C_Lost) = some false)
    (q_Lost_NoText : PySem.W.kitOne K (.ref C_NoText) (.ref C_Lost) = some false)
    (q_Lost_NoLine : PySem.W.kitOne K (.ref C_NoLine) (.ref C_Lost) = some false)
    (q_Lost_NoRow : PySem.W.kitOne K (.ref C_NoRow) (.ref C_Lost) = some true)
    (q_Lost_NoCell : PySem.W.kitOne K (.ref C_NoCell) (.ref C_Lost) = some true)
    (q_Lost_NoOrder : PySem.W.kitOne K (.ref C_NoOrder) (.ref C_Lost) = some true)
    (q_Lost_NoThing : PySem.W.kitOne K (.ref C_NoThing) (.ref C_Lost) = some true)
    (q_Lost_NoSource : PySem.W.kitOne K (.ref C_NoSource) (.ref C_Lost) = some true)
    (q_Lost_NoTable : PySem.W.kitOne K (.ref C_NoTable) (.ref C_Lost) = some true)
    (q_Lost_NoDeed : PySem.W.kitOne K (.ref C_NoDeed) (.ref C_Lost) = some true)
    (q_Lost_Clash : PySem.W.kitOne K (.ref C_Clash) (.ref C_Lost) = some false)
    (q_Shut_NoFit : PySem.W.kitOne K (.ref C_NoFit) (.ref C_Shut) = some false)
    (q_Shut_NoText : PySem.W.kitOne K (.ref C_NoText) (.ref C_Shut) = some false)
    (q_Shut_NoLine : PySem.W.kitOne K (.ref C_NoLine) (.ref C_Shut) = some false)
    (q_Shut_NoRow : PySem.W.kitOne K (.ref C_NoRow) (.ref C_Shut) = some false)
    (q_Shut_NoCell : PySem.W.kitOne K (.ref C_NoCell) (.ref C_Shut) = some false)
    (q_Shut_NoOrder : PySem.W.kitOne K (.ref C_NoOrder) (.ref C_Shut) = some false)
    (q_Shut_NoThing : PySem.W.kitOne K (.ref C_NoThing) (.ref C_Shut) = some false)
    (q_Shut_NoSource : PySem.W.kitOne K (.ref C_NoSource) (.ref C_Shut) = some false)
    (q_Shut_NoTable : PySem.W.kitOne K (.ref C_NoTable) (.ref C_Shut) = some false)
    (q_Shut_NoDeed : PySem.W.kitOne K (.ref C_NoDeed) (.ref C_Shut) = some false)
    (q_Shut_Clash : PySem.W.kitOne K (.ref C_Clash) (.ref C_Shut) = some true)
    (q_ValueError_NoFit : PySem.W.kitOne K (.ref C_NoFit) (.type "ValueError") = some true)
    (q_ValueError_NoText : PySem.W.kitOne K (.ref C_NoText) (.type "ValueError") = some true)
    (q_ValueError_NoLine : PySem.W.kitOne K (.ref C_NoLine) (.type "ValueError") = some true)
    (q_ValueError_NoRow : PySem.W.kitOne K (.ref C_NoRow) (.type "ValueError") = some false)
    (q_ValueError_NoCell : PySem.W.kitOne K (.ref C_NoCell) (.type "ValueError") = some false)
    (q_ValueError_NoOrder : PySem.W.kitOne K (.ref C_NoOrder) (.type "ValueError") = some false)
    (q_ValueError_NoThing : PySem.W.kitOne K (.ref C_NoThing) (.type "ValueError") = some false)
    (q_ValueError_NoSource : PySem.W.kitOne K (.ref C_NoSource) (.type "ValueError") = some false)
    (q_ValueError_NoTable : PySem.W.kitOne K (.ref C_NoTable) (.type "ValueError") = some false)
    (q_ValueError_NoDeed : PySem.W.kitOne K (.ref C_NoDeed) (.type "ValueError") = some false)
    (q_ValueError_Clash : PySem.W.kitOne K (.ref C_Clash) (.type "ValueError") = some false)
    (q_LookupError_NoFit : PySem.W.kitOne K (.ref C_NoFit) (.type "LookupError") = some false)
    (q_LookupError_NoText : PySem.W.kitOne K (.ref C_NoText) (.type "LookupError") = some false)
    (q_LookupError_NoLine : PySem.W.kitOne K (.ref C_NoLine) (.type "LookupError") = some false)
    (q_LookupError_NoRow : PySem.W.kitOne K (.ref C_NoRow) (.type "LookupError") = some true)
    (q_LookupError_NoCell : PySem.W.kitOne K (.ref C_NoCell) (.type "LookupError") = some true)
    (q_LookupError_NoOrder : PySem.W.kitOne K (.ref C_NoOrder) (.type "LookupError") = some true)
    (q_LookupError_NoThing : PySem.W.kitOne K (.ref C_NoThing) (.type "LookupError") = some true)
    (q_LookupError_NoSource : PySem.W.kitOne K (.ref C_NoSource) (.type "LookupError") = some true)
    (q_LookupError_NoTable : PySem.W.kitOne K (.ref C_NoTable) (.type "LookupError") = some true)
    (q_LookupError_NoDeed : PySem.W.kitOne K (.ref C_NoDeed) (.type "LookupError") = some true)
    (q_LookupError_Clash : PySem.W.kitOne K (.ref C_Clash) (.type "LookupError") = some false)
    (q_RuntimeError_NoFit : PySem.W.kitOne K (.ref C_NoFit) (.type "RuntimeError") = some false)
    (q_RuntimeError_NoText : PySem.W.kitOne K (.ref C_NoText) (.type "RuntimeError") = some false)
    (q_RuntimeError_NoLine : PySem.W.kitOne K (.ref C_NoLine) (.type "RuntimeError") = some false)
    (q_RuntimeError_NoRow : PySem.W.kitOne K (.ref C_NoRow) (.type "RuntimeError") = some false)
    (q_RuntimeError_NoCell : PySem.W.kitOne K (.ref C_NoCell) (.type "RuntimeError") = some false)
    (q_RuntimeError_NoOrder : PySem.W.kitOne K (.ref C_NoOrder) (.type "RuntimeError") = some false)
    (q_RuntimeError_NoThing : PySem.W.kitOne K (.ref C_NoThing) (.type "RuntimeError") = some false)
    (q_RuntimeError_NoSource : PySem.W.kitOne K (.ref C_NoSource) (.type "RuntimeError") = some false)
    (q_RuntimeError_NoTable : PySem.W.kitOne K (.ref C_NoTable) (.type "RuntimeError") = some false)
    (q_RuntimeError_NoDeed : PySem.W.kitOne K (.ref C_NoDeed) (.type "RuntimeError") = some false)
    (q_RuntimeError_Clash : PySem.W.kitOne K (.ref C_Clash) (.type "RuntimeError") = some true)
    (mb_NotSuch : PySem.W.subIn K (.ref C_NotSuch) (.type "BaseException") = some true)
    (md_NotSuch : PySem.W.hasDictIn K C_NotSuch = true)
    (mt_NotSuch : PySem.W.typeIn K (.ref C_NotSuch) = some (.type "type"))
    (u_NotSuch_NoFit : PySem.W.subIn K (.ref C_NoFit) (.ref C_NotSuch) = some true)
    (u_NotSuch_NoText : PySem.W.subIn K (.ref C_NoText) (.ref C_NotSuch) = some true)
    (u_NotSuch_NoLine : PySem.W.subIn K (.ref C_NoLine) (.ref C_NotSuch) = some true)
    (u_NotSuch_NoRow : PySem.W.subIn K (.ref C_NoRow) (.ref C_NotSuch) = some false)
    (u_NotSuch_NoCell : PySem.W.subIn K (.ref C_NoCell) (.ref C_NotSuch) = some false)
    (u_NotSuch_NoOrder : PySem.W.subIn K (.ref C_NoOrder) (.ref C_NotSuch) = some false)
    (u_NotSuch_NoThing : PySem.W.subIn K (.ref C_NoThing) (.ref C_NotSuch) = some false)
    (u_NotSuch_NoSource : PySem.W.subIn K (.ref C_NoSource) (.ref C_NotSuch) = some false)
    (u_NotSuch_NoTable : PySem.W.subIn K (.ref C_NoTable) (.ref C_NotSuch) = some false)
    (u_NotSuch_NoDeed : PySem.W.subIn K (.ref C_NoDeed) (.ref C_NotSuch) = some false)
    (u_NotSuch_Clash : PySem.W.subIn K (.ref C_Clash) (.ref C_NotSuch) = some false)
    (mb_Lost : PySem.W.subIn K (.ref C_Lost) (.type "BaseException") = some true)
    (md_Lost : PySem.W.hasDictIn K C_Lost = true)
    (mt_Lost : PySem.W.typeIn K (.ref C_Lost) = some (.type "type"))
    (u_Lost_NoFit : PySem.W.subIn K (.ref C_NoFit) (.ref C_Lost) = some false)
    (u_Lost_NoText : PySem.W.subIn K (.ref C_NoText) (.ref C_Lost) = some false)
    (u_Lost_NoLine : PySem.W.subIn K (.ref C_NoLine) (.ref C_Lost) = some false)
    (u_Lost_NoRow : PySem.W.subIn K (.ref C_NoRow) (.ref C_Lost) = some true)
    (u_Lost_NoCell : PySem.W.subIn K (.ref C_NoCell) (.ref C_Lost) = some true)
    (u_Lost_NoOrder : PySem.W.subIn K (.ref C_NoOrder) (.ref C_Lost) = some true)
    (u_Lost_NoThing : PySem.W.subIn K (.ref C_NoThing) (.ref C_Lost) = some true)
    (u_Lost_NoSource : PySem.W.subIn K (.ref C_NoSource) (.ref C_Lost) = some true)
    (u_Lost_NoTable : PySem.W.subIn K (.ref C_NoTable) (.ref C_Lost) = some true)
    (u_Lost_NoDeed : PySem.W.subIn K (.ref C_NoDeed) (.ref C_Lost) = some true)
    (u_Lost_Clash : PySem.W.subIn K (.ref C_Clash) (.ref C_Lost) = some false)
    (mb_Shut : PySem.W.subIn K (.ref C_Shut) (.type "BaseException") = some true)
    (md_Shut : PySem.W.hasDictIn K C_Shut = true)
    (mt_Shut : PySem.W.typeIn K (.ref C_Shut) = some (.type "type"))
    (u_Shut_NoFit : PySem.W.subIn K (.ref C_NoFit) (.ref C_Shut) = some false)
    (u_Shut_NoText : PySem.W.subIn K (.ref C_NoText) (.ref C_Shut) = some false)
    (u_Shut_NoLine : PySem.W.subIn K (.ref C_NoLine) (.ref C_Shut) = some false)
    (u_Shut_NoRow : PySem.W.subIn K (.ref C_NoRow) (.ref C_Shut) = some false)
    (u_Shut_NoCell : PySem.W.subIn K (.ref C_NoCell) (.ref C_Shut) = some false)
    (u_Shut_NoOrder : PySem.W.subIn K (.ref C_NoOrder) (.ref C_Shut) = some false)
    (u_Shut_NoThing : PySem.W.subIn K (.ref C_NoThing) (.ref C_Shut) = some false)
    (u_Shut_NoSource : PySem.W.subIn K (.ref C_NoSource) (.ref C_Shut) = some false)
    (u_Shut_NoTable : PySem.W.subIn K (.ref C_NoTable) (.ref C_Shut) = some false)
    (u_Shut_NoDeed : PySem.W.subIn K (.ref C_NoDeed) (.ref C_Shut) = some false)
    (u_Shut_Clash : PySem.W.subIn K (.ref C_Clash) (.ref C_Shut) = some true)
    (a_l_take : PySem.W.nsIn K mainGlobals "_law_take" = some (some (.ref f_l_take)))
    (l_l_take : K.lookup f_l_take = some ⟨oc_l_take, od_l_take, .func (PySem.W.fnOf "_law_take" "_law_take" (defArgs s_l_take) (defBody s_l_take) (defScope s_l_take) .none kV_l_take dc_l_take pm_l_take an_l_take cd_l_take ct_l_take), sl_l_take⟩)
    (c_l_take : PySem.W.codeIn K cd_l_take "_law_take" = true)
    (k_l_take : PySem.W.keepIn K (.ref f_l_take) = true)
    (a_l_pick : PySem.W.nsIn K mainGlobals "_law_pick" = some (some (.ref f_l_pick)))
    (l_l_pick : K.lookup f_l_pick = some ⟨oc_l_pick, od_l_pick, .func (PySem.W.fnOf "_law_pick" "_law_pick" (defArgs s_l_pick) (defBody s_l_pick) (defScope s_l_pick) .none kV_l_pick dc_l_pick pm_l_pick an_l_pick cd_l_pick ct_l_pick), sl_l_pick⟩)
    (c_l_pick : PySem.W.codeIn K cd_l_pick "_law_pick" = true)
    (k_l_pick : PySem.W.keepIn K (.ref f_l_pick) = true)
    (a_l_thing : PySem.W.nsIn K mainGlobals "_law_thing" = some (some (.ref f_l_thing)))
    (l_l_thing : K.lookup f_l_thing = some ⟨oc_l_thing, od_l_thing, .func (PySem.W.fnOf "_law_thing" "_law_thing" (defArgs s_l_thing) (defBody s_l_thing) (defScope s_l_thing) .none kV_l_thing dc_l_thing pm_l_thing an_l_thing cd_l_thing ct_l_thing), sl_l_thing⟩)
    (c_l_thing : PySem.W.codeIn K cd_l_thing "_law_thing" = true)
    (k_l_thing : PySem.W.keepIn K (.ref f_l_thing) = true)
    (a_l_by_places : PySem.W.nsIn K mainGlobals "_law_by_places" = some (some (.ref f_l_by_places)))
    (l_l_by_places : K.lookup f_l_by_places = some ⟨oc_l_by_places, od_l_by_places, .func (PySem.W.fnOf "_law_by_places" "_law_by_places" (defArgs s_l_by_places) (defBody s_l_by_places) (defScope s_l_by_places) .none kV_l_by_places dc_l_by_places pm_l_by_places an_l_by_places cd_l_by_places ct_l_by_places), sl_l_by_places⟩)
    (c_l_by_places : PySem.W.codeIn K cd_l_by_places "_law_by_places" = true)
    (k_l_by_places : PySem.W.keepIn K (.ref f_l_by_places) = true)
    (a_l_by_names : PySem.W.nsIn K mainGlobals "_law_by_names" = some (some (.ref f_l_by_names)))
    (l_l_by_names : K.lookup f_l_by_names = some ⟨oc_l_by_names, od_l_by_names, .func (PySem.W.fnOf "_law_by_names" "_law_by_names" (defArgs s_l_by_names) (defBody s_l_by_names) (defScope s_l_by_names) .none kV_l_by_names dc_l_by_names pm_l_by_names an_l_by_names cd_l_by_names ct_l_by_names), sl_l_by_names⟩)
    (c_l_by_names : PySem.W.codeIn K cd_l_by_names "_law_by_names" = true)
    (k_l_by_names : PySem.W.keepIn K (.ref f_l_by_names) = true)
    (a_l_classes : PySem.W.nsIn K mainGlobals "_law_classes" = some (some (.ref f_l_classes)))
    (l_l_classes : K.lookup f_l_classes = some ⟨oc_l_classes, od_l_classes, .func (PySem.W.fnOf "_law_classes" "_law_classes" (defArgs s_l_classes) (defBody s_l_classes) (defScope s_l_classes) .none kV_l_classes dc_l_classes pm_l_classes an_l_classes cd_l_classes ct_l_classes), sl_l_classes⟩)
    (c_l_classes : PySem.W.codeIn K cd_l_classes "_law_classes" = true)
    (k_l_classes : PySem.W.keepIn K (.ref f_l_classes) = true)
    (a_l_families : PySem.W.nsIn K mainGlobals "_law_families" = some (some (.ref f_l_families)))
    (l_l_families : K.lookup f_l_families = some ⟨oc_l_families, od_l_families, .func (PySem.W.fnOf "_law_families" "_law_families" (defArgs s_l_families) (defBody s_l_families) (defScope s_l_families) .none kV_l_families dc_l_families pm_l_families an_l_families cd_l_families ct_l_families), sl_l_families⟩)
    (c_l_families : PySem.W.codeIn K cd_l_families "_law_families" = true)
    (k_l_families : PySem.W.keepIn K (.ref f_l_families) = true)
    (a_l_values : PySem.W.nsIn K mainGlobals "_law_values" = some (some (.ref f_l_values)))
    (l_l_values : K.lookup f_l_values = some ⟨oc_l_values, od_l_values, .func (PySem.W.fnOf "_law_values" "_law_values" (defArgs s_l_values) (defBody s_l_values) (defScope s_l_values) .none kV_l_values dc_l_values pm_l_values an_l_values cd_l_values ct_l_values), sl_l_values⟩)
    (c_l_values : PySem.W.codeIn K cd_l_values "_law_values" = true)
    (k_l_values : PySem.W.keepIn K (.ref f_l_values) = true)
    (a_l_raised : PySem.W.nsIn K mainGlobals "_law_raised" = some (some (.ref f_l_raised)))
    (l_l_raised : K.lookup f_l_raised = some ⟨oc_l_raised, od_l_raised, .func (PySem.W.fnOf "_law_raised" "_law_raised" (defArgs s_l_raised) (defBody s_l_raised) (defScope s_l_raised) .none kV_l_raised dc_l_raised pm_l_raised an_l_raised cd_l_raised ct_l_raised), sl_l_raised⟩)
    (c_l_raised : PySem.W.codeIn K cd_l_raised "_law_raised" = true)
    (k_l_raised : PySem.W.keepIn K (.ref f_l_raised) = true)
    (a_l_right : PySem.W.nsIn K mainGlobals "_law_right" = some (some (.ref f_l_right)))
    (l_l_right : K.lookup f_l_right = some ⟨oc_l_right, od_l_right, .func (PySem.W.fnOf "_law_right" "_law_right" (defArgs s_l_right) (defBody s_l_right) (defScope s_l_right) .none kV_l_right dc_l_right pm_l_right an_l_right cd_l_right ct_l_right), sl_l_right⟩)
    (c_l_right : PySem.W.codeIn K cd_l_right "_law_right" = true)
    (k_l_right : PySem.W.keepIn K (.ref f_l_right) = true)
    (a_l_hand : PySem.W.nsIn K mainGlobals "_law_hand" = some (some (.ref f_l_hand)))
    (l_l_hand : K.lookup f_l_hand = some ⟨oc_l_hand, od_l_hand, .func (PySem.W.fnOf "_law_hand" "_law_hand" (defArgs s_l_hand) (defBody s_l_hand) (defScope s_l_hand) .none kV_l_hand dc_l_hand pm_l_hand an_l_hand cd_l_hand ct_l_hand), sl_l_hand⟩)
    (c_l_hand : PySem.W.codeIn K cd_l_hand "_law_hand" = true)
    (k_l_hand : PySem.W.keepIn K (.ref f_l_hand) = true)
    (a_law : PySem.W.nsIn K mainGlobals "law" = some (some (.ref f_law)))
    (l_law : K.lookup f_law = some ⟨oc_law, od_law, .func (PySem.W.fnOf "law" "law" (defArgs s_law) (defBody s_law) (defScope s_law) .none kV_law dc_law pm_law an_law cd_law ct_law), sl_law⟩)
    (c_law : PySem.W.codeIn K cd_law "law" = true)
    (k_law : PySem.W.keepIn K (.ref f_law) = true)
    (zb_LookupError : PySem.W.nsIn K mainGlobals "LookupError" = some none)
    (zb_RuntimeError : PySem.W.nsIn K mainGlobals "RuntimeError" = some none)
    (zb_ValueError : PySem.W.nsIn K mainGlobals "ValueError" = some none)
    (zb_all : PySem.W.nsIn K mainGlobals "all" = some none)
    (zb_enumerate : PySem.W.nsIn K mainGlobals "enumerate" = some none)
    (zb_int : PySem.W.nsIn K mainGlobals "int" = some none)
    (zb_isinstance : PySem.W.nsIn K mainGlobals "isinstance" = some none)
    (zb_len : PySem.W.nsIn K mainGlobals "len" = some none)
    (zb_min : PySem.W.nsIn K mainGlobals "min" = some none)
    (zb_range : PySem.W.nsIn K mainGlobals "range" = some none)
    (zb_repr : PySem.W.nsIn K mainGlobals "repr" = some none)
    (law_right : ∀ ns : List Int, ns.length ≤ 63 → (∀ i ∈ ns, Builtin.Int.intBits i ≤ 1048576) → ∃ μ', F_law [.d (.list (ns.map PyData.int))] [] = .ok (.d (.bool true)) μ') :
    ∃ (fd : FuncData) (G : GT) (F : OpN), G.K = K ∧ (∀ (s : Shared) (u : Value), BindsTo s fd ⟨[u], []⟩ [("_law_script", u)]) ∧ (∀ base : Heap, K.In base → base.Ns mainGlobals mg → FnG l.prog w K mg base 5 fa fd ["_law_script"] (spD G 1 F)) ∧
      ∀ ns : List Int, ns.length ≤ 63 → (∀ i ∈ ns, Builtin.Int.intBits i ≤ 1048576) → ∃ μ', F [.d (.list (ns.map PyData.int))] [] = .ok (.d (.bool true)) μ' := by
  have e := hfa.symm.trans (PySem.W.mg_of X G a_law)
  cases e
  have T : Tx K mg := ⟨PySem.W.mg_none_of X G zb_LookupError, PySem.W.mg_none_of X G zb_RuntimeError, PySem.W.mg_none_of X G zb_ValueError, PySem.W.mg_none_of X G zb_all, PySem.W.mg_none_of X G zb_enumerate, PySem.W.mg_none_of X G zb_int, PySem.W.mg_none_of X G zb_isinstance, PySem.W.mg_none_of X G zb_len, PySem.W.mg_none_of X G zb_min, PySem.W.mg_none_of X G zb_range, PySem.W.mg_none_of X G zb_repr⟩
  have F_l_take := fun_mk (st := s_l_take) l_l_take c_l_take k_l_take
  have F_l_pick := fun_mk (st := s_l_pick) l_l_pick c_l_pick k_l_pick
  have F_l_thing := fun_mk (st := s_l_thing) l_l_thing c_l_thing k_l_thing
  have F_l_by_places := fun_mk (st := s_l_by_places) l_l_by_places c_l_by_places k_l_by_places
  have F_l_by_names := fun_mk (st := s_l_by_names) l_l_by_names c_l_by_names k_l_by_names
  have F_l_classes := fun_mk (st := s_l_classes) l_l_classes c_l_classes k_l_classes
  have F_l_families := fun_mk (st := s_l_families) l_l_families c_l_families k_l_families
  have F_l_values := fun_mk (st := s_l_values) l_l_values c_l_values k_l_values
  have F_l_raised := fun_mk (st := s_l_raised) l_l_raised c_l_raised k_l_raised
  have F_l_right := fun_mk (st := s_l_right) l_l_right c_l_right k_l_right
  have F_l_hand := fun_mk (st := s_l_hand) l_l_hand c_l_hand k_l_hand
  have F_law := fun_mk (st := s_law) l_law c_law k_law
  let fa0 : Nat → Option Addr := fun n => ([C_NoFit, C_NoText, C_NoLine, C_NoRow, C_NoCell, C_NoOrder, C_NoThing, C_NoSource, C_NoTable, C_NoDeed, C_Clash] : List Addr)[n]?
  refine ⟨PySem.W.fnOf "law" "law" (defArgs s_law) (defBody s_law) (defScope s_law) .none kV_law dc_law pm_law an_law cd_law ct_law, GG K fa0, LW.F_law, rfl, fun s v => .of_eq rfl, fun base _ _ => ?_, law_right⟩
  have BX_NotSuch : BaseX K mg "NotSuch" "ValueError.__init__" := ⟨_, PySem.W.mg_of X G a_NotSuch, g1_NotSuch, g2_NotSuch, g3_NotSuch, by decide +kernel⟩
  have BX_Lost : BaseX K mg "Lost" "LookupError.__init__" := ⟨_, PySem.W.mg_of X G a_Lost, g1_Lost, g2_Lost, g3_Lost, by decide +kernel⟩
  have BX_Shut : BaseX K mg "Shut" "RuntimeError.__init__" := ⟨_, PySem.W.mg_of X G a_Shut, g1_Shut, g2_Shut, g3_Shut, by decide +kernel⟩
  have F_NoFit_init := fun_mk (st := s_NoFit_init) l_NoFit_init c_NoFit_init k_NoFit_init
  have OX_NoFit : OexG K C_NoFit "ValueError.__init__" := OexG.ofV xl_NoFit xr_NoFit xs_NoFit xe_NoFit xt_NoFit xk_NoFit
  have EC_NoFit : ExcC K C_NoFit := ⟨eg_NoFit, ek_NoFit, xe_NoFit, ed_NoFit, ea_NoFit, en_x, et_x, em_NoFit⟩
  have NC_NoFit : NewC l.prog w (GG K fa0) mg base "NoFit" 0 1 ["worth"] ["self", "worth"] [(0, ["worth"], [0]), (1, [], [0])] := ⟨C_NoFit, f_NoFit_init, _, _, rfl, OX_NoFit, ai_NoFit, ti_NoFit, ok_NoFit_init F_NoFit_init OX_NoFit BX_NotSuch n0_NoFit, PySem.W.mg_of X G a_NoFit, fun q hq => by
    simp only [List.mem_cons, List.not_mem_nil, or_false] at hq
    rcases hq with rfl | rfl
    · intro s self us ws h1 h2
      match us, ws, h1, h2 with
      | [], [_], _, _ => exact .of_eq rfl
    · intro s self us ws h1 h2
      match us, ws, h1, h2 with
      | [_], [], _, _ => exact .of_eq rfl⟩
  have F_NoText_init := fun_mk (st := s_NoText_init) l_NoText_init c_NoText_init k_NoText_init
  have OX_NoText : OexG K C_NoText "ValueError.__init__" := OexG.ofV xl_NoText xr_NoText xs_NoText xe_NoText xt_NoText xk_NoText
  have EC_NoText : ExcC K C_NoText := ⟨eg_NoText, ek_NoText, xe_NoText, ed_NoText, ea_NoText, en_x, et_x, em_NoText⟩
  have NC_NoText : NewC l.prog w (GG K fa0) mg base "NoText" 1 1 ["row"] ["self", "row"] [(0, ["row"], [0]), (1, [], [0])] := ⟨C_NoText, f_NoText_init, _, _, rfl, OX_NoText, ai_NoText, ti_NoText, ok_NoText_init F_NoText_init OX_NoText BX_NotSuch n0_NoText, PySem.W.mg_of X G a_NoText, fun q hq => by
    simp only [List.mem_cons, List.not_mem_nil, or_false] at hq
    rcases hq with rfl | rfl
    · intro s self us ws h1 h2
      match us, ws, h1, h2 with
      | [], [_], _, _ => exact .of_eq rfl
    · intro s self us ws h1 h2
      match us, ws, h1, h2 with
      | [_], [], _, _ => exact .of_eq rfl⟩
  have F_NoLine_init := fun_mk (st := s_NoLine_init) l_NoLine_init c_NoLine_init k_NoLine_init
  have OX_NoLine : OexG K C_NoLine "ValueError.__init__" := OexG.ofV xl_NoLine xr_NoLine xs_NoLine xe_NoLine xt_NoLine xk_NoLine
  have EC_NoLine : ExcC K C_NoLine := ⟨eg_NoLine, ek_NoLine, xe_NoLine, ed_NoLine, ea_NoLine, en_x, et_x, em_NoLine⟩
  have NC_NoLine : NewC l.prog w (GG K fa0) mg base "NoLine" 2 1 ["line"] ["self", "line"] [(0, ["line"], [0]), (1, [], [0])] := ⟨C_NoLine, f_NoLine_init, _, _, rfl, OX_NoLine, ai_NoLine, ti_NoLine, ok_NoLine_init F_NoLine_init OX_NoLine BX_NotSuch n0_NoLine, PySem.W.mg_of X G a_NoLine, fun q hq => by
    simp only [List.mem_cons, List.not_mem_nil, or_false] at hq
    rcases hq with rfl | rfl
    · intro s self us ws h1 h2
      match us, ws, h1, h2 with
      | [], [_], _, _ => exact .of_eq rfl
    · intro s self us ws h1 h2
      match us, ws, h1, h2 with
      | [_], [], _, _ => exact .of_eq rfl⟩
  have F_NoRow_init := fun_mk (st := s_NoRow_init) l_NoRow_init c_NoRow_init k_NoRow_init
  have OX_NoRow : OexG K C_NoRow "LookupError.__init__" := OexG.ofL xl_NoRow xr_NoRow xs_NoRow xe_NoRow xt_NoRow xk_NoRow
  have EC_NoRow : ExcC K C_NoRow := ⟨eg_NoRow, ek_NoRow, xe_NoRow, ed_NoRow, ea_NoRow, en_x, et_x, em_NoRow⟩
  have NC_NoRow : NewC l.prog w (GG K fa0) mg base "NoRow" 3 1 ["row"] ["self", "row"] [(0, ["row"], [0]), (1, [], [0])] := ⟨C_NoRow, f_NoRow_init, _, _, rfl, OX_NoRow, ai_NoRow, ti_NoRow, ok_NoRow_init F_NoRow_init OX_NoRow BX_Lost n0_NoRow, PySem.W.mg_of X G a_NoRow, fun q hq => by
    simp only [List.mem_cons, List.not_mem_nil, or_false] at hq
    rcases hq with rfl | rfl
    · intro s self us ws h1 h2
      match us, ws, h1, h2 with
      | [], [_], _, _ => exact .of_eq rfl
    · intro s self us ws h1 h2
      match us, ws, h1, h2 with
      | [_], [], _, _ => exact .of_eq rfl⟩
  have F_NoCell_init := fun_mk (st := s_NoCell_init) l_NoCell_init c_NoCell_init k_NoCell_init
  have OX_NoCell : OexG K C_NoCell "LookupError.__init__" := OexG.ofL xl_NoCell xr_NoCell xs_NoCell xe_NoCell xt_NoCell xk_NoCell
  have EC_NoCell : ExcC K C_NoCell := ⟨eg_NoCell, ek_NoCell, xe_NoCell, ed_NoCell, ea_NoCell, en_x, et_x, em_NoCell⟩
  have NC_NoCell : NewC l.prog w (GG K fa0) mg base "NoCell" 4 1 ["number", "column"] ["self", "number", "column"] [(1, ["column"], [0, 1]), (0, ["column", "number"], [1, 0]), (2, [], [0, 1])] := ⟨C_NoCell, f_NoCell_init, _, _, rfl, OX_NoCell, ai_NoCell, ti_NoCell, ok_NoCell_init F_NoCell_init OX_NoCell BX_Lost n0_NoCell n1_NoCell, PySem.W.mg_of X G a_NoCell, fun q hq => by
    simp only [List.mem_cons, List.not_mem_nil, or_false] at hq
    rcases hq with rfl | rfl | rfl
    · intro s self us ws h1 h2
      match us, ws, h1, h2 with
      | [_], [_], _, _ => exact .of_eq rfl
    · intro s self us ws h1 h2
      match us, ws, h1, h2 with
      | [], [_, _], _, _ => exact .of_eq rfl
    · intro s self us ws h1 h2
      match us, ws, h1, h2 with
      | [_, _], [], _, _ => exact .of_eq rfl⟩
  have F_NoOrder_init := fun_mk (st := s_NoOrder_init) l_NoOrder_init c_NoOrder_init k_NoOrder_init
  have OX_NoOrder : OexG K C_NoOrder "LookupError.__init__" := OexG.ofL xl_NoOrder xr_NoOrder xs_NoOrder xe_NoOrder xt_NoOrder xk_NoOrder
  have EC_NoOrder : ExcC K C_NoOrder := ⟨eg_NoOrder, ek_NoOrder, xe_NoOrder, ed_NoOrder, ea_NoOrder, en_x, et_x, em_NoOrder⟩
  have NC_NoOrder : NewC l.prog w (GG K fa0) mg base "NoOrder" 5 1 ["which"] ["self", "which"] [(0, ["which"], [0]), (1, [], [0])] := ⟨C_NoOrder, f_NoOrder_init, _, _, rfl, OX_NoOrder, ai_NoOrder, ti_NoOrder, ok_NoOrder_init F_NoOrder_init OX_NoOrder BX_Lost n0_NoOrder, PySem.W.mg_of X G a_NoOrder, fun q hq => by
    simp only [List.mem_cons, List.not_mem_nil, or_false] at hq
    rcases hq with rfl | rfl
    · intro s self us ws h1 h2
      match us, ws, h1, h2 with
      | [], [_], _, _ => exact .of_eq rfl
    · intro s self us ws h1 h2
      match us, ws, h1, h2 with
      | [_], [], _, _ => exact .of_eq rfl⟩
  have F_NoThing_init := fun_mk (st := s_NoThing_init) l_NoThing_init c_NoThing_init k_NoThing_init
  have OX_NoThing : OexG K C_NoThing "LookupError.__init__" := OexG.ofL xl_NoThing xr_NoThing xs_NoThing xe_NoThing xt_NoThing xk_NoThing
  have EC_NoThing : ExcC K C_NoThing := ⟨eg_NoThing, ek_NoThing, xe_NoThing, ed_NoThing, ea_NoThing, en_x, et_x, em_NoThing⟩
  have NC_NoThing : NewC l.prog w (GG K fa0) mg base "NoThing" 6 1 ["thing"] ["self", "thing"] [(0, ["thing"], [0]), (1, [], [0])] := ⟨C_NoThing, f_NoThing_init, _, _, rfl, OX_NoThing, ai_NoThing, ti_NoThing, ok_NoThing_init F_NoThing_init OX_NoThing BX_Lost n0_NoThing, PySem.W.mg_of X G a_NoThing, fun q hq => by
    simp only [List.mem_cons, List.not_mem_nil, or_false] at hq
    rcases hq with rfl | rfl
    · intro s self us ws h1 h2
      match us, ws, h1, h2 with
      | [], [_], _, _ => exact .of_eq rfl
    · intro s self us ws h1 h2
      match us, ws, h1, h2 with
      | [_], [], _, _ => exact .of_eq rfl⟩
  have F_NoSource_init := fun_mk (st := s_NoSource_init) l_NoSource_init c_NoSource_init k_NoSource_init
  have OX_NoSource : OexG K C_NoSource "LookupError.__init__" := OexG.ofL xl_NoSource xr_NoSource xs_NoSource xe_NoSource xt_NoSource xk_NoSource
  have EC_NoSource : ExcC K C_NoSource := ⟨eg_NoSource, ek_NoSource, xe_NoSource, ed_NoSource, ea_NoSource, en_x, et_x, em_NoSource⟩
  have NC_NoSource : NewC l.prog w (GG K fa0) mg base "NoSource" 7 1 ["source"] ["self", "source"] [(0, ["source"], [0]), (1, [], [0])] := ⟨C_NoSource, f_NoSource_init, _, _, rfl, OX_NoSource, ai_NoSource, ti_NoSource, ok_NoSource_init F_NoSource_init OX_NoSource BX_Lost n0_NoSource, PySem.W.mg_of X G a_NoSource, fun q hq => by
    simp only [List.mem_cons, List.not_mem_nil, or_false] at hq
    rcases hq with rfl | rfl
    · intro s self us ws h1 h2
      match us, ws, h1, h2 with
      | [], [_], _, _ => exact .of_eq rfl
    · intro s self us ws h1 h2
      match us, ws, h1, h2 with
      | [_], [], _, _ => exact .of_eq rfl⟩
  have F_NoTable_init := fun_mk (st := s_NoTable_init) l_NoTable_init c_NoTable_init k_NoTable_init
  have OX_NoTable : OexG K C_NoTable "LookupError.__init__" := OexG.ofL xl_NoTable xr_NoTable xs_NoTable xe_NoTable xt_NoTable xk_NoTable
  have EC_NoTable : ExcC K C_NoTable := ⟨eg_NoTable, ek_NoTable, xe_NoTable, ed_NoTable, ea_NoTable, en_x, et_x, em_NoTable⟩
  have NC_NoTable : NewC l.prog w (GG K fa0) mg base "NoTable" 8 1 ["table"] ["self", "table"] [(0, ["table"], [0]), (1, [], [0])] := ⟨C_NoTable, f_NoTable_init, _, _, rfl, OX_NoTable, ai_NoTable, ti_NoTable, ok_NoTable_init F_NoTable_init OX_NoTable BX_Lost n0_NoTable, PySem.W.mg_of X G a_NoTable, fun q hq => by
    simp only [List.mem_cons, List.not_mem_nil, or_false] at hq
    rcases hq with rfl | rfl
    · intro s self us ws h1 h2
      match us, ws, h1, h2 with
      | [], [_], _, _ => exact .of_eq rfl
    · intro s self us ws h1 h2
      match us, ws, h1, h2 with
      | [_], [], _, _ => exact .of_eq rfl⟩
  have F_NoDeed_init := fun_mk (st := s_NoDeed_init) l_NoDeed_init c_NoDeed_init k_NoDeed_init
  have OX_NoDeed : OexG K C_NoDeed "LookupError.__init__" := OexG.ofL xl_NoDeed xr_NoDeed xs_NoDeed xe_NoDeed xt_NoDeed xk_NoDeed
  have EC_NoDeed : ExcC K C_NoDeed := ⟨eg_NoDeed, ek_NoDeed, xe_NoDeed, ed_NoDeed, ea_NoDeed, en_x, et_x, em_NoDeed⟩
  have NC_NoDeed : NewC l.prog w (GG K fa0) mg base "NoDeed" 9 1 [] ["self"] [(0, [], [])] := ⟨C_NoDeed, f_NoDeed_init, _, _, rfl, OX_NoDeed, ai_NoDeed, ti_NoDeed, ok_NoDeed_init F_NoDeed_init OX_NoDeed BX_Lost, PySem.W.mg_of X G a_NoDeed, fun q hq => by
    simp only [List.mem_cons, List.not_mem_nil, or_false] at hq
    rcases hq with rfl
    · intro s self us ws h1 h2
      match us, ws, h1, h2 with
      | [], [], _, _ => exact .of_eq rfl⟩
  have F_Clash_init := fun_mk (st := s_Clash_init) l_Clash_init c_Clash_init k_Clash_init
  have OX_Clash : OexG K C_Clash "RuntimeError.__init__" := OexG.ofR xl_Clash xr_Clash xs_Clash xe_Clash xt_Clash xk_Clash
  have EC_Clash : ExcC K C_Clash := ⟨eg_Clash, ek_Clash, xe_Clash, ed_Clash, ea_Clash, en_x, et_x, em_Clash⟩
  have NC_Clash : NewC l.prog w (GG K fa0) mg base "Clash" 10 1 ["table", "step", "other", "what"] ["self", "table", "step", "other", "what"] [(2, ["other", "what"], [0, 1, 2, 3]), (0, ["what", "other", "step", "table"], [3, 2, 1, 0]), (4, [], [0, 1, 2, 3])] := ⟨C_Clash, f_Clash_init, _, _, rfl, OX_Clash, ai_Clash, ti_Clash, ok_Clash_init F_Clash_init OX_Clash BX_Shut n0_Clash n1_Clash n2_Clash n3_Clash, PySem.W.mg_of X G a_Clash, fun q hq => by
    simp only [List.mem_cons, List.not_mem_nil, or_false] at hq
    rcases hq with rfl | rfl | rfl
    · intro s self us ws h1 h2
      match us, ws, h1, h2 with
      | [_, _], [_, _], _, _ => exact .of_eq rfl
    · intro s self us ws h1 h2
      match us, ws, h1, h2 with
      | [], [_, _, _, _], _, _ => exact .of_eq rfl
    · intro s self us ws h1 h2
      match us, ws, h1, h2 with
      | [_, _, _, _], [], _, _ => exact .of_eq rfl⟩
  have IX_NoFit : ∃ a, mg "NoFit" = some (.ref a) ∧ IsX (GG K fa0) (.ref a) 11 [0] := ⟨_, PySem.W.mg_of X G a_NoFit, fun c hc => by
    match c, hc with
    | 0, _ => exact ⟨C_NoFit, rfl, EC_NoFit, q_NoFit_NoFit⟩
    | 1, _ => exact ⟨C_NoText, rfl, EC_NoText, q_NoFit_NoText⟩
    | 2, _ => exact ⟨C_NoLine, rfl, EC_NoLine, q_NoFit_NoLine⟩
    | 3, _ => exact ⟨C_NoRow, rfl, EC_NoRow, q_NoFit_NoRow⟩
    | 4, _ => exact ⟨C_NoCell, rfl, EC_NoCell, q_NoFit_NoCell⟩
    | 5, _ => exact ⟨C_NoOrder, rfl, EC_NoOrder, q_NoFit_NoOrder⟩
    | 6, _ => exact ⟨C_NoThing, rfl, EC_NoThing, q_NoFit_NoThing⟩
    | 7, _ => exact ⟨C_NoSource, rfl, EC_NoSource, q_NoFit_NoSource⟩
    | 8, _ => exact ⟨C_NoTable, rfl, EC_NoTable, q_NoFit_NoTable⟩
    | 9, _ => exact ⟨C_NoDeed, rfl, EC_NoDeed, q_NoFit_NoDeed⟩
    | 10, _ => exact ⟨C_Clash, rfl, EC_Clash, q_NoFit_Clash⟩
    | n + 11, h => exact absurd h (by omega)⟩
  have IX_NoText : ∃ a, mg "NoText" = some (.ref a) ∧ IsX (GG K fa0) (.ref a) 11 [1] := ⟨_, PySem.W.mg_of X G a_NoText, fun c hc => by
    match c, hc with
    | 0, _ => exact ⟨C_NoFit, rfl, EC_NoFit, q_NoText_NoFit⟩
    | 1, _ => exact ⟨C_NoText, rfl, EC_NoText, q_NoText_NoText⟩
    | 2, _ => exact ⟨C_NoLine, rfl, EC_NoLine, q_NoText_NoLine⟩
    | 3, _ => exact ⟨C_NoRow, rfl, EC_NoRow, q_NoText_NoRow⟩
    | 4, _ => exact ⟨C_NoCell, rfl, EC_NoCell, q_NoText_NoCell⟩
    | 5, _ => exact ⟨C_NoOrder, rfl, EC_NoOrder, q_NoText_NoOrder⟩
    | 6, _ => exact ⟨C_NoThing, rfl, EC_NoThing, q_NoText_NoThing⟩
    | 7, _ => exact ⟨C_NoSource, rfl, EC_NoSource, q_NoText_NoSource⟩
    | 8, _ => exact ⟨C_NoTable, rfl, EC_NoTable, q_NoText_NoTable⟩
    | 9, _ => exact ⟨C_NoDeed, rfl, EC_NoDeed, q_NoText_NoDeed⟩
    | 10, _ => exact ⟨C_Clash, rfl, EC_Clash, q_NoText_Clash⟩
    | n + 11, h => exact absurd h (by omega)⟩
  have IX_NoLine : ∃ a, mg "NoLine" = some (.ref a) ∧ IsX (GG K fa0) (.ref a) 11 [2] := ⟨_, PySem.W.mg_of X G a_NoLine, fun c hc => by
    match c, hc with
    | 0, _ => exact ⟨C_NoFit, rfl, EC_NoFit, q_NoLine_NoFit⟩
    | 1, _ => exact ⟨C_NoText, rfl, EC_NoText, q_NoLine_NoText⟩
    | 2, _ => exact ⟨C_NoLine, rfl, EC_NoLine, q_NoLine_NoLine⟩
    | 3, _ => exact ⟨C_NoRow, rfl, EC_NoRow, q_NoLine_NoRow⟩
    | 4, _ => exact ⟨C_NoCell, rfl, EC_NoCell, q_NoLine_NoCell⟩
    | 5, _ => exact ⟨C_NoOrder, rfl, EC_NoOrder, q_NoLine_NoOrder⟩
    | 6, _ => exact ⟨C_NoThing, rfl, EC_NoThing, q_NoLine_NoThing⟩
    | 7, _ => exact ⟨C_NoSource, rfl, EC_NoSource, q_NoLine_NoSource⟩
    | 8, _ => exact ⟨C_NoTable, rfl, EC_NoTable, q_NoLine_NoTable⟩
    | 9, _ => exact ⟨C_NoDeed, rfl, EC_NoDeed, q_NoLine_NoDeed⟩
    | 10, _ => exact ⟨C_Clash, rfl, EC_Clash, q_NoLine_Clash⟩
    | n + 11, h => exact absurd h (by omega)⟩
  have IX_NoRow : ∃ a, mg "NoRow" = some (.ref a) ∧ IsX (GG K fa0) (.ref a) 11 [3] := ⟨_, PySem.W.mg_of X G a_NoRow, fun c hc => by
    match c, hc with
    | 0, _ => exact ⟨C_NoFit, rfl, EC_NoFit, q_NoRow_NoFit⟩
    | 1, _ => exact ⟨C_NoText, rfl, EC_NoText, q_NoRow_NoText⟩
    | 2, _ => exact ⟨C_NoLine, rfl, EC_NoLine, q_NoRow_NoLine⟩
    | 3, _ => exact ⟨C_NoRow, rfl, EC_NoRow, q_NoRow_NoRow⟩
    | 4, _ => exact ⟨C_NoCell, rfl, EC_NoCell, q_NoRow_NoCell⟩
    | 5, _ => exact ⟨C_NoOrder, rfl, EC_NoOrder, q_NoRow_NoOrder⟩
    | 6, _ => exact ⟨C_NoThing, rfl, EC_NoThing, q_NoRow_NoThing⟩
    | 7, _ => exact ⟨C_NoSource, rfl, EC_NoSource, q_NoRow_NoSource⟩
    | 8, _ => exact ⟨C_NoTable, rfl, EC_NoTable, q_NoRow_NoTable⟩
    | 9, _ => exact ⟨C_NoDeed, rfl, EC_NoDeed, q_NoRow_NoDeed⟩
    | 10, _ => exact ⟨C_Clash, rfl, EC_Clash, q_NoRow_Clash⟩
    | n + 11, h => exact absurd h (by omega)⟩
  have IX_NoCell : ∃ a, mg "NoCell" = some (.ref a) ∧ IsX (GG K fa0) (.ref a) 11 [4] := ⟨_, PySem.W.mg_of X G a_NoCell, fun c hc => by
    match c, hc with
    | 0, _ => exact ⟨C_NoFit, rfl, EC_NoFit, q_NoCell_NoFit⟩
    | 1, _ => exact ⟨C_NoText, rfl, EC_NoText, q_NoCell_NoText⟩
    | 2, _ => exact ⟨C_NoLine, rfl, EC_NoLine, q_NoCell_NoLine⟩
    | 3, _ => exact ⟨C_NoRow, rfl, EC_NoRow, q_NoCell_NoRow⟩
    | 4, _ => exact ⟨C_NoCell, rfl, EC_NoCell, q_NoCell_NoCell⟩
    | 5, _ => exact ⟨C_NoOrder, rfl, EC_NoOrder, q_NoCell_NoOrder⟩
    | 6, _ => exact ⟨C_NoThing, rfl, EC_NoThing, q_NoCell_NoThing⟩
    | 7, _ => exact ⟨C_NoSource, rfl, EC_NoSource, q_NoCell_NoSource⟩
    | 8, _ => exact ⟨C_NoTable, rfl, EC_NoTable, q_NoCell_NoTable⟩
    | 9, _ => exact ⟨C_NoDeed, rfl, EC_NoDeed, q_NoCell_NoDeed⟩
    | 10, _ => exact ⟨C_Clash, rfl, EC_Clash, q_NoCell_Clash⟩
    | n + 11, h => exact absurd h (by omega)⟩
  have IX_NoOrder : ∃ a, mg "NoOrder" = some (.ref a) ∧ IsX (GG K fa0) (.ref a) 11 [5] := ⟨_, PySem.W.mg_of X G a_NoOrder, fun c hc => by
    match c, hc with
    | 0, _ => exact ⟨C_NoFit, rfl, EC_NoFit, q_NoOrder_NoFit⟩
    | 1, _ => exact ⟨C_NoText, rfl, EC_NoText, q_NoOrder_NoText⟩
    | 2, _ => exact ⟨C_NoLine, rfl, EC_NoLine, q_NoOrder_NoLine⟩
    | 3, _ => exact ⟨C_NoRow, rfl, EC_NoRow, q_NoOrder_NoRow⟩
    | 4, _ => exact ⟨C_NoCell, rfl, EC_NoCell, q_NoOrder_NoCell⟩
    | 5, _ => exact ⟨C_NoOrder, rfl, EC_NoOrder, q_NoOrder_NoOrder⟩
    | 6, _ => exact ⟨C_NoThing, rfl, EC_NoThing, q_NoOrder_NoThing⟩
    | 7, _ => exact ⟨C_NoSource, rfl, EC_NoSource, q_NoOrder_NoSource⟩
    | 8, _ => exact ⟨C_NoTable, rfl, EC_NoTable, q_NoOrder_NoTable⟩
    | 9, _ => exact ⟨C_NoDeed, rfl, EC_NoDeed, q_NoOrder_NoDeed⟩
    | 10, _ => exact ⟨C_Clash, rfl, EC_Clash, q_NoOrder_Clash⟩
    | n + 11, h => exact absurd h (by omega)⟩
  have IX_NoThing : ∃ a, mg "NoThing" = some (.ref a) ∧ IsX (GG K fa0) (.ref a) 11 [6] := ⟨_, PySem.W.mg_of X G a_NoThing, fun c hc => by
    match c, hc with
    | 0, _ => exact ⟨C_NoFit, rfl, EC_NoFit, q_NoThing_NoFit⟩
    | 1, _ => exact ⟨C_NoText, rfl, EC_NoText, q_NoThing_NoText⟩
    | 2, _ => exact ⟨C_NoLine, rfl, EC_NoLine, q_NoThing_NoLine⟩
    | 3, _ => exact ⟨C_NoRow, rfl, EC_NoRow, q_NoThing_NoRow⟩
    | 4, _ => exact ⟨C_NoCell, rfl, EC_NoCell, q_NoThing_NoCell⟩
    | 5, _ => exact ⟨C_NoOrder, rfl, EC_NoOrder, q_NoThing_NoOrder⟩
    | 6, _ => exact ⟨C_NoThing, rfl, EC_NoThing, q_NoThing_NoThing⟩
    | 7, _ => exact ⟨C_NoSource, rfl, EC_NoSource, q_NoThing_NoSource⟩
    | 8, _ => exact ⟨C_NoTable, rfl, EC_NoTable, q_NoThing_NoTable⟩
    | 9, _ => exact ⟨C_NoDeed, rfl, EC_NoDeed, q_NoThing_NoDeed⟩
    | 10, _ => exact ⟨C_Clash, rfl, EC_Clash, q_NoThing_Clash⟩
    | n + 11, h => exact absurd h (by omega)⟩
  have IX_NoSource : ∃ a, mg "NoSource" = some (.ref a) ∧ IsX (GG K fa0) (.ref a) 11 [7] := ⟨_, PySem.W.mg_of X G a_NoSource, fun c hc => by
    match c, hc with
    | 0, _ => exact ⟨C_NoFit, rfl, EC_NoFit, q_NoSource_NoFit⟩
    | 1, _ => exact ⟨C_NoText, rfl, EC_NoText, q_NoSource_NoText⟩
    | 2, _ => exact ⟨C_NoLine, rfl, EC_NoLine, q_NoSource_NoLine⟩
    | 3, _ => exact ⟨C_NoRow, rfl, EC_NoRow, q_NoSource_NoRow⟩
    | 4, _ => exact ⟨C_NoCell, rfl, EC_NoCell, q_NoSource_NoCell⟩
    | 5, _ => exact ⟨C_NoOrder, rfl, EC_NoOrder, q_NoSource_NoOrder⟩
    | 6, _ => exact ⟨C_NoThing, rfl, EC_NoThing, q_NoSource_NoThing⟩
    | 7, _ => exact ⟨C_NoSource, rfl, EC_NoSource, q_NoSource_NoSource⟩
    | 8, _ => exact ⟨C_NoTable, rfl, EC_NoTable, q_NoSource_NoTable⟩
    | 9, _ => exact ⟨C_NoDeed, rfl, EC_NoDeed, q_NoSource_NoDeed⟩
    | 10, _ => exact ⟨C_Clash, rfl, EC_Clash, q_NoSource_Clash⟩
    | n + 11, h => exact absurd h (by omega)⟩
  have IX_NoTable : ∃ a, mg "NoTable" = some (.ref a) ∧ IsX (GG K fa0) (.ref a) 11 [8] := ⟨_, PySem.W.mg_of X G a_NoTable, fun c hc => by
    match c, hc with
    | 0, _ => exact ⟨C_NoFit, rfl, EC_NoFit, q_NoTable_NoFit⟩
    | 1, _ => exact ⟨C_NoText, rfl, EC_NoText, q_NoTable_NoText⟩
    | 2, _ => exact ⟨C_NoLine, rfl, EC_NoLine, q_NoTable_NoLine⟩
    | 3, _ => exact ⟨C_NoRow, rfl, EC_NoRow, q_NoTable_NoRow⟩
    | 4, _ => exact ⟨C_NoCell, rfl, EC_NoCell, q_NoTable_NoCell⟩
    | 5, _ => exact ⟨C_NoOrder, rfl, EC_NoOrder, q_NoTable_NoOrder⟩
    | 6, _ => exact ⟨C_NoThing, rfl, EC_NoThing, q_NoTable_NoThing⟩
    | 7, _ => exact ⟨C_NoSource, rfl, EC_NoSource, q_NoTable_NoSource⟩
    | 8, _ => exact ⟨C_NoTable, rfl, EC_NoTable, q_NoTable_NoTable⟩
    | 9, _ => exact ⟨C_NoDeed, rfl, EC_NoDeed, q_NoTable_NoDeed⟩
    | 10, _ => exact ⟨C_Clash, rfl, EC_Clash, q_NoTable_Clash⟩
    | n + 11, h => exact absurd h (by omega)⟩
  have IX_NoDeed : ∃ a, mg "NoDeed" = some (.ref a) ∧ IsX (GG K fa0) (.ref a) 11 [9] := ⟨_, PySem.W.mg_of X G a_NoDeed, fun c hc => by
    match c, hc with
    | 0, _ => exact ⟨C_NoFit, rfl, EC_NoFit, q_NoDeed_NoFit⟩
    | 1, _ => exact ⟨C_NoText, rfl, EC_NoText, q_NoDeed_NoText⟩
    | 2, _ => exact ⟨C_NoLine, rfl, EC_NoLine, q_NoDeed_NoLine⟩
    | 3, _ => exact ⟨C_NoRow, rfl, EC_NoRow, q_NoDeed_NoRow⟩
    | 4, _ => exact ⟨C_NoCell, rfl, EC_NoCell, q_NoDeed_NoCell⟩
    | 5, _ => exact ⟨C_NoOrder, rfl, EC_NoOrder, q_NoDeed_NoOrder⟩
    | 6, _ => exact ⟨C_NoThing, rfl, EC_NoThing, q_NoDeed_NoThing⟩
    | 7, _ => exact ⟨C_NoSource, rfl, EC_NoSource, q_NoDeed_NoSource⟩
    | 8, _ => exact ⟨C_NoTable, rfl, EC_NoTable, q_NoDeed_NoTable⟩
    | 9, _ => exact ⟨C_NoDeed, rfl, EC_NoDeed, q_NoDeed_NoDeed⟩
    | 10, _ => exact ⟨C_Clash, rfl, EC_Clash, q_NoDeed_Clash⟩
    | n + 11, h => exact absurd h (by omega)⟩
  have IX_Clash : ∃ a, mg "Clash" = some (.ref a) ∧ IsX (GG K fa0) (.ref a) 11 [10] := ⟨_, PySem.W.mg_of X G a_Clash, fun c hc => by
    match c, hc with
    | 0, _ => exact ⟨C_NoFit, rfl, EC_NoFit, q_Clash_NoFit⟩
    | 1, _ => exact ⟨C_NoText, rfl, EC_NoText, q_Clash_NoText⟩
    | 2, _ => exact ⟨C_NoLine, rfl, EC_NoLine, q_Clash_NoLine⟩
    | 3, _ => exact ⟨C_NoRow, rfl, EC_NoRow, q_Clash_NoRow⟩
    | 4, _ => exact ⟨C_NoCell, rfl, EC_NoCell, q_Clash_NoCell⟩
    | 5, _ => exact ⟨C_NoOrder, rfl, EC_NoOrder, q_Clash_NoOrder⟩
    | 6, _ => exact ⟨C_NoThing, rfl, EC_NoThing, q_Clash_NoThing⟩
    | 7, _ => exact ⟨C_NoSource, rfl, EC_NoSource, q_Clash_NoSource⟩
    | 8, _ => exact ⟨C_NoTable, rfl, EC_NoTable, q_Clash_NoTable⟩
    | 9, _ => exact ⟨C_NoDeed, rfl, EC_NoDeed, q_Clash_NoDeed⟩
    | 10, _ => exact ⟨C_Clash, rfl, EC_Clash, q_Clash_Clash⟩
    | n + 11, h => exact absurd h (by omega)⟩
  have IX_NotSuch : ∃ a, mg "NotSuch" = some (.ref a) ∧ IsX (GG K fa0) (.ref a) 11 [0, 1, 2] := ⟨_, PySem.W.mg_of X G a_NotSuch, fun c hc => by
    match c, hc with
    | 0, _ => exact ⟨C_NoFit, rfl, EC_NoFit, q_NotSuch_NoFit⟩
    | 1, _ => exact ⟨C_NoText, rfl, EC_NoText, q_NotSuch_NoText⟩
    | 2, _ => exact ⟨C_NoLine, rfl, EC_NoLine, q_NotSuch_NoLine⟩
    | 3, _ => exact ⟨C_NoRow, rfl, EC_NoRow, q_NotSuch_NoRow⟩
    | 4, _ => exact ⟨C_NoCell, rfl, EC_NoCell, q_NotSuch_NoCell⟩
    | 5, _ => exact ⟨C_NoOrder, rfl, EC_NoOrder, q_NotSuch_NoOrder⟩
    | 6, _ => exact ⟨C_NoThing, rfl, EC_NoThing, q_NotSuch_NoThing⟩
    | 7, _ => exact ⟨C_NoSource, rfl, EC_NoSource, q_NotSuch_NoSource⟩
    | 8, _ => exact ⟨C_NoTable, rfl, EC_NoTable, q_NotSuch_NoTable⟩
    | 9, _ => exact ⟨C_NoDeed, rfl, EC_NoDeed, q_NotSuch_NoDeed⟩
    | 10, _ => exact ⟨C_Clash, rfl, EC_Clash, q_NotSuch_Clash⟩
    | n + 11, h => exact absurd h (by omega)⟩
  have IX_Lost : ∃ a, mg "Lost" = some (.ref a) ∧ IsX (GG K fa0) (.ref a) 11 [3, 4, 5, 6, 7, 8, 9] := ⟨_, PySem.W.mg_of X G a_Lost, fun c hc => by
    match c, hc with
    | 0, _ => exact ⟨C_NoFit, rfl, EC_NoFit, q_Lost_NoFit⟩
    | 1, _ => exact ⟨C_NoText, rfl, EC_NoText, q_Lost_NoText⟩
    | 2, _ => exact ⟨C_NoLine, rfl, EC_NoLine, q_Lost_NoLine⟩
    | 3, _ => exact ⟨C_NoRow, rfl, EC_NoRow, q_Lost_NoRow⟩
    | 4, _ => exact ⟨C_NoCell, rfl, EC_NoCell, q_Lost_NoCell⟩
    | 5, _ => exact ⟨C_NoOrder, rfl, EC_NoOrder, q_Lost_NoOrder⟩
    | 6, _ => exact ⟨C_NoThing, rfl, EC_NoThing, q_Lost_NoThing⟩
    | 7, _ => exact ⟨C_NoSource, rfl, EC_NoSource, q_Lost_NoSource⟩
    | 8, _ => exact ⟨C_NoTable, rfl, EC_NoTable, q_Lost_NoTable⟩
    | 9, _ => exact ⟨C_NoDeed, rfl, EC_NoDeed, q_Lost_NoDeed⟩
    | 10, _ => exact ⟨C_Clash, rfl, EC_Clash, q_Lost_Clash⟩
    | n + 11, h => exact absurd h (by omega)⟩
  have IX_Shut : ∃ a, mg "Shut" = some (.ref a) ∧ IsX (GG K fa0) (.ref a) 11 [10] := ⟨_, PySem.W.mg_of X G a_Shut, fun c hc => by
    match c, hc with
    | 0, _ => exact ⟨C_NoFit, rfl, EC_NoFit, q_Shut_NoFit⟩
    | 1, _ => exact ⟨C_NoText, rfl, EC_NoText, q_Shut_NoText⟩
    | 2, _ => exact ⟨C_NoLine, rfl, EC_NoLine, q_Shut_NoLine⟩
    | 3, _ => exact ⟨C_NoRow, rfl, EC_NoRow, q_Shut_NoRow⟩
    | 4, _ => exact ⟨C_NoCell, rfl, EC_NoCell, q_Shut_NoCell⟩
    | 5, _ => exact ⟨C_NoOrder, rfl, EC_NoOrder, q_Shut_NoOrder⟩
    | 6, _ => exact ⟨C_NoThing, rfl, EC_NoThing, q_Shut_NoThing⟩
    | 7, _ => exact ⟨C_NoSource, rfl, EC_NoSource, q_Shut_NoSource⟩
    | 8, _ => exact ⟨C_NoTable, rfl, EC_NoTable, q_Shut_NoTable⟩
    | 9, _ => exact ⟨C_NoDeed, rfl, EC_NoDeed, q_Shut_NoDeed⟩
    | 10, _ => exact ⟨C_Clash, rfl, EC_Clash, q_Shut_Clash⟩
    | n + 11, h => exact absurd h (by omega)⟩
  have IX_ValueError : IsX (GG K fa0) (.type "ValueError") 11 [0, 1, 2] := fun c hc => by
    match c, hc with
    | 0, _ => exact ⟨C_NoFit, rfl, EC_NoFit, q_ValueError_NoFit⟩
    | 1, _ => exact ⟨C_NoText, rfl, EC_NoText, q_ValueError_NoText⟩
    | 2, _ => exact ⟨C_NoLine, rfl, EC_NoLine, q_ValueError_NoLine⟩
    | 3, _ => exact ⟨C_NoRow, rfl, EC_NoRow, q_ValueError_NoRow⟩
    | 4, _ => exact ⟨C_NoCell, rfl, EC_NoCell, q_ValueError_NoCell⟩
    | 5, _ => exact ⟨C_NoOrder, rfl, EC_NoOrder, q_ValueError_NoOrder⟩
    | 6, _ => exact ⟨C_NoThing, rfl, EC_NoThing, q_ValueError_NoThing⟩
    | 7, _ => exact ⟨C_NoSource, rfl, EC_NoSource, q_ValueError_NoSource⟩
    | 8, _ => exact ⟨C_NoTable, rfl, EC_NoTable, q_ValueError_NoTable⟩
    | 9, _ => exact ⟨C_NoDeed, rfl, EC_NoDeed, q_ValueError_NoDeed⟩
    | 10, _ => exact ⟨C_Clash, rfl, EC_Clash, q_ValueError_Clash⟩
    | n + 11, h => exact absurd h (by omega)
  have IX_LookupError : IsX (GG K fa0) (.type "LookupError") 11 [3, 4, 5, 6, 7, 8, 9] := fun c hc => by
    match c, hc with
    | 0, _ => exact ⟨C_NoFit, rfl, EC_NoFit, q_LookupError_NoFit⟩
    | 1, _ => exact ⟨C_NoText, rfl, EC_NoText, q_LookupError_NoText⟩
    | 2, _ => exact ⟨C_NoLine, rfl, EC_NoLine, q_LookupError_NoLine⟩
    | 3, _ => exact ⟨C_NoRow, rfl, EC_NoRow, q_LookupError_NoRow⟩
    | 4, _ => exact ⟨C_NoCell, rfl, EC_NoCell, q_LookupError_NoCell⟩
    | 5, _ => exact ⟨C_NoOrder, rfl, EC_NoOrder, q_LookupError_NoOrder⟩
    | 6, _ => exact ⟨C_NoThing, rfl, EC_NoThing, q_LookupError_NoThing⟩
    | 7, _ => exact ⟨C_NoSource, rfl, EC_NoSource, q_LookupError_NoSource⟩
    | 8, _ => exact ⟨C_NoTable, rfl, EC_NoTable, q_LookupError_NoTable⟩
    | 9, _ => exact ⟨C_NoDeed, rfl, EC_NoDeed, q_LookupError_NoDeed⟩
    | 10, _ => exact ⟨C_Clash, rfl, EC_Clash, q_LookupError_Clash⟩
    | n + 11, h => exact absurd h (by omega)
  have IX_RuntimeError : IsX (GG K fa0) (.type "RuntimeError") 11 [10] := fun c hc => by
    match c, hc with
    | 0, _ => exact ⟨C_NoFit, rfl, EC_NoFit, q_RuntimeError_NoFit⟩
    | 1, _ => exact ⟨C_NoText, rfl, EC_NoText, q_RuntimeError_NoText⟩
    | 2, _ => exact ⟨C_NoLine, rfl, EC_NoLine, q_RuntimeError_NoLine⟩
    | 3, _ => exact ⟨C_NoRow, rfl, EC_NoRow, q_RuntimeError_NoRow⟩
    | 4, _ => exact ⟨C_NoCell, rfl, EC_NoCell, q_RuntimeError_NoCell⟩
    | 5, _ => exact ⟨C_NoOrder, rfl, EC_NoOrder, q_RuntimeError_NoOrder⟩
    | 6, _ => exact ⟨C_NoThing, rfl, EC_NoThing, q_RuntimeError_NoThing⟩
    | 7, _ => exact ⟨C_NoSource, rfl, EC_NoSource, q_RuntimeError_NoSource⟩
    | 8, _ => exact ⟨C_NoTable, rfl, EC_NoTable, q_RuntimeError_NoTable⟩
    | 9, _ => exact ⟨C_NoDeed, rfl, EC_NoDeed, q_RuntimeError_NoDeed⟩
    | 10, _ => exact ⟨C_Clash, rfl, EC_Clash, q_RuntimeError_Clash⟩
    | n + 11, h => exact absurd h (by omega)
  have EM_NotSuch : ∃ a, mg "NotSuch" = some (.ref a) ∧ EmX (GG K fa0) (.ref a) 11 [0, 1, 2] := ⟨_, PySem.W.mg_of X G a_NotSuch, fun c hc => by
    match c, hc with
    | 0, _ => exact ⟨C_NoFit, rfl, PySem.W.exm_ref mb_NotSuch md_NotSuch mt_NotSuch u_NotSuch_NoFit⟩
    | 1, _ => exact ⟨C_NoText, rfl, PySem.W.exm_ref mb_NotSuch md_NotSuch mt_NotSuch u_NotSuch_NoText⟩
    | 2, _ => exact ⟨C_NoLine, rfl, PySem.W.exm_ref mb_NotSuch md_NotSuch mt_NotSuch u_NotSuch_NoLine⟩
    | 3, _ => exact ⟨C_NoRow, rfl, PySem.W.exm_ref mb_NotSuch md_NotSuch mt_NotSuch u_NotSuch_NoRow⟩
    | 4, _ => exact ⟨C_NoCell, rfl, PySem.W.exm_ref mb_NotSuch md_NotSuch mt_NotSuch u_NotSuch_NoCell⟩
    | 5, _ => exact ⟨C_NoOrder, rfl, PySem.W.exm_ref mb_NotSuch md_NotSuch mt_NotSuch u_NotSuch_NoOrder⟩
    | 6, _ => exact ⟨C_NoThing, rfl, PySem.W.exm_ref mb_NotSuch md_NotSuch mt_NotSuch u_NotSuch_NoThing⟩
    | 7, _ => exact ⟨C_NoSource, rfl, PySem.W.exm_ref mb_NotSuch md_NotSuch mt_NotSuch u_NotSuch_NoSource⟩
    | 8, _ => exact ⟨C_NoTable, rfl, PySem.W.exm_ref mb_NotSuch md_NotSuch mt_NotSuch u_NotSuch_NoTable⟩
    | 9, _ => exact ⟨C_NoDeed, rfl, PySem.W.exm_ref mb_NotSuch md_NotSuch mt_NotSuch u_NotSuch_NoDeed⟩
    | 10, _ => exact ⟨C_Clash, rfl, PySem.W.exm_ref mb_NotSuch md_NotSuch mt_NotSuch u_NotSuch_Clash⟩
    | n + 11, h => exact absurd h (by omega)⟩
  have EM_Lost : ∃ a, mg "Lost" = some (.ref a) ∧ EmX (GG K fa0) (.ref a) 11 [3, 4, 5, 6, 7, 8, 9] := ⟨_, PySem.W.mg_of X G a_Lost, fun c hc => by
    match c, hc with
    | 0, _ => exact ⟨C_NoFit, rfl, PySem.W.exm_ref mb_Lost md_Lost mt_Lost u_Lost_NoFit⟩
    | 1, _ => exact ⟨C_NoText, rfl, PySem.W.exm_ref mb_Lost md_Lost mt_Lost u_Lost_NoText⟩
    | 2, _ => exact ⟨C_NoLine, rfl, PySem.W.exm_ref mb_Lost md_Lost mt_Lost u_Lost_NoLine⟩
    | 3, _ => exact ⟨C_NoRow, rfl, PySem.W.exm_ref mb_Lost md_Lost mt_Lost u_Lost_NoRow⟩
    | 4, _ => exact ⟨C_NoCell, rfl, PySem.W.exm_ref mb_Lost md_Lost mt_Lost u_Lost_NoCell⟩
    | 5, _ => exact ⟨C_NoOrder, rfl, PySem.W.exm_ref mb_Lost md_Lost mt_Lost u_Lost_NoOrder⟩
    | 6, _ => exact ⟨C_NoThing, rfl, PySem.W.exm_ref mb_Lost md_Lost mt_Lost u_Lost_NoThing⟩
    | 7, _ => exact ⟨C_NoSource, rfl, PySem.W.exm_ref mb_Lost md_Lost mt_Lost u_Lost_NoSource⟩
    | 8, _ => exact ⟨C_NoTable, rfl, PySem.W.exm_ref mb_Lost md_Lost mt_Lost u_Lost_NoTable⟩
    | 9, _ => exact ⟨C_NoDeed, rfl, PySem.W.exm_ref mb_Lost md_Lost mt_Lost u_Lost_NoDeed⟩
    | 10, _ => exact ⟨C_Clash, rfl, PySem.W.exm_ref mb_Lost md_Lost mt_Lost u_Lost_Clash⟩
    | n + 11, h => exact absurd h (by omega)⟩
  have EM_Shut : ∃ a, mg "Shut" = some (.ref a) ∧ EmX (GG K fa0) (.ref a) 11 [10] := ⟨_, PySem.W.mg_of X G a_Shut, fun c hc => by
    match c, hc with
    | 0, _ => exact ⟨C_NoFit, rfl, PySem.W.exm_ref mb_Shut md_Shut mt_Shut u_Shut_NoFit⟩
    | 1, _ => exact ⟨C_NoText, rfl, PySem.W.exm_ref mb_Shut md_Shut mt_Shut u_Shut_NoText⟩
    | 2, _ => exact ⟨C_NoLine, rfl, PySem.W.exm_ref mb_Shut md_Shut mt_Shut u_Shut_NoLine⟩
    | 3, _ => exact ⟨C_NoRow, rfl, PySem.W.exm_ref mb_Shut md_Shut mt_Shut u_Shut_NoRow⟩
    | 4, _ => exact ⟨C_NoCell, rfl, PySem.W.exm_ref mb_Shut md_Shut mt_Shut u_Shut_NoCell⟩
    | 5, _ => exact ⟨C_NoOrder, rfl, PySem.W.exm_ref mb_Shut md_Shut mt_Shut u_Shut_NoOrder⟩
    | 6, _ => exact ⟨C_NoThing, rfl, PySem.W.exm_ref mb_Shut md_Shut mt_Shut u_Shut_NoThing⟩
    | 7, _ => exact ⟨C_NoSource, rfl, PySem.W.exm_ref mb_Shut md_Shut mt_Shut u_Shut_NoSource⟩
    | 8, _ => exact ⟨C_NoTable, rfl, PySem.W.exm_ref mb_Shut md_Shut mt_Shut u_Shut_NoTable⟩
    | 9, _ => exact ⟨C_NoDeed, rfl, PySem.W.exm_ref mb_Shut md_Shut mt_Shut u_Shut_NoDeed⟩
    | 10, _ => exact ⟨C_Clash, rfl, PySem.W.exm_ref mb_Shut md_Shut mt_Shut u_Shut_Clash⟩
    | n + 11, h => exact absurd h (by omega)⟩
  have FX_worth : FlX (GG K fa0) "worth" [0] := fun c hc => by
    simp only [List.mem_cons, List.not_mem_nil, or_false] at hc
    rcases hc with rfl
    · exact ⟨C_NoFit, rfl, EC_NoFit, n0_NoFit⟩
  have FX_row : FlX (GG K fa0) "row" [1, 3] := fun c hc => by
    simp only [List.mem_cons, List.not_mem_nil, or_false] at hc
    rcases hc with rfl | rfl
    · exact ⟨C_NoText, rfl, EC_NoText, n0_NoText⟩
    · exact ⟨C_NoRow, rfl, EC_NoRow, n0_NoRow⟩
  have FX_line : FlX (GG K fa0) "line" [2] := fun c hc => by
    simp only [List.mem_cons, List.not_mem_nil, or_false] at hc
    rcases hc with rfl
    · exact ⟨C_NoLine, rfl, EC_NoLine, n0_NoLine⟩
  have FX_number : FlX (GG K fa0) "number" [4] := fun c hc => by
    simp only [List.mem_cons, List.not_mem_nil, or_false] at hc
    rcases hc with rfl
    · exact ⟨C_NoCell, rfl, EC_NoCell, n0_NoCell⟩
  have FX_column : FlX (GG K fa0) "column" [4] := fun c hc => by
    simp only [List.mem_cons, List.not_mem_nil, or_false] at hc
    rcases hc with rfl
    · exact ⟨C_NoCell, rfl, EC_NoCell, n1_NoCell⟩
  have FX_which : FlX (GG K fa0) "which" [5] := fun c hc => by
    simp only [List.mem_cons, List.not_mem_nil, or_false] at hc
    rcases hc with rfl
    · exact ⟨C_NoOrder, rfl, EC_NoOrder, n0_NoOrder⟩
  have FX_thing : FlX (GG K fa0) "thing" [6] := fun c hc => by
    simp only [List.mem_cons, List.not_mem_nil, or_false] at hc
    rcases hc with rfl
    · exact ⟨C_NoThing, rfl, EC_NoThing, n0_NoThing⟩
  have FX_source : FlX (GG K fa0) "source" [7] := fun c hc => by
    simp only [List.mem_cons, List.not_mem_nil, or_false] at hc
    rcases hc with rfl
    · exact ⟨C_NoSource, rfl, EC_NoSource, n0_NoSource⟩
  have FX_table : FlX (GG K fa0) "table" [8, 10] := fun c hc => by
    simp only [List.mem_cons, List.not_mem_nil, or_false] at hc
    rcases hc with rfl | rfl
    · exact ⟨C_NoTable, rfl, EC_NoTable, n0_NoTable⟩
    · exact ⟨C_Clash, rfl, EC_Clash, n0_Clash⟩
  have FX_step : FlX (GG K fa0) "step" [10] := fun c hc => by
    simp only [List.mem_cons, List.not_mem_nil, or_false] at hc
    rcases hc with rfl
    · exact ⟨C_Clash, rfl, EC_Clash, n1_Clash⟩
  have FX_other : FlX (GG K fa0) "other" [10] := fun c hc => by
    simp only [List.mem_cons, List.not_mem_nil, or_false] at hc
    rcases hc with rfl
    · exact ⟨C_Clash, rfl, EC_Clash, n2_Clash⟩
  have FX_what : FlX (GG K fa0) "what" [10] := fun c hc => by
    simp only [List.mem_cons, List.not_mem_nil, or_false] at hc
    rcases hc with rfl
    · exact ⟨C_Clash, rfl, EC_Clash, n3_Clash⟩
  have C_l_take : Cal l.prog w (GG K fa0) mg base "_law_take" 1 ["_law_hand_here", "_law_below"] [] LW.F_l_take := ⟨f_l_take, _, ok_l_take F_l_take T, PySem.W.mg_of X G a_l_take, k_l_take, F_l_take.binds (ps := ["_law_hand_here", "_law_below"]) fun _ _ _ _ _ _ us hl => match us, hl with | [_, _], _ => rfl, fun q hq => by cases hq⟩
  have C_l_pick : Cal l.prog w (GG K fa0) mg base "_law_pick" 2 ["_law_hand_here", "_law_some"] [] LW.F_l_pick := ⟨f_l_pick, _, ok_l_pick F_l_pick T C_l_take, PySem.W.mg_of X G a_l_pick, k_l_pick, F_l_pick.binds (ps := ["_law_hand_here", "_law_some"]) fun _ _ _ _ _ _ us hl => match us, hl with | [_, _], _ => rfl, fun q hq => by cases hq⟩
  have C_l_thing : Cal l.prog w (GG K fa0) mg base "_law_thing" 3 ["_law_hand_here"] [] LW.F_l_thing := ⟨f_l_thing, _, ok_l_thing F_l_thing T C_l_take C_l_pick, PySem.W.mg_of X G a_l_thing, k_l_thing, F_l_thing.binds (ps := ["_law_hand_here"]) fun _ _ _ _ _ _ us hl => match us, hl with | [_], _ => rfl, fun q hq => by cases hq⟩
  have C_l_by_places : Cal l.prog w (GG K fa0) mg base "_law_by_places" 3 ["_law_x", "_law_z"] [] LW.F_l_by_places := ⟨f_l_by_places, _, ok_l_by_places F_l_by_places T NC_NoFit NC_NoText NC_NoLine NC_NoRow NC_NoCell NC_NoOrder NC_NoThing NC_NoSource NC_NoTable NC_NoDeed NC_Clash, PySem.W.mg_of X G a_l_by_places, k_l_by_places, F_l_by_places.binds (ps := ["_law_x", "_law_z"]) fun _ _ _ _ _ _ us hl => match us, hl with | [_, _], _ => rfl, fun q hq => by cases hq⟩
  have C_l_by_names : Cal l.prog w (GG K fa0) mg base "_law_by_names" 3 ["_law_x", "_law_z"] [] LW.F_l_by_names := ⟨f_l_by_names, _, ok_l_by_names F_l_by_names T NC_NoFit NC_NoText NC_NoLine NC_NoRow NC_NoCell NC_NoOrder NC_NoThing NC_NoSource NC_NoTable NC_NoDeed NC_Clash, PySem.W.mg_of X G a_l_by_names, k_l_by_names, F_l_by_names.binds (ps := ["_law_x", "_law_z"]) fun _ _ _ _ _ _ us hl => match us, hl with | [_, _], _ => rfl, fun q hq => by cases hq⟩
  have C_l_classes : Cal l.prog w (GG K fa0) mg base "_law_classes" 1 ["_law_e"] [] LW.F_l_classes := ⟨f_l_classes, _, ok_l_classes F_l_classes T IX_NoFit IX_NoText IX_NoLine IX_NoRow IX_NoCell IX_NoOrder IX_NoThing IX_NoSource IX_NoTable IX_NoDeed IX_Clash, PySem.W.mg_of X G a_l_classes, k_l_classes, F_l_classes.binds (ps := ["_law_e"]) fun _ _ _ _ _ _ us hl => match us, hl with | [_], _ => rfl, fun q hq => by cases hq⟩
  have C_l_families : Cal l.prog w (GG K fa0) mg base "_law_families" 1 ["_law_e"] [] LW.F_l_families := ⟨f_l_families, _, ok_l_families F_l_families T IX_NotSuch IX_Lost IX_Shut IX_ValueError IX_LookupError IX_RuntimeError, PySem.W.mg_of X G a_l_families, k_l_families, F_l_families.binds (ps := ["_law_e"]) fun _ _ _ _ _ _ us hl => match us, hl with | [_], _ => rfl, fun q hq => by cases hq⟩
  have C_l_values : Cal l.prog w (GG K fa0) mg base "_law_values" 1 ["_law_made"] [] LW.F_l_values := ⟨f_l_values, _, ok_l_values F_l_values T FX_worth FX_row FX_line FX_number FX_column FX_which FX_thing FX_source FX_table FX_step FX_other FX_what, PySem.W.mg_of X G a_l_values, k_l_values, F_l_values.binds (ps := ["_law_made"]) fun _ _ _ _ _ _ us hl => match us, hl with | [_], _ => rfl, fun q hq => by cases hq⟩
  have C_l_raised : Cal l.prog w (GG K fa0) mg base "_law_raised" 3 ["_law_way", "_law_x", "_law_z"] [] LW.F_l_raised := ⟨f_l_raised, _, ok_l_raised F_l_raised T NC_NoText NC_NoCell NC_Clash EM_NotSuch EM_Lost EM_Shut FX_row FX_number FX_column FX_table FX_other, PySem.W.mg_of X G a_l_raised, k_l_raised, F_l_raised.binds (ps := ["_law_way", "_law_x", "_law_z"]) fun _ _ _ _ _ _ us hl => match us, hl with | [_, _, _], _ => rfl, fun q hq => by cases hq⟩
  have C_l_right : Cal l.prog w (GG K fa0) mg base "_law_right" 4 ["_law_hand_here"] [] LW.F_l_right := ⟨f_l_right, _, ok_l_right F_l_right T C_l_thing C_l_by_places C_l_by_names C_l_classes C_l_families C_l_values C_l_raised, PySem.W.mg_of X G a_l_right, k_l_right, F_l_right.binds (ps := ["_law_hand_here"]) fun _ _ _ _ _ _ us hl => match us, hl with | [_], _ => rfl, fun q hq => by cases hq⟩
  have C_l_hand : Cal l.prog w (GG K fa0) mg base "_law_hand" 1 ["_law_script", "_law_k"] [] LW.F_l_hand := ⟨f_l_hand, _, ok_l_hand F_l_hand T, PySem.W.mg_of X G a_l_hand, k_l_hand, F_l_hand.binds (ps := ["_law_script", "_law_k"]) fun _ _ _ _ _ _ us hl => match us, hl with | [_, _], _ => rfl, fun q hq => by cases hq⟩
  exact ok_law F_law T C_l_right C_l_hand
end LW

open PySem PySem.W PyProof.Rows in
set_option maxRecDepth 100000 in
set_option maxHeartbeats 0 in
theorem PySem.Challenge.cw_cleanedtables_k47_refusals_made_holds : PySem.Challenge.rw_cleanedtables_k47_refusals_made.Holds := by
  w_on; o_law; k_head; (case hw => w_witness2)
  k_fill
  refine DL.walkG (l := PySem.Challenge.rw_cleanedtables_k47_refusals_made) (n := 63) (k := 5) (x := "_law_script") rfl (by decide) rfl ⟨rfl, by decide, by decide⟩ (fun w h Y => PySem.W.kIn_of Y) ?F
  case F =>
    intro w mg fa h KX G hmg
    refine' LW.all_mk KX G hmg ?en_x ?et_x ?a_NotSuch ?g1_NotSuch ?g2_NotSuch ?g3_NotSuch ?a_Lost ?g1_Lost ?g2_Lost ?g3_Lost ?a_Shut ?g1_Shut ?g2_Shut ?g3_Shut ?a_NoFit ?xl_NoFit ?xr_NoFit ?xs_NoFit ?xe_NoFit ?xt_NoFit ?xk_NoFit ?eg_NoFit ?ek_NoFit ?ed_NoFit ?ea_NoFit ?em_NoFit ?ai_NoFit ?ti_NoFit ?l_NoFit_init ?c_NoFit_init ?k_NoFit_init ?n0_NoFit ?a_NoText ?xl_NoText ?xr_NoText ?xs_NoText ?xe_NoText ?xt_NoText ?xk_NoText ?eg_NoText ?ek_NoText ?ed_NoText ?ea_NoText ?em_NoText ?ai_NoText ?ti_NoText ?l_NoText_init ?c_NoText_init ?k_NoText_init ?n0_NoText ?a_NoLine ?xl_NoLine ?xr_NoLine ?xs_NoLine ?xe_NoLine ?xt_NoLine ?xk_NoLine ?eg_NoLine ?ek_NoLine ?ed_NoLine ?ea_NoLine ?em_NoLine ?ai_NoLine ?ti_NoLine ?l_NoLine_init ?c_NoLine_init ?k_NoLine_init ?n0_NoLine ?a_NoRow ?xl_NoRow ?xr_NoRow ?xs_NoRow ?xe_NoRow ?xt_NoRow ?xk_NoRow ?eg_NoRow ?ek_NoRow ?ed_NoRow ?ea_NoRow ?em_NoRow ?ai_NoRow ?ti_NoRow ?l_NoRow_init ?c_NoRow_init ?k_NoRow_init ?n0_NoRow ?a_NoCell ?xl_NoCell ?xr_NoCell ?xs_NoCell ?xe_NoCell ?xt_NoCell ?xk_NoCell ?eg_NoCell ?ek_NoCell ?ed_NoCell ?ea_NoCell ?em_NoCell ?ai_NoCell ?ti_NoCell ?l_NoCell_init ?c_NoCell_init ?k_NoCell_init ?n0_NoCell ?n1_NoCell ?a_NoOrder ?xl_NoOrder ?xr_NoOrder ?xs_NoOrder ?xe_NoOrder ?xt_NoOrder ?xk_NoOrder ?eg_NoOrder ?ek_NoOrder ?ed_NoOrder ?ea_NoOrder ?em_NoOrder ?ai_NoOrder ?ti_NoOrder ?l_NoOrder_init ?c_NoOrder_init ?k_NoOrder_init ?n0_NoOrder ?a_NoThing ?xl_NoThing ?xr_NoThing ?xs_NoThing ?xe_NoThing ?xt_NoThing ?xk_NoThing ?eg_NoThing ?ek_NoThing ?ed_NoThing ?ea_NoThing ?em_NoThing ?ai_NoThing ?ti_NoThing ?l_NoThing_init ?c_NoThing_init ?k_NoThing_init ?n0_NoThing ?a_NoSource ?xl_NoSource ?xr_NoSource ?xs_NoSource ?xe_NoSource ?xt_NoSource ?xk_NoSource ?eg_NoSource ?ek_NoSource ?ed_NoSource ?ea_NoSource ?em_NoSource ?ai_NoSource ?ti_NoSource ?l_NoSource_init ?c_NoSource_init ?k_NoSource_init ?n0_NoSource ?a_NoTable ?xl_NoTable ?xr_NoTable ?xs_NoTable ?xe_NoTable ?xt_NoTable ?xk_NoTable ?eg_NoTable ?ek_NoTable ?ed_NoTable ?ea_NoTable ?em_NoTable ?ai_NoTable ?ti_NoTable ?l_NoTable_init ?c_NoTable_init ?k_NoTable_init ?n0_NoTable ?a_NoDeed ?xl_NoDeed ?xr_NoDeed ?xs_NoDeed ?xe_NoDeed ?xt_NoDeed ?xk_NoDeed ?eg_NoDeed ?ek_NoDeed ?ed_NoDeed ?ea_NoDeed ?em_NoDeed ?ai_NoDeed ?ti_NoDeed ?l_NoDeed_init ?c_NoDeed_init ?k_NoDeed_init ?a_Clash ?xl_Clash ?xr_Clash ?xs_Clash ?xe_Clash ?xt_Clash ?xk_Clash ?eg_Clash ?ek_Clash ?ed_Clash ?ea_Clash ?em_Clash ?ai_Clash ?ti_Clash ?l_Clash_init ?c_Clash_init ?k_Clash_init ?n0_Clash ?n1_Clash ?n2_Clash ?n3_Clash ?q_NoFit_NoFit ?q_NoFit_NoText ?q_NoFit_NoLine ?q_NoFit_NoRow ?q_NoFit_NoCell ?q_NoFit_NoOrder ?q_NoFit_NoThing ?q_NoFit_NoSource ?q_NoFit_NoTable ?q_NoFit_NoDeed ?q_NoFit_Clash ?q_NoText_NoFit ?q_NoText_NoText ?q_NoText_NoLine ?q_NoText_NoRow ?q_NoText_NoCell ?q_NoText_NoOrder ?q_NoText_NoThing ?q_NoText_NoSource ?q_NoText_NoTable ?q_NoText_NoDeed ?q_NoText_Clash ?q_NoLine_NoFit ?q_NoLine_NoText ?q_NoLine_NoLine ?q_NoLine_NoRow ?q_NoLine_NoCell ?q_NoLine_NoOrder ?q_NoLine_NoThing ?q_NoLine_NoSource ?q_NoLine_NoTable ?q_NoLine_NoDeed ?q_NoLine_Clash ?q_NoRow_NoFit ?q_NoRow_NoText ?q_NoRow_NoLine ?q_NoRow_NoRow ?q_NoRow_NoCell ?q_NoRow_NoOrder ?q_NoRow_NoThing ?q_NoRow_NoSource ?q_NoRow_NoTable ?q_NoRow_NoDeed ?q_NoRow_Clash ?q_NoCell_NoFit ?q_NoCell_NoText ?q_NoCell_NoLine ?q_NoCell_NoRow ?q_NoCell_NoCell ?q_NoCell_NoOrder ?q_NoCell_NoThing ?q_NoCell_NoSource ?q_NoCell_NoTable ?q_NoCell_NoDeed ?q_NoCell_Clash ?q_NoOrder_NoFit ?q_NoOrder_NoText ?q_NoOrder_NoLine ?q_NoOrder_NoRow ?q_NoOrder_NoCell ?q_NoOrder_NoOrder ?q_NoOrder_NoThing ?q_NoOrder_NoSource ?q_NoOrder_NoTable ?q_NoOrder_NoDeed ?q_NoOrder_Clash ?q_NoThing_NoFit ?q_NoThing_NoText ?q_NoThing_NoLine ?q_NoThing_NoRow ?q_NoThing_NoCell ?q_NoThing_NoOrder ?q_NoThing_NoThing ?q_NoThing_NoSource ?q_NoThing_NoTable ?q_NoThing_NoDeed ?q_NoThing_Clash ?q_NoSource_NoFit ?q_NoSource_NoText ?q_NoSource_NoLine ?q_NoSource_NoRow ?q_NoSource_NoCell ?q_NoSource_NoOrder ?q_NoSource_NoThing ?q_NoSource_NoSource ?q_NoSource_NoTable ?q_NoSource_NoDeed ?q_NoSource_Clash ?q_NoTable_NoFit ?q_NoTable_NoText ?q_NoTable_NoLine ?q_NoTable_NoRow ?q_NoTable_NoCell ?q_NoTable_NoOrder ?q_NoTable_NoThing ?q_NoTable_NoSource ?q_NoTable_NoTable ?q_NoTable_NoDeed ?q_NoTable_Clash ?q_NoDeed_NoFit ?q_NoDeed_NoText ?q_NoDeed_NoLine ?q_NoDeed_NoRow ?q_NoDeed_NoCell ?q_NoDeed_NoOrder ?q_NoDeed_NoThing ?q_NoDeed_NoSource ?q_NoDeed_NoTable ?q_NoDeed_NoDeed ?q_NoDeed_Clash ?q_Clash_NoFit ?q_Clash_NoText ?q_Clash_NoLine ?q_Clash_NoRow ?q_Clash_NoCell ?q_Clash_NoOrder ?q_Clash_NoThing ?q_Clash_NoSource ?q_Clash_NoTable ?q_Clash_NoDeed ?q_Clash_Clash ?q_NotSuch_NoFit ?q_NotSuch_NoText ?q_NotSuch_NoLine ?q_NotSuch_NoRow ?q_NotSuch_NoCell ?q_NotSuch_NoOrder ?q_NotSuch_NoThing ?q_NotSuch_NoSource ?q_NotSuch_NoTable ?q_NotSuch_NoDeed ?q_NotSuch_Clash ?q_Lost_NoFit ?q_Lost_NoText ?q_Lost_NoLine ?q_Lost_NoRow ?q_Lost_NoCell ?q_Lost_NoOrder ?q_Lost_NoThing ?q_Lost_NoSource ?q_Lost_NoTable ?q_Lost_NoDeed ?q_Lost_Clash ?q_Shut_NoFit ?q_Shut_NoText ?q_Shut_NoLine ?q_Shut_NoRow ?q_Shut_NoCell ?q_Shut_NoOrder ?q_Shut_NoThing ?q_Shut_NoSource ?q_Shut_NoTable ?q_Shut_NoDeed ?q_Shut_Clash ?q_ValueError_NoFit ?q_ValueError_NoText ?q_ValueError_NoLine ?q_ValueError_NoRow ?q_ValueError_NoCell ?q_ValueError_NoOrder ?q_ValueError_NoThing ?q_ValueError_NoSource ?q_ValueError_NoTable ?q_ValueError_NoDeed ?q_ValueError_Clash ?q_LookupError_NoFit ?q_LookupError_NoText ?q_LookupError_NoLine ?q_LookupError_NoRow ?q_LookupError_NoCell ?q_LookupError_NoOrder ?q_LookupError_NoThing ?q_LookupError_NoSource ?q_LookupError_NoTable ?q_LookupError_NoDeed ?q_LookupError_Clash ?q_RuntimeError_NoFit ?q_RuntimeError_NoText ?q_RuntimeError_NoLine ?q_RuntimeError_NoRow ?q_RuntimeError_NoCell ?q_RuntimeError_NoOrder ?q_RuntimeError_NoThing ?q_RuntimeError_NoSource ?q_RuntimeError_NoTable ?q_RuntimeError_NoDeed ?q_RuntimeError_Clash ?mb_NotSuch ?md_NotSuch ?mt_NotSuch ?u_NotSuch_NoFit ?u_NotSuch_NoText ?u_NotSuch_NoLine ?u_NotSuch_NoRow ?u_NotSuch_NoCell ?u_NotSuch_NoOrder ?u_NotSuch_NoThing ?u_NotSuch_NoSource ?u_NotSuch_NoTable ?u_NotSuch_NoDeed ?u_NotSuch_Clash ?mb_Lost ?md_Lost ?mt_Lost ?u_Lost_NoFit ?u_Lost_NoText ?u_Lost_NoLine ?u_Lost_NoRow ?u_Lost_NoCell ?u_Lost_NoOrder ?u_Lost_NoThing ?u_Lost_NoSource ?u_Lost_NoTable ?u_Lost_NoDeed ?u_Lost_Clash ?mb_Shut ?md_Shut ?mt_Shut ?u_Shut_NoFit ?u_Shut_NoText ?u_Shut_NoLine ?u_Shut_NoRow ?u_Shut_NoCell ?u_Shut_NoOrder ?u_Shut_NoThing ?u_Shut_NoSource ?u_Shut_NoTable ?u_Shut_NoDeed ?u_Shut_Clash ?a_l_take ?l_l_take ?c_l_take ?k_l_take ?a_l_pick ?l_l_pick ?c_l_pick ?k_l_pick ?a_l_thing ?l_l_thing ?c_l_thing ?k_l_thing ?a_l_by_places ?l_l_by_places ?c_l_by_places ?k_l_by_places ?a_l_by_names ?l_l_by_names ?c_l_by_names ?k_l_by_names ?a_l_classes ?l_l_classes ?c_l_classes ?k_l_classes ?a_l_families ?l_l_families ?c_l_families ?k_l_families ?a_l_values ?l_l_values ?c_l_values ?k_l_values ?a_l_raised ?l_l_raised ?c_l_raised ?k_l_raised ?a_l_right ?l_l_right ?c_l_right ?k_l_right ?a_l_hand ?l_l_hand ?c_l_hand ?k_l_hand ?a_law ?l_law ?c_law ?k_law ?zb_LookupError ?zb_RuntimeError ?zb_ValueError ?zb_all ?zb_enumerate ?zb_int ?zb_isinstance ?zb_len ?zb_min ?zb_range ?zb_repr LW.law_right
    (case en_x => k_is)
    (case et_x => k_is)
    (case a_NotSuch => k_is)
    (case g1_NotSuch => k_is)
    (case g2_NotSuch => k_is)
    (case g3_NotSuch => k_is)
    (case a_Lost => k_is)
    (case g1_Lost => k_is)
    (case g2_Lost => k_is)
    (case g3_Lost => k_is)
    (case a_Shut => k_is)
    (case g1_Shut => k_is)
    (case g2_Shut => k_is)
    (case g3_Shut => k_is)
    (case a_NoFit => k_is)
    (case xl_NoFit => k_is)
    (case xr_NoFit => decide)
    (case xs_NoFit => k_is)
    (case xe_NoFit => k_is)
    (case xt_NoFit => k_is)
    (case xk_NoFit => k_is)
    (case eg_NoFit => k_is)
    (case ek_NoFit => k_is)
    (case ed_NoFit => k_is)
    (case ea_NoFit => k_is)
    (case em_NoFit => k_is)
    (case ai_NoFit => k_is)
    (case ti_NoFit => k_is)
    (case l_NoFit_init => k_is)
    (case c_NoFit_init => k_is)
    (case k_NoFit_init => k_is)
    (case n0_NoFit => k_is)
    (case a_NoText => k_is)
    (case xl_NoText => k_is)
    (case xr_NoText => decide)
    (case xs_NoText => k_is)
    (case xe_NoText => k_is)
    (case xt_NoText => k_is)
    (case xk_NoText => k_is)
    (case eg_NoText => k_is)
    (case ek_NoText => k_is)
    (case ed_NoText => k_is)
    (case ea_NoText => k_is)
    (case em_NoText => k_is)
    (case ai_NoText => k_is)
    (case ti_NoText => k_is)
    (case l_NoText_init => k_is)
    (case c_NoText_init => k_is)
    (case k_NoText_init => k_is)
    (case n0_NoText => k_is)
    (case a_NoLine => k_is)
    (case xl_NoLine => k_is)
    (case xr_NoLine => decide)
    (case xs_NoLine => k_is)
    (case xe_NoLine => k_is)
    (case xt_NoLine => k_is)
    (case xk_NoLine => k_is)
    (case eg_NoLine => k_is)
    (case ek_NoLine => k_is)
    (case ed_NoLine => k_is)
    (case ea_NoLine => k_is)
    (case em_NoLine => k_is)
    (case ai_NoLine => k_is)
    (case ti_NoLine => k_is)
    (case l_NoLine_init => k_is)
    (case c_NoLine_init => k_is)
    (case k_NoLine_init => k_is)
    (case n0_NoLine => k_is)
    (case a_NoRow => k_is)
    (case xl_NoRow => k_is)
    (case xr_NoRow => decide)
    (case xs_NoRow => k_is)
    (case xe_NoRow => k_is)
    (case xt_NoRow => k_is)
    (case xk_NoRow => k_is)
    (case eg_NoRow => k_is)
    (case ek_NoRow => k_is)
    (case ed_NoRow => k_is)
    (case ea_NoRow => k_is)
    (case em_NoRow => k_is)
    (case ai_NoRow => k_is)
    (case ti_NoRow => k_is)
    (case l_NoRow_init => k_is)
    (case c_NoRow_init => k_is)
    (case k_NoRow_init => k_is)
    (case n0_NoRow => k_is)
    (case a_NoCell => k_is)
    (case xl_NoCell => k_is)
    (case xr_NoCell => decide)
    (case xs_NoCell => k_is)
    (case xe_NoCell => k_is)
    (case xt_NoCell => k_is)
    (case xk_NoCell => k_is)
    (case eg_NoCell => k_is)
    (case ek_NoCell => k_is)
    (case ed_NoCell => k_is)
    (case ea_NoCell => k_is)
    (case em_NoCell => k_is)
    (case ai_NoCell => k_is)
    (case ti_NoCell => k_is)
    (case l_NoCell_init => k_is)
    (case c_NoCell_init => k_is)
    (case k_NoCell_init => k_is)
    (case n0_NoCell => k_is)
    (case n1_NoCell => k_is)
    (case a_NoOrder => k_is)
    (case xl_NoOrder => k_is)
    (case xr_NoOrder => decide)
    (case xs_NoOrder => k_is)
    (case xe_NoOrder => k_is)
    (case xt_NoOrder => k_is)
    (case xk_NoOrder => k_is)
    (case eg_NoOrder => k_is)
    (case ek_NoOrder => k_is)
    (case ed_NoOrder => k_is)
    (case ea_NoOrder => k_is)
    (case em_NoOrder => k_is)
    (case ai_NoOrder => k_is)
    (case ti_NoOrder => k_is)
    (case l_NoOrder_init => k_is)
    (case c_NoOrder_init => k_is)
    (case k_NoOrder_init => k_is)
    (case n0_NoOrder => k_is)
    (case a_NoThing => k_is)
    (case xl_NoThing => k_is)
    (case xr_NoThing => decide)
    (case xs_NoThing => k_is)
    (case xe_NoThing => k_is)
    (case xt_NoThing => k_is)
    (case xk_NoThing => k_is)
    (case eg_NoThing => k_is)
    (case ek_NoThing => k_is)
    (case ed_NoThing => k_is)
    (case ea_NoThing => k_is)
    (case em_NoThing => k_is)
    (case ai_NoThing => k_is)
    (case ti_NoThing => k_is)
    (case l_NoThing_init => k_is)
    (case c_NoThing_init => k_is)
    (case k_NoThing_init => k_is)
    (case n0_NoThing => k_is)
    (case a_NoSource => k_is)
    (case xl_NoSource => k_is)
    (case xr_NoSource => decide)
    (case xs_NoSource => k_is)
    (case xe_NoSource => k_is)
    (case xt_NoSource => k_is)
    (case xk_NoSource => k_is)
    (case eg_NoSource => k_is)
    (case ek_NoSource => k_is)
    (case ed_NoSource => k_is)
    (case ea_NoSource => k_is)
    (case em_NoSource => k_is)
    (case ai_NoSource => k_is)
    (case ti_NoSource => k_is)
    (case l_NoSource_init => k_is)
    (case c_NoSource_init => k_is)
    (case k_NoSource_init => k_is)
    (case n0_NoSource => k_is)
    (case a_NoTable => k_is)
    (case xl_NoTable => k_is)
    (case xr_NoTable => decide)
    (case xs_NoTable => k_is)
    (case xe_NoTable => k_is)
    (case xt_NoTable => k_is)
    (case xk_NoTable => k_is)
    (case eg_NoTable => k_is)
    (case ek_NoTable => k_is)
    (case ed_NoTable => k_is)
    (case ea_NoTable => k_is)
    (case em_NoTable => k_is)
    (case ai_NoTable => k_is)
    (case ti_NoTable => k_is)
    (case l_NoTable_init => k_is)
    (case c_NoTable_init => k_is)
    (case k_NoTable_init => k_is)
    (case n0_NoTable => k_is)
    (case a_NoDeed => k_is)
    (case xl_NoDeed => k_is)
    (case xr_NoDeed => decide)
    (case xs_NoDeed => k_is)
    (case xe_NoDeed => k_is)
    (case xt_NoDeed => k_is)
    (case xk_NoDeed => k_is)
    (case eg_NoDeed => k_is)
    (case ek_NoDeed => k_is)
    (case ed_NoDeed => k_is)
    (case ea_NoDeed => k_is)
    (case em_NoDeed => k_is)
    (case ai_NoDeed => k_is)
    (case ti_NoDeed => k_is)
    (case l_NoDeed_init => k_is)
    (case c_NoDeed_init => k_is)
    (case k_NoDeed_init => k_is)
    (case a_Clash => k_is)
    (case xl_Clash => k_is)
    (case xr_Clash => decide)
    (case xs_Clash => k_is)
    (case xe_Clash => k_is)
    (case xt_Clash => k_is)
    (case xk_Clash => k_is)
    (case eg_Clash => k_is)
    (case ek_Clash => k_is)
    (case ed_Clash => k_is)
    (case ea_Clash => k_is)
    (case em_Clash => k_is)
    (case ai_Clash => k_is)
    (case ti_Clash => k_is)
    (case l_Clash_init => k_is)
    (case c_Clash_init => k_is)
    (case k_Clash_init => k_is)
    (case n0_Clash => k_is)
    (case n1_Clash => k_is)
    (case n2_Clash => k_is)
    (case n3_Clash => k_is)
    (case q_NoFit_NoFit => kit_is)
    (case q_NoFit_NoText => kit_is)
    (case q_NoFit_NoLine => kit_is)
    (case q_NoFit_NoRow => kit_is)
    (case q_NoFit_NoCell => kit_is)
    (case q_NoFit_NoOrder => kit_is)
    (case q_NoFit_NoThing => kit_is)
    (case q_NoFit_NoSource => kit_is)
    (case q_NoFit_NoTable => kit_is)
    (case q_NoFit_NoDeed => kit_is)
    (case q_NoFit_Clash => kit_is)
    (case q_NoText_NoFit => kit_is)
    (case q_NoText_NoText => kit_is)
    (case q_NoText_NoLine => kit_is)
    (case q_NoText_NoRow => kit_is)
    (case q_NoText_NoCell => kit_is)
    (case q_NoText_NoOrder => kit_is)
    (case q_NoText_NoThing => kit_is)
    (case q_NoText_NoSource => kit_is)
    (case q_NoText_NoTable => kit_is)
    (case q_NoText_NoDeed => kit_is)
    (case q_NoText_Clash => kit_is)
    (case q_NoLine_NoFit => kit_is)
    (case q_NoLine_NoText => kit_is)
    (case q_NoLine_NoLine => kit_is)
    (case q_NoLine_NoRow => kit_is)
    (case q_NoLine_NoCell => kit_is)
    (case q_NoLine_NoOrder => kit_is)
    (case q_NoLine_NoThing => kit_is)
    (case q_NoLine_NoSource => kit_is)
    (case q_NoLine_NoTable => kit_is)
    (case q_NoLine_NoDeed => kit_is)
    (case q_NoLine_Clash => kit_is)
    (case q_NoRow_NoFit => kit_is)
    (case q_NoRow_NoText => kit_is)
    (case q_NoRow_NoLine => kit_is)
    (case q_NoRow_NoRow => kit_is)
    (case q_NoRow_NoCell => kit_is)
    (case q_NoRow_NoOrder => kit_is)
    (case q_NoRow_NoThing => kit_is)
    (case q_NoRow_NoSource => kit_is)
    (case q_NoRow_NoTable => kit_is)
    (case q_NoRow_NoDeed => kit_is)
    (case q_NoRow_Clash => kit_is)
    (case q_NoCell_NoFit => kit_is)
    (case q_NoCell_NoText => kit_is)
    (case q_NoCell_NoLine => kit_is)
    (case q_NoCell_NoRow => kit_is)
    (case q_NoCell_NoCell => kit_is)
    (case q_NoCell_NoOrder => kit_is)
    (case q_NoCell_NoThing => kit_is)
    (case q_NoCell_NoSource => kit_is)
    (case q_NoCell_NoTable => kit_is)
    (case q_NoCell_NoDeed => kit_is)
    (case q_NoCell_Clash => kit_is)
    (case q_NoOrder_NoFit => kit_is)
    (case q_NoOrder_NoText => kit_is)
    (case q_NoOrder_NoLine => kit_is)
    (case q_NoOrder_NoRow => kit_is)
    (case q_NoOrder_NoCell => kit_is)
    (case q_NoOrder_NoOrder => kit_is)
    (case q_NoOrder_NoThing => kit_is)
    (case q_NoOrder_NoSource => kit_is)
    (case q_NoOrder_NoTable => kit_is)
    (case q_NoOrder_NoDeed => kit_is)
    (case q_NoOrder_Clash => kit_is)
    (case q_NoThing_NoFit => kit_is)
    (case q_NoThing_NoText => kit_is)
    (case q_NoThing_NoLine => kit_is)
    (case q_NoThing_NoRow => kit_is)
    (case q_NoThing_NoCell => kit_is)
    (case q_NoThing_NoOrder => kit_is)
    (case q_NoThing_NoThing => kit_is)
    (case q_NoThing_NoSource => kit_is)
    (case q_NoThing_NoTable => kit_is)
    (case q_NoThing_NoDeed => kit_is)
    (case q_NoThing_Clash => kit_is)
    (case q_NoSource_NoFit => kit_is)
    (case q_NoSource_NoText => kit_is)
    (case q_NoSource_NoLine => kit_is)
    (case q_NoSource_NoRow => kit_is)
    (case q_NoSource_NoCell => kit_is)
    (case q_NoSource_NoOrder => kit_is)
    (case q_NoSource_NoThing => kit_is)
    (case q_NoSource_NoSource => kit_is)
    (case q_NoSource_NoTable => kit_is)
    (case q_NoSource_NoDeed => kit_is)
    (case q_NoSource_Clash => kit_is)
    (case q_NoTable_NoFit => kit_is)
    (case q_NoTable_NoText => kit_is)
    (case q_NoTable_NoLine => kit_is)
    (case q_NoTable_NoRow => kit_is)
    (case q_NoTable_NoCell => kit_is)
    (case q_NoTable_NoOrder => kit_is)
    (case q_NoTable_NoThing => kit_is)
    (case q_NoTable_NoSource => kit_is)
    (case q_NoTable_NoTable => kit_is)
    (case q_NoTable_NoDeed => kit_is)
    (case q_NoTable_Clash => kit_is)
    (case q_NoDeed_NoFit => kit_is)
    (case q_NoDeed_NoText => kit_is)
    (case q_NoDeed_NoLine => kit_is)
    (case q_NoDeed_NoRow => kit_is)
    (case q_NoDeed_NoCell => kit_is)
    (case q_NoDeed_NoOrder => kit_is)
    (case q_NoDeed_NoThing => kit_is)
    (case q_NoDeed_NoSource => kit_is)
    (case q_NoDeed_NoTable => kit_is)
    (case q_NoDeed_NoDeed => kit_is)
    (case q_NoDeed_Clash => kit_is)
    (case q_Clash_NoFit => kit_is)
    (case q_Clash_NoText => kit_is)
    (case q_Clash_NoLine => kit_is)
    (case q_Clash_NoRow => kit_is)
    (case q_Clash_NoCell => kit_is)
    (case q_Clash_NoOrder => kit_is)
    (case q_Clash_NoThing => kit_is)
    (case q_Clash_NoSource => kit_is)
    (case q_Clash_NoTable => kit_is)
    (case q_Clash_NoDeed => kit_is)
    (case q_Clash_Clash => kit_is)
    (case q_NotSuch_NoFit => kit_is)
    (case q_NotSuch_NoText => kit_is)
    (case q_NotSuch_NoLine => kit_is)
    (case q_NotSuch_NoRow => kit_is)
    (case q_NotSuch_NoCell => kit_is)
    (case q_NotSuch_NoOrder => kit_is)
    (case q_NotSuch_NoThing => kit_is)
    (case q_NotSuch_NoSource => kit_is)
    (case q_NotSuch_NoTable => kit_is)
    (case q_NotSuch_NoDeed => kit_is)
    (case q_NotSuch_Clash => kit_is)
    (case q_Lost_NoFit => kit_is)
    (case q_Lost_NoText => kit_is)
    (case q_Lost_NoLine => kit_is)
    (case q_Lost_NoRow => kit_is)
    (case q_Lost_NoCell => kit_is)
    (case q_Lost_NoOrder => kit_is)
    (case q_Lost_NoThing => kit_is)
    (case q_Lost_NoSource => kit_is)
    (case q_Lost_NoTable => kit_is)
    (case q_Lost_NoDeed => kit_is)
    (case q_Lost_Clash => kit_is)
    (case q_Shut_NoFit => kit_is)
    (case q_Shut_NoText => kit_is)
    (case q_Shut_NoLine => kit_is)
    (case q_Shut_NoRow => kit_is)
    (case q_Shut_NoCell => kit_is)
    (case q_Shut_NoOrder => kit_is)
    (case q_Shut_NoThing => kit_is)
    (case q_Shut_NoSource => kit_is)
    (case q_Shut_NoTable => kit_is)
    (case q_Shut_NoDeed => kit_is)
    (case q_Shut_Clash => kit_is)
    (case q_ValueError_NoFit => kit_is)
    (case q_ValueError_NoText => kit_is)
    (case q_ValueError_NoLine => kit_is)
    (case q_ValueError_NoRow => kit_is)
    (case q_ValueError_NoCell => kit_is)
    (case q_ValueError_NoOrder => kit_is)
    (case q_ValueError_NoThing => kit_is)
    (case q_ValueError_NoSource => kit_is)
    (case q_ValueError_NoTable => kit_is)
    (case q_ValueError_NoDeed => kit_is)
    (case q_ValueError_Clash => kit_is)
    (case q_LookupError_NoFit => kit_is)
    (case q_LookupError_NoText => kit_is)
    (case q_LookupError_NoLine => kit_is)
    (case q_LookupError_NoRow => kit_is)
    (case q_LookupError_NoCell => kit_is)
    (case q_LookupError_NoOrder => kit_is)
    (case q_LookupError_NoThing => kit_is)
    (case q_LookupError_NoSource => kit_is)
    (case q_LookupError_NoTable => kit_is)
    (case q_LookupError_NoDeed => kit_is)
    (case q_LookupError_Clash => kit_is)
    (case q_RuntimeError_NoFit => kit_is)
    (case q_RuntimeError_NoText => kit_is)
    (case q_RuntimeError_NoLine => kit_is)
    (case q_RuntimeError_NoRow => kit_is)
    (case q_RuntimeError_NoCell => kit_is)
    (case q_RuntimeError_NoOrder => kit_is)
    (case q_RuntimeError_NoThing => kit_is)
    (case q_RuntimeError_NoSource => kit_is)
    (case q_RuntimeError_NoTable => kit_is)
    (case q_RuntimeError_NoDeed => kit_is)
    (case q_RuntimeError_Clash => kit_is)
    (case mb_NotSuch => k_is)
    (case md_NotSuch => k_is)
    (case mt_NotSuch => k_is)
    (case u_NotSuch_NoFit => k_is)
    (case u_NotSuch_NoText => k_is)
    (case u_NotSuch_NoLine => k_is)
    (case u_NotSuch_NoRow => k_is)
    (case u_NotSuch_NoCell => k_is)
    (case u_NotSuch_NoOrder => k_is)
    (case u_NotSuch_NoThing => k_is)
    (case u_NotSuch_NoSource => k_is)
    (case u_NotSuch_NoTable => k_is)
    (case u_NotSuch_NoDeed => k_is)
    (case u_NotSuch_Clash => k_is)
    (case mb_Lost => k_is)
    (case md_Lost => k_is)
    (case mt_Lost => k_is)
    (case u_Lost_NoFit => k_is)
    (case u_Lost_NoText => k_is)
    (case u_Lost_NoLine => k_is)
    (case u_Lost_NoRow => k_is)
    (case u_Lost_NoCell => k_is)
    (case u_Lost_NoOrder => k_is)
    (case u_Lost_NoThing => k_is)
    (case u_Lost_NoSource => k_is)
    (case u_Lost_NoTable => k_is)
    (case u_Lost_NoDeed => k_is)
    (case u_Lost_Clash => k_is)
    (case mb_Shut => k_is)
    (case md_Shut => k_is)
    (case mt_Shut => k_is)
    (case u_Shut_NoFit => k_is)
    (case u_Shut_NoText => k_is)
    (case u_Shut_NoLine => k_is)
    (case u_Shut_NoRow => k_is)
    (case u_Shut_NoCell => k_is)
    (case u_Shut_NoOrder => k_is)
    (case u_Shut_NoThing => k_is)
    (case u_Shut_NoSource => k_is)
    (case u_Shut_NoTable => k_is)
    (case u_Shut_NoDeed => k_is)
    (case u_Shut_Clash => k_is)
    (case a_l_take => k_is)
    (case l_l_take => k_is)
    (case c_l_take => k_is)
    (case k_l_take => k_is)
    (case a_l_pick => k_is)
    (case l_l_pick => k_is)
    (case c_l_pick => k_is)
    (case k_l_pick => k_is)
    (case a_l_thing => k_is)
    (case l_l_thing => k_is)
    (case c_l_thing => k_is)
    (case k_l_thing => k_is)
    (case a_l_by_places => k_is)
    (case l_l_by_places => k_is)
    (case c_l_by_places => k_is)
    (case k_l_by_places => k_is)
    (case a_l_by_names => k_is)
    (case l_l_by_names => k_is)
    (case c_l_by_names => k_is)
    (case k_l_by_names => k_is)
    (case a_l_classes => k_is)
    (case l_l_classes => k_is)
    (case c_l_classes => k_is)
    (case k_l_classes => k_is)
    (case a_l_families => k_is)
    (case l_l_families => k_is)
    (case c_l_families => k_is)
    (case k_l_families => k_is)
    (case a_l_values => k_is)
    (case l_l_values => k_is)
    (case c_l_values => k_is)
    (case k_l_values => k_is)
    (case a_l_raised => k_is)
    (case l_l_raised => k_is)
    (case c_l_raised => k_is)
    (case k_l_raised => k_is)
    (case a_l_right => k_is)
    (case l_l_right => k_is)
    (case c_l_right => k_is)
    (case k_l_right => k_is)
    (case a_l_hand => k_is)
    (case l_l_hand => k_is)
    (case c_l_hand => k_is)
    (case k_l_hand => k_is)
    (case a_law => k_is)
    (case l_law => k_is)
    (case c_law => k_is)
    (case k_law => k_is)
    (case zb_LookupError => k_is)
    (case zb_RuntimeError => k_is)
    (case zb_ValueError => k_is)
    (case zb_all => k_is)
    (case zb_enumerate => k_is)
    (case zb_int => k_is)
    (case zb_isinstance => k_is)
    (case zb_len => k_is)
    (case zb_min => k_is)
    (case zb_range => k_is)
    (case zb_repr => k_is)

