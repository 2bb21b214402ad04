import PyProof.Rows.All
import Wide.All
import OpenK.AllK
import Wide.FinOn
import HandS.ForMost
import HandS.ForExc
import HandS.CallSlots
import HandS.IsInst
import HandS.Zip
import HandS.Star
import HandS.Flow
import HandS.StrMore
import HandS.Wide
import HandS.WideBits
import HandS.ExcInit
import HandS.Lambda
import HandS.TupAny
import HandS.RaiseMore
import HandS.Conv
import HandS.SetKeys
import HandS.EndBits
import HandS.Replace
import PyProof.Rows.StrPadFill
import HandS.Text
import KE.GoesMore
import HandS.DictComp
import HandS.Steps
import KE.SortData
import HandS.Set
import HandS.SetFor
import HandS.SetTxt0
import PyProof.Rows.SetFrom
import KE.KEqDict
import KE.SortKeyHeap
import HandS.SortKw
import KE.DataFind
import OpenK.KTop
import PyProof.StrLawsRepr
import KE.KDictZip
import HandS.NoneIn
import HandS.Small
import KE.GoesZip
import KE.KItemsList
import PyProof.TupleOfStr
import HandS.Style
import HandS.ReplaceLit
import HandS.TryOnly
import HandS.EndTab
import KE.KNestM
import HandS.More
import PySem.Challenge.RW_cleanedtables_k21_steps_on_rows
set_option Elab.async false
set_option linter.all false
set_option maxRecDepth 100000
open PySem PySem.W PyProof.Rows in
set_option maxRecDepth 100000 in
set_option maxHeartbeats 0 in
open_top topK for PySem.Challenge.rw_cleanedtables_k21_steps_on_rows

namespace L2
open PySem PySem.Spec PyProof.Rows
/-- a caught exception of class C at e, its dict at d -/
def exq (e C : Addr) (d : Option Addr) : HO := .ext fun h => ∃ oe vs, h.get? e = some oe ∧ oe.cls = .ref C ∧ oe.dict = d ∧ oe.data = .fields vs
end L2
namespace DL
open PySem PySem.Spec PyProof.Rows L2

abbrev D := PyData
/-- the tuple at a, whose object has no dict -/
def SqS (K : PySem.W.Frag) (H : Hp) (a : Addr) (xs : List V) : Prop := (∃ o, H a = some (.frz o (.tup xs)) ∧ o.dict = none) ∨
  ∃ (o : Obj) (its : Array Value) (n : Nat), K.lookup a = some o ∧ o.cls = .type "tuple" ∧ o.dict = none ∧ o.data = .seq its n ∧ its.size ≤ sizeLine ∧ Vals xs its.toList
theorem SqS.t {K : PySem.W.Frag} {H : Hp} {a : Addr} {xs : List V} : SqS K H a xs → SqT K H a xs
  | .inl ⟨o, h, _⟩ => .inl (.inr ⟨o, h⟩)
  | .inr ⟨o, its, n, h1, h2, _, h4⟩ => .inr ⟨o, its, n, h1, h2, h4⟩
theorem seqS {K : PySem.W.Frag} {H H' : Hp} {a : Addr} {xs : List V} (e : Same H H') : SqS K H a xs → SqS K H' a xs
  | .inl ⟨o, h, d⟩ => .inl ⟨o, e _ _ h, d⟩
  | .inr h => .inr h
/-- a new tuple -/
abbrev frT (its : Array Value) (xs : List V) : HO := .frz { cls := .type "tuple", data := .seq its } (.tup xs)
theorem SqS.of {K : PySem.W.Frag} {H : Hp} {a : Addr} {its : Array Value} {xs : List V} (h : H a = some (frT its xs)) : SqS K H a xs := .inl ⟨_, h, rfl⟩
def kD : Key → D
  | .inl i => .int i
  | .inr x => .str x
mutual
inductive Rp (K : PySem.W.Frag) (I : Hp) : V → D → Prop
  | non : Rp K I .non .none
  | bl (b : Bool) : Rp K I (.bl b) (.bool b)
  | int (i : Int) : Rp K I (.int i) (.int i)
  | str (x : Str) : Rp K I (.str x) (.str x)
  | lst {a : Addr} {xs : List V} {ds : List D} : SqL K I a xs → RpA K I xs ds → Rp K I (.ref a) (.list ds)
  | tup {a : Addr} {xs : List V} {ds : List D} : SqS K I a xs → RpA K I xs ds → Rp K I (.ref a) (.tuple ds)
  | dic {a : Addr} {kvs : List (Key × V)} {ps : List (D × D)} : I a = some (.dK kvs) → RpK K I kvs ps → Rp K I (.ref a) (.dict ps)
inductive RpA (K : PySem.W.Frag) (I : Hp) : List V → List D → Prop
  | nil : RpA K I [] []
  | cons {v : V} {vs : List V} {d : D} {ds : List D} : Rp K I v d → RpA K I vs ds → RpA K I (v :: vs) (d :: ds)
inductive RpK (K : PySem.W.Frag) (I : Hp) : List (Key × V) → List (D × D) → Prop
  | nil : RpK K I [] []
  | cons {k : Key} {v : V} {kvs : List (Key × V)} {d : D} {ps : List (D × D)} : Rp K I v d → RpK K I kvs ps → RpK K I ((k, v) :: kvs) ((kD k, d) :: ps)
end
theorem seqL {K : PySem.W.Frag} {H H' : Hp} {a : Addr} {xs : List V} (e : Same H H') (h : SqL K H a xs) : SqL K H' a xs := e.seq h
theorem seqT {K : PySem.W.Frag} {H H' : Hp} {a : Addr} {xs : List V} (e : Same H H') (h : SqT K H a xs) : SqT K H' a xs := by
  rcases h with (h | ⟨o, h⟩) | h
  · exact .inl (.inl (e _ _ h))
  · exact .inl (.inr ⟨o, e _ _ h⟩)
  · exact .inr h
mutual
theorem Rp.mono {K : PySem.W.Frag} {I I' : Hp} (e : Same I I') : ∀ (d : D) (v : V), Rp K I v d → Rp K I' v d
  | .none, _, h => by cases h; exact .non
  | .bool _, _, h => by cases h; exact .bl _
  | .int _, _, h => by cases h; exact .int _
  | .str _, _, h => by cases h; exact .str _
  | .list ds, _, h => by
    cases h with
    | lst hs ha => exact .lst (seqL e hs) (RpA.mono e ds _ ha)
  | .tuple ds, _, h => by
    cases h with
    | tup hs ha => exact .tup (seqS e hs) (RpA.mono e ds _ ha)
  | .dict ps, _, h => by
    cases h with
    | dic hs ha => exact .dic (e _ _ hs) (RpK.mono e ps _ ha)
theorem RpA.mono {K : PySem.W.Frag} {I I' : Hp} (e : Same I I') : ∀ (ds : List D) (vs : List V), RpA K I vs ds → RpA K I' vs ds
  | [], _, h => by cases h; exact .nil
  | d :: ds, _, h => by
    cases h with
    | cons h1 h2 => exact .cons (Rp.mono e d _ h1) (RpA.mono e ds _ h2)
theorem RpK.mono {K : PySem.W.Frag} {I I' : Hp} (e : Same I I') : ∀ (ps : List (D × D)) (kvs : List (Key × V)), RpK K I kvs ps → RpK K I' kvs ps
  | [], _, h => by cases h; exact .nil
  | (_, d) :: ps, _, h => by
    cases h with
    | cons h1 h2 => exact .cons (Rp.mono e d _ h1) (RpK.mono e ps _ h2)
end
theorem RpA.length {K : PySem.W.Frag} {I : Hp} : ∀ {ds : List D} {vs : List V}, RpA K I vs ds → vs.length = ds.length
  | _, _, .nil => rfl
  | _, _, .cons _ t => by rw [List.length_cons, List.length_cons, RpA.length t]
theorem RpA.get {K : PySem.W.Frag} {I : Hp} : ∀ {ds : List D} {vs : List V} {i : Nat} {v : V}, RpA K I vs ds → vs[i]? = some v → ∃ d, ds[i]? = some d ∧ Rp K I v d
  | _, _, _, _, .nil, h => by simp at h
  | _, _, 0, _, .cons r t, h => by
    simp at h
    subst h
    exact ⟨_, rfl, r⟩
  | _, _, i + 1, _, .cons r t, h => by
    obtain ⟨d, h1, h2⟩ := RpA.get (i := i) t (by simpa using h)
    exact ⟨d, by simpa using h1, h2⟩
theorem RpA.app {K : PySem.W.Frag} {I : Hp} : ∀ {ds es : List D} {vs us : List V}, RpA K I vs ds → RpA K I us es → RpA K I (vs ++ us) (ds ++ es)
  | _, _, _, _, .nil, h => h
  | _, _, _, _, .cons r t, h => .cons r (RpA.app t h)
theorem RpA.take {K : PySem.W.Frag} {I : Hp} : ∀ {ds : List D} {vs : List V} (n : Nat), RpA K I vs ds → RpA K I (vs.take n) (ds.take n)
  | _, _, 0, _ => by simp; exact .nil
  | _, _, n + 1, .nil => .nil
  | _, _, n + 1, .cons r t => .cons r (RpA.take n t)
theorem RpA.drop {K : PySem.W.Frag} {I : Hp} : ∀ {ds : List D} {vs : List V} (n : Nat), RpA K I vs ds → RpA K I (vs.drop n) (ds.drop n)
  | _, _, 0, h => h
  | _, _, n + 1, .nil => .nil
  | _, _, n + 1, .cons r t => RpA.drop n t
mutual
def nodict : D → Bool
  | .list ds => nodicts ds
  | .tuple ds => nodicts ds
  | .dict _ => false
  | _ => true
def nodicts : List D → Bool
  | [] => true
  | d :: ds => nodict d && nodicts ds
end
mutual
theorem Rp.dp {K : PySem.W.Frag} {I : Hp} : ∀ (d : D) (v : V), nodict d = true → Rp K I v d → Dp K I v d
  | .none, _, _, h => by cases h; exact .non
  | .bool _, _, _, h => by cases h; exact .bl _
  | .int _, _, _, h => by cases h; exact .int _
  | .str _, _, _, h => by cases h; exact .str _
  | .list ds, _, n, h => by
    cases h with
    | lst hs ha => exact .lst hs (RpA.dp ds _ (by simpa [nodict] using n) ha)
  | .tuple ds, _, n, h => by
    cases h with
    | tup hs ha => exact .tup hs.t (RpA.dp ds _ (by simpa [nodict] using n) ha)
  | .dict ps, _, n, _ => by simp [nodict] at n
theorem RpA.dp {K : PySem.W.Frag} {I : Hp} : ∀ (ds : List D) (vs : List V), nodicts ds = true → RpA K I vs ds → DpAll K I vs ds
  | [], _, _, h => by cases h; exact .nil
  | d :: ds, _, n, h => by
    simp only [nodicts, Bool.and_eq_true] at n
    cases h with
    | cons h1 h2 => exact .cons (Rp.dp d _ n.1 h1) (RpA.dp ds _ n.2 h2)
end

inductive Dv where
  | d (x : D) | c (n : Nat) | f (n : Nat)
abbrev DEnv := List (Option Dv)
inductive Cell where
  | lst (xs : List Dv) | dic (kvs : List (Key × Dv)) | dT (kvs : List (List Key × Dv)) | obj (C : Nat) (fs : List (Str × Dv)) | tup (xs : List Dv) | exc (C : Nat) (fs : List (Str × Dv)) | exk (C : Nat) (fs : List (Str × Dv)) | tab (i : Nat) (q : Str) | dead
abbrev Store := List Cell
structure Ex where
  cls : Nat
  fs : List (Str × Dv)
inductive Out (β : Type) where
  | ok (b : β) (μ : Store) | ex (e : Ex) (μ : Store) | bad
def Out.bind {β γ : Type} : Out β → (β → Store → Out γ) → Out γ
  | .ok b μ, k => k b μ
  | .ex e μ, _ => .ex e μ
  | .bad, _ => .bad
@[simp] theorem bind_ok {β γ : Type} (b : β) (μ : Store) (k : β → Store → Out γ) : (Out.ok b μ).bind k = k b μ := rfl
@[simp] theorem bind_ex {β γ : Type} (e : Ex) (μ : Store) (k : β → Store → Out γ) : (Out.ex e μ : Out β).bind k = .ex e μ := rfl
@[simp] theorem bind_bad {β γ : Type} (k : β → Store → Out γ) : (Out.bad : Out β).bind k = .bad := rfl

structure GT where
  K : PySem.W.Frag
  FA : Nat → Option Addr
/-- I: what is frozen; α: where the store's cells stand; F: what stands there for others, untouched -/
structure Wd where
  I : Hp
  α : List Addr
  F : Hp
def Wd.le (w w' : Wd) : Prop := Same w.I w'.I ∧ w.α <+: w'.α ∧ Same w.F w'.F
theorem Wd.le_refl (w : Wd) : w.le w := ⟨Same.refl _, List.prefix_refl _, Same.refl _⟩
theorem Wd.le.trans {a b c : Wd} (h : a.le b) (k : b.le c) : a.le c := ⟨h.1.trans k.1, h.2.1.trans k.2.1, h.2.2.trans k.2.2⟩

def Rv (G : GT) (w : Wd) (v : V) : Dv → Prop
  | .d x => Rp G.K w.I v x
  | .c n => ∃ a, w.α[n]? = some a ∧ v = .ref a
  | .f n => ∃ a, G.FA n = some a ∧ v = .ref a
theorem pre_get {α : Type} {l m : List α} (h : l <+: m) {n : Nat} {a : α} (e : l[n]? = some a) : m[n]? = some a := by
  obtain ⟨t, rfl⟩ := h
  have := (List.getElem?_eq_some_iff.mp e).1
  rw [List.getElem?_append_left this]
  exact e
theorem Rv.mono {G : GT} {w w' : Wd} (h : w.le w') {v : V} : ∀ {b : Dv}, Rv G w v b → Rv G w' v b
  | .d _, r => Rp.mono h.1 _ _ r
  | .c _, ⟨a, e, q⟩ => ⟨a, pre_get h.2.1 e, q⟩
  | .f _, r => r
abbrev Rvs (G : GT) (w : Wd) : List V → List Dv → Prop := Paired (Rv G w)
theorem Rvs.mono {G : GT} {w w' : Wd} (h : w.le w') : ∀ {vs : List V} {bs : List Dv}, Rvs G w vs bs → Rvs G w' vs bs
  | _, _, .nil => .nil
  | _, _, .cons r t => .cons (Rv.mono h r) (Rvs.mono h t)

def CellAt (G : GT) (w : Wd) (H : Hp) (a : Addr) : Cell → Prop
  | .lst xs => w.I a = none ∧ ∃ vs, H a = some (.lst vs) ∧ Rvs G w vs xs
  | .dic kvs => w.I a = none ∧ ∃ ws, H a = some (.dK ws) ∧ Paired (fun (p : Key × V) (q : Key × Dv) => p.1 = q.1 ∧ Rv G w p.2 q.2) ws kvs
  | .dT kvs => w.I a = none ∧ ∃ ws, H a = some (.dT ws) ∧ Paired (fun (p : List Key × V) (q : List Key × Dv) => p.1 = q.1 ∧ Rv G w p.2 q.2) ws kvs
  | .obj C fs => w.I a = none ∧ ∃ Ca dx ws, G.FA C = some Ca ∧ H a = some (.ins Ca dx ws) ∧ Paired (fun (p : Str × V) (q : Str × Dv) => p.1 = q.1 ∧ Rv G w p.2 q.2) ws fs
  | .tup xs => w.I a = none ∧ ∃ its vs, H a = some (frT its vs) ∧ Rvs G w vs xs
  | .exc C fs => w.I a = none ∧ ∃ Ca, G.FA C = some Ca ∧ ((fs = [] ∧ H a = some (exo a Ca none)) ∨ ∃ dx ws, H a = some (exo a Ca (some dx)) ∧ w.I dx = some (exd dx ws) ∧ Paired (fun (p : Str × V) (q : Str × Dv) => p.1 = q.1 ∧ Rv G w p.2 q.2) ws fs)
  | .exk C fs => w.I a = none ∧ ∃ Ca, G.FA C = some Ca ∧ ((fs = [] ∧ H a = some (exq a Ca none)) ∨ ∃ dx ws, H a = some (exq a Ca (some dx)) ∧ w.I dx = some (.xd ws) ∧ Paired (fun (p : Str × V) (q : Str × Dv) => p.1 = q.1 ∧ Rv G w p.2 q.2) ws fs)
  | .tab i q => w.I a = none ∧ G.FA i = some a ∧ ∃ ps : Array Value, H a = some (.tbl ps) ∧ TriplesOk ps.toList ∧ ∀ (p : Pos) (u : Value), codeAmong p ps.toList = some u → ∃ c, u = .ref c ∧ w.I c = some (LamX.CodeO c q)
  | .dead => True
structure Lay (G : GT) (w : Wd) (μ : Store) (H : Hp) : Prop where
  same : Same w.I H
  len : w.α.length = μ.length
  nd : w.α.Nodup
  lv : ∀ a ∈ w.α, ∃ o, H a = some o
  fr : Same w.F H
  fd : ∀ a ∈ w.α, w.F a = none
  di : ∀ a o, w.F a = some o → w.I a = none
  at_ : ∀ (n : Nat) (c : Cell) (a : Addr), μ[n]? = some c → w.α[n]? = some a → CellAt G w H a c
theorem Paired.imp {α β : Type} {F F' : α → β → Prop} (h : ∀ a b, F a b → F' a b) : ∀ {l : List α} {m : List β}, Paired F l m → Paired F' l m
  | _, _, .nil => .nil
  | _, _, .cons r t => .cons (h _ _ r) (Paired.imp h t)
def EnvR (G : GT) (w : Wd) (σ : L2.St) (ρ : DEnv) : Prop := σ.length = ρ.length ∧ ∀ (i : Nat) (b : Dv), ρ[i]? = some (some b) → ∃ v, σ[i]? = some (some v) ∧ Rv G w v b
theorem EnvR.mono {G : GT} {w w' : Wd} (h : w.le w') {σ : L2.St} {ρ : DEnv} (e : EnvR G w σ ρ) : EnvR G w' σ ρ :=
  ⟨e.1, fun i b q => let ⟨v, h1, h2⟩ := e.2 i b q; ⟨v, h1, Rv.mono h h2⟩⟩
theorem EnvR.set {G : GT} {w : Wd} {σ : L2.St} {ρ : DEnv} (e : EnvR G w σ ρ) (i : Nat) {v : V} {b : Dv} (r : Rv G w v b) : EnvR G w (σ.set i (some v)) (ρ.set i (some b)) := by
  refine ⟨by rw [List.length_set, List.length_set]; exact e.1, fun j c q => ?_⟩
  by_cases h : i = j
  · subst h
    by_cases hi : i < ρ.length
    · rw [List.getElem?_set_self hi] at q
      cases q
      exact ⟨v, by rw [List.getElem?_set_self (by rw [e.1]; exact hi)], r⟩
    · rw [List.getElem?_eq_none (by rw [List.length_set]; omega)] at q
      cases q
  · rw [List.getElem?_set_ne h] at q
    obtain ⟨u, h1, h2⟩ := e.2 j c q
    exact ⟨u, by rw [List.getElem?_set_ne h]; exact h1, h2⟩

/-- an exception at its data -/
def ExR (G : GT) (w : Wd) (H : Hp) (cls : Value) (d : Option Addr) (e : Ex) : Prop :=
  ∃ C, G.FA e.cls = some C ∧ cls = .ref C ∧ ((d = none ∧ e.fs = []) ∨ ∃ da vs, d = some da ∧ w.I da = some (.xd vs) ∧ Paired (fun (p : Str × V) (q : Str × Dv) => p.1 = q.1 ∧ Rv G w p.2 q.2) vs e.fs)

def Pst {β γ : Type} (G : GT) (W : WX) (σ : L2.St) (R : Wd → γ → β → Prop) (w : Wd) (o : Out β) (Q : γ → Hp → Prop) : Prop :=
  match o with
  | .ok b μ' => ∀ w' v H', w.le w' → Lay G w' μ' H' → R w' v b → Q v H'
  | .ex e μ' => ∀ w' cls d H', w.le w' → Lay G w' μ' H' → ExR G w' H' cls d e → W cls d σ H'
  | .bad => False
theorem Pst.mono {β γ : Type} {G : GT} {W : WX} {σ : L2.St} {R : Wd → γ → β → Prop} {w w' : Wd} {o : Out β} {Q : γ → Hp → Prop} (h : w.le w') (p : Pst G W σ R w o Q) : Pst G W σ R w' o Q := by
  cases o with
  | ok b μ => exact fun w2 v H l => p w2 v H (h.trans l)
  | ex e μ => exact fun w2 c d H l => p w2 c d H (h.trans l)
  | bad => exact p
def tD {β γ : Type} (G : GT) (W : WX) (R : Wd → γ → β → Prop) (m : DEnv → Store → Out β) : L2.St → Hp → (γ → Hp → Prop) → Prop :=
  fun σ H Q => ∃ w μ ρ, Lay G w μ H ∧ EnvR G w σ ρ ∧ Pst G W σ R w (m ρ μ) Q
theorem tD.seq {β γ δ ε : Type} {G : GT} {W : WX} {R : Wd → γ → β → Prop} {R2 : Wd → δ → ε → Prop} {m : DEnv → Store → Out β} {k : DEnv → β → Store → Out ε} {σ : L2.St} {H : Hp} {Q : δ → Hp → Prop} {S : γ → Hp → Prop}
    {w : Wd} {μ : Store} {ρ : DEnv} (hl : Lay G w μ H) (he : EnvR G w σ ρ) (p : Pst G W σ R2 w ((m ρ μ).bind (k ρ)) Q)
    (h : ∀ w1 μ1 H1 v b, w.le w1 → Lay G w1 μ1 H1 → EnvR G w1 σ ρ → R w1 v b → Pst G W σ R2 w1 (k ρ b μ1) Q → S v H1) : tD G W R m σ H S := by
  refine ⟨w, μ, ρ, hl, he, ?_⟩
  cases e : m ρ μ with
  | ok b μ1 =>
    rw [e] at p
    exact fun w1 v H1 l1 lay r => h w1 μ1 H1 v b l1 lay (he.mono l1) r (Pst.mono l1 p)
  | ex x μ1 =>
    rw [e] at p
    exact p
  | bad =>
    rw [e] at p
    exact p.elim

abbrev tE (G : GT) (W : WX) (m : DEnv → Store → Out Dv) : TE := tD G W (Rv G) m
abbrev tT (G : GT) (W : WX) (m : DEnv → Store → Out Bool) : TT := tD G W (fun _ b c => b = c) m
abbrev tA (G : GT) (W : WX) (m : DEnv → Store → Out (List Dv)) : TA := tD G W (Rvs G) m
theorem PE.imp {X : Cx} {e : Expr} {t t' : TE} (h : PE X e t) (i : ∀ σ H Q, t' σ H Q → t σ H Q) : PE X e t' := ⟨fun p s σ H Q I hw => h.run p s σ H Q I (i _ _ _ hw)⟩
theorem PT.imp {X : Cx} {e : Expr} {t t' : TT} (h : PT X e t) (i : ∀ σ H Q, t' σ H Q → t σ H Q) : PT X e t' := ⟨fun p s σ H Q I hw => h.run p s σ H Q I (i _ _ _ hw)⟩
theorem PW.imp {X : Cx} {e : Expr} {t t' : TT} (h : PW X e t) (i : ∀ σ H Q, t' σ H Q → t σ H Q) : PW X e t' := ⟨fun wh p s σ H Q I hw => h.run wh p s σ H Q I (i _ _ _ hw)⟩
theorem PA.imp {X : Cx} {e : List Expr} {t t' : TA} (h : PA X e t) (i : ∀ σ H Q, t' σ H Q → t σ H Q) : PA X e t' := ⟨fun po p s σ H Q I hw => h.run po p s σ H Q I (i _ _ _ hw)⟩
theorem PS.imp {X : Cx} {e : Stmt} {t t' : TS} (h : PS X e t) (i : ∀ D σ H, t' D σ H → t D σ H) : PS X e t' := ⟨fun p s σ H D I hw => h.run p s σ H D I (i _ _ _ hw)⟩
theorem PSs.imp {X : Cx} {e : List Stmt} {t t' : TS} (h : PSs X e t) (i : ∀ D σ H, t' D σ H → t D σ H) : PSs X e t' := ⟨fun p s σ H D I hw => h.run p s σ H D I (i _ _ _ hw)⟩
/-- the judgements over data -/
abbrev DE (X : Cx) (G : GT) (W : WX) (e : Expr) (m : DEnv → Store → Out Dv) : Prop := PE X e (tE G W m)
abbrev DT (X : Cx) (G : GT) (W : WX) (e : Expr) (m : DEnv → Store → Out Bool) : Prop := PT X e (tT G W m)
abbrev DW (X : Cx) (G : GT) (W : WX) (e : Expr) (m : DEnv → Store → Out Bool) : Prop := PW X e (tT G W m)
abbrev DA (X : Cx) (G : GT) (W : WX) (es : List Expr) (m : DEnv → Store → Out (List Dv)) : Prop := PA X es (tA G W m)

inductive Fl where
  | nx (ρ : DEnv) | bk (ρ : DEnv) | ct (ρ : DEnv) | rt (b : Dv)
def PstS (G : GT) (W : WX) (w : Wd) (o : Out Fl) (D : Ends) : Prop :=
  match o with
  | .ok (.nx ρ) μ' => ∀ w' σ' H', w.le w' → Lay G w' μ' H' → EnvR G w' σ' ρ → D.nx σ' H'
  | .ok (.bk ρ) μ' => ∀ w' σ' H', w.le w' → Lay G w' μ' H' → EnvR G w' σ' ρ → D.bk σ' H'
  | .ok (.ct ρ) μ' => ∀ w' σ' H', w.le w' → Lay G w' μ' H' → EnvR G w' σ' ρ → D.ct σ' H'
  | .ok (.rt b) μ' => ∀ w' v H', w.le w' → Lay G w' μ' H' → Rv G w' v b → D.rt v H'
  | .ex e μ' => ∀ w' cls d σ' H', w.le w' → Lay G w' μ' H' → ExR G w' H' cls d e → W cls d σ' H'
  | .bad => False
theorem PstS.mono {G : GT} {W : WX} {w w' : Wd} {o : Out Fl} {D : Ends} (h : w.le w') (p : PstS G W w o D) : PstS G W w' o D := by
  cases o with
  | ok b μ =>
    cases b with
    | nx ρ => exact fun w2 σ H l => p w2 σ H (h.trans l)
    | bk ρ => exact fun w2 σ H l => p w2 σ H (h.trans l)
    | ct ρ => exact fun w2 σ H l => p w2 σ H (h.trans l)
    | rt v => exact fun w2 v H l => p w2 v H (h.trans l)
  | ex e μ => exact fun w2 c d s H l => p w2 c d s H (h.trans l)
  | bad => exact p
def tS (G : GT) (W : WX) (m : DEnv → Store → Out Fl) : TS := fun D σ H => ∃ w μ ρ, Lay G w μ H ∧ EnvR G w σ ρ ∧ PstS G W w (m ρ μ) D
abbrev DS (X : Cx) (G : GT) (W : WX) (st : Stmt) (m : DEnv → Store → Out Fl) : Prop := PS X st (tS G W m)
abbrev DSs (X : Cx) (G : GT) (W : WX) (st : List Stmt) (m : DEnv → Store → Out Fl) : Prop := PSs X st (tS G W m)
/-- an expression's part of a statement -/
theorem tD.seqS {β γ : Type} {G : GT} {W : WX} {R : Wd → γ → β → Prop} {m : DEnv → Store → Out β} {k : DEnv → β → Store → Out Fl} {σ : L2.St} {H : Hp} {D : Ends} {S : γ → Hp → Prop}
    {w : Wd} {μ : Store} {ρ : DEnv} (hl : Lay G w μ H) (he : EnvR G w σ ρ) (p : PstS G W w ((m ρ μ).bind (k ρ)) D)
    (h : ∀ w1 μ1 H1 v b, w.le w1 → Lay G w1 μ1 H1 → EnvR G w1 σ ρ → R w1 v b → PstS G W w1 (k ρ b μ1) D → S v H1) : tD G W R m σ H S := by
  refine ⟨w, μ, ρ, hl, he, ?_⟩
  cases e : m ρ μ with
  | ok b μ1 =>
    rw [e] at p
    exact fun w1 v H1 l1 lay r => h w1 μ1 H1 v b l1 lay (he.mono l1) r (PstS.mono l1 p)
  | ex x μ1 =>
    rw [e] at p
    exact fun w1 c d H1 l1 lay r => p w1 c d σ H1 l1 lay r
  | bad =>
    rw [e] at p
    exact p.elim
end DL

namespace DL
open PySem PySem.Spec PyProof.Rows L2
abbrev ME := DEnv → Store → Out Dv
abbrev MT := DEnv → Store → Out Bool
abbrev MA := DEnv → Store → Out (List Dv)
abbrev MS := DEnv → Store → Out Fl
abbrev Op1 := Dv → Store → Out Dv
abbrev Op2 := Dv → Dv → Store → Out Dv
abbrev OpN := List Dv → Store → Out Dv

def eVar (i : Nat) : ME := fun ρ μ => match ρ[i]? with
  | some (some b) => .ok b μ
  | _ => .bad
def eC (b : Dv) : ME := fun _ μ => .ok b μ
def eBad : ME := fun _ _ => .bad
def e1 (f : Op1) (a : ME) : ME := fun ρ μ => (a ρ μ).bind fun x μ => f x μ
def e2 (f : Op2) (a b : ME) : ME := fun ρ μ => (a ρ μ).bind fun x μ => (b ρ μ).bind fun y μ => f x y μ
def asBool : Dv → Store → Out Bool
  | .d (.bool b), μ => .ok b μ
  | _, _ => .bad
/-- an expression that gives a truth, as a test -/
def tV (a : ME) : MT := fun ρ μ => (a ρ μ).bind asBool
def bV (a : MT) : ME := fun ρ μ => (a ρ μ).bind fun b μ => .ok (.d (.bool b)) μ
def tAndM (a b : MT) : MT := fun ρ μ => (a ρ μ).bind fun x μ => if x = true then b ρ μ else .ok false μ
def tOrM (a b : MT) : MT := fun ρ μ => (a ρ μ).bind fun x μ => if x = true then .ok true μ else b ρ μ
def tNotM (a : MT) : MT := fun ρ μ => (a ρ μ).bind fun x μ => .ok (!x) μ
def eAnd (a b : ME) : ME := fun ρ μ => (a ρ μ).bind fun x μ => (asBool x μ).bind fun k μ => if k = true then b ρ μ else .ok (.d (.bool false)) μ
def eOr (a b : ME) : ME := fun ρ μ => (a ρ μ).bind fun x μ => (asBool x μ).bind fun k μ => if k = true then .ok (.d (.bool true)) μ else b ρ μ
def eNot (a : ME) : ME := fun ρ μ => (a ρ μ).bind fun x μ => (asBool x μ).bind fun k μ => .ok (.d (.bool (!k))) μ
def eIf (c : MT) (a b : ME) : ME := fun ρ μ => (c ρ μ).bind fun x μ => if x = true then a ρ μ else b ρ μ
def eChain (f g : Op2) (a b c : ME) : ME := fun ρ μ => (a ρ μ).bind fun x μ => (b ρ μ).bind fun y μ => (f x y μ).bind fun z μ => (asBool z μ).bind fun k μ =>
  if k = true then (c ρ μ).bind fun u μ => g y u μ else .ok (.d (.bool false)) μ
def aNil : MA := fun _ μ => .ok [] μ
def aCons (a : ME) (r : MA) : MA := fun ρ μ => (a ρ μ).bind fun x μ => (r ρ μ).bind fun xs μ => .ok (x :: xs) μ
def eN (f : OpN) (a : MA) : ME := fun ρ μ => (a ρ μ).bind fun xs μ => f xs μ
def eMth (f : Dv → OpN) (o : ME) (a : MA) : ME := fun ρ μ => (o ρ μ).bind fun x μ => (a ρ μ).bind fun xs μ => f x xs μ

/-- what an operation's rule asks follows from what is wanted of its data -/
def Ok1 (G : GT) (r : V → Hp → VK → Prop) (f : Op1) : Prop := ∀ (W : WX) (σ : L2.St) (w : Wd) (μ : Store) (H : Hp) (x : V) (b : Dv) (Q : VK), Lay G w μ H → Rv G w x b → Pst G W σ (Rv G) w (f b μ) Q → r x H Q
def Ok2 (G : GT) (r : R2) (f : Op2) : Prop := ∀ (W : WX) (σ : L2.St) (w : Wd) (μ : Store) (H : Hp) (x y : V) (b c : Dv) (Q : VK), Lay G w μ H → Rv G w x b → Rv G w y c → Pst G W σ (Rv G) w (f b c μ) Q → r x y H Q
def OkN (G : GT) (r : List V → Hp → VK → Prop) (f : OpN) : Prop := ∀ (W : WX) (σ : L2.St) (w : Wd) (μ : Store) (H : Hp) (xs : List V) (bs : List Dv) (Q : VK), Lay G w μ H → Rvs G w xs bs → Pst G W σ (Rv G) w (f bs μ) Q → r xs H Q
section
variable {X : Cx} {G : GT} {W : WX} {a b c e o : Expr} {es : List Expr} {ma mb mc mo : ME} {ta tb tc : MT} {mas : MA} {pos p : Pos} {x : Str} {rest : List Expr}
theorem de_var (i : Nat) {x : Str} (hN : X.N[i]? = some x := by rfl) (hv : Vis X.env.scope x := by first | exact Or.inl rfl | exact Or.inr (Or.inl rfl) | exact Or.inr (Or.inr rfl)) (hd : (x == ("__debug__" : Str)) = false := by decide)
    (hcd : (x == ("__classdict__" : Str)) = false := by decide) : DE X G W (.Name x pos) (eVar i) := by
  refine PE.imp (pe_var hN hv hd hcd) ?_
  rintro σ H Q ⟨w, μ, ρ, hl, he, p⟩
  unfold eVar at p
  cases q : ρ[i]? with
  | none => rw [q] at p; exact p.elim
  | some z =>
    cases z with
    | none => rw [q] at p; exact p.elim
    | some b =>
      rw [q] at p
      obtain ⟨v, h1, h2⟩ := he.2 i b q
      exact ⟨v, h1, p w v H w.le_refl hl h2⟩
/-- what is told of any value that is there at once -/
theorem tC_imp {v : V} {b : Dv} (h : ∀ w, Rv G w v b) : ∀ σ H Q, tE G W (eC b) σ H Q → tC v σ H Q := by
  rintro σ H Q ⟨w, μ, ρ, hl, he, p⟩
  exact p w v H w.le_refl hl (h w)
theorem de_int {i j} : DE X G W (.Constant (.int i) j pos) (eC (.d (.int i))) := PE.imp pe_int (tC_imp fun _ => .int i)
theorem de_bl {b j} : DE X G W (.Constant (.bool b) j pos) (eC (.d (.bool b))) := PE.imp pe_bl (tC_imp fun _ => .bl b)
theorem de_non {j} : DE X G W (.Constant .none j pos) (eC (.d .none)) := PE.imp pe_non (tC_imp fun _ => .non)
theorem de_str {x j} : DE X G W (.Constant (.str x) j pos) (eC (.d (.str x))) := PE.imp pe_str (tC_imp fun _ => .str x)
theorem de_glob {v : V} {u : Value} {b : Dv} (hg : Gl X x) (hm : X.mg x = some u) (r : RelV v u) (h : ∀ w, Rv G w v b) (hd : (x == ("__debug__" : Str)) = false := by decide) : DE X G W (.Name x pos) (eC b) := PE.imp (pe_glob hg hm r hd) (tC_imp h)
theorem de_op {op : Operator} {r : R2} {f : Op2} (ho : OpR X (binaryOp op) r) (h : Ok2 G r f) (ha : DE X G W a ma) (hb : DE X G W b mb) : DE X G W (.BinOp a op b pos) (e2 f ma mb) := by
  refine PE.imp (pe_op ho ha hb) ?_
  rintro σ H Q ⟨w, μ, ρ, hl, he, p⟩
  exact tD.seq (k := fun ρ x μ => (mb ρ μ).bind fun y μ => f x y μ) hl he p fun w1 μ1 H1 v b l1 lay1 e1 r1 p1 => tD.seq (k := fun ρ y μ => f b y μ) lay1 e1 p1 fun w2 μ2 H2 v2 b2 l2 lay2 e2 r2 p2 => h W σ w2 μ2 H2 v v2 b b2 Q lay2 (r1.mono l2) r2 p2
theorem de_un {op : UnaryOp} {r : V → Hp → VK → Prop} {f : Op1} (ho : UnR X (unaryOp op) r) (h : Ok1 G r f) (ha : DE X G W a ma) : DE X G W (.UnaryOp op a pos) (e1 f ma) := by
  refine PE.imp (pe_un ho ha) ?_
  rintro σ H Q ⟨w, μ, ρ, hl, he, p⟩
  exact tD.seq (k := fun ρ x μ => f x μ) hl he p fun w1 μ1 H1 v b l1 lay1 e1 r1 p1 => h W σ w1 μ1 H1 v b Q lay1 r1 p1
theorem op_imp {r : R2} {f : Op2} (h : Ok2 G r f) : ∀ σ H Q, tE G W (e2 f ma mb) σ H Q → tOp r (tE G W ma) (tE G W mb) σ H Q := by
  rintro σ H Q ⟨w, μ, ρ, hl, he, p⟩
  exact tD.seq (k := fun ρ x μ => (mb ρ μ).bind fun y μ => f x y μ) hl he p fun w1 μ1 H1 v b l1 lay1 e1 r1 p1 => tD.seq (k := fun ρ y μ => f b y μ) lay1 e1 p1 fun w2 μ2 H2 v2 b2 l2 lay2 e2 r2 p2 => h W σ w2 μ2 H2 v v2 b b2 Q lay2 (r1.mono l2) r2 p2
theorem de_cmp {op : CmpOp} {r : R2} {f : Op2} (ho : OpR X (compareOp op) r) (h : Ok2 G r f) (ha : DE X G W a ma) (hb : DE X G W b mb) (hm : behindInMarks op b = false := by first | rfl | exact nomark _ | with_unfolding_all rfl) : DE X G W (.Compare a [op] [b] pos) (e2 f ma mb) :=
  PE.imp (pe_cmpR ho ha hb hm) (op_imp h)
/-- a value as a test -/
theorem test_imp {m : ME} : ∀ σ H Q, tT G W (tV m) σ H Q → tTest (tE G W m) σ H Q := by
  rintro σ H Q ⟨w, μ, ρ, hl, he, p⟩
  refine tD.seq (k := fun ρ x μ => asBool x μ) hl he p fun w1 μ1 H1 v b l1 lay1 e1 r1 p1 => ?_
  cases b with
  | d x =>
    cases x with
    | bool k =>
      have r1 : Rp G.K w1.I v (.bool k) := r1
      cases r1
      exact ⟨k, rfl, p1 w1 k H1 w1.le_refl lay1 rfl⟩
    | _ => exact p1.elim
  | _ => exact p1.elim
theorem tTest.imp {t t' : TE} (h : ∀ σ H Q, t' σ H Q → t σ H Q) : ∀ σ H Q, tTest t' σ H Q → tTest t σ H Q := fun σ H Q q => h _ _ _ q
theorem dt_cmp {op : CmpOp} {r : R2} {f : Op2} (ho : OpR X (compareOp op) r) (h : Ok2 G r f) (ha : DE X G W a ma) (hb : DE X G W b mb) (hm : behindInMarks op b = false := by first | rfl | exact nomark _ | with_unfolding_all rfl) : DT X G W (.Compare a [op] [b] pos) (tV (e2 f ma mb)) :=
  PT.imp (pt_cmpR ho ha hb hm) fun σ H Q q => tTest.imp (op_imp h) σ H Q (test_imp σ H Q q)
theorem dt_val (h : DE X G W e ma) (he : ∀ whole, isTrue e X.env whole = (do let v ← whole; standAt e.pos; holding [v] (truthy v)) := by intro _; rfl) : DT X G W e (tV ma) := PT.imp (pt_val h he) test_imp
theorem chain_imp {r r' : R2} {f g : Op2} (h : Ok2 G r f) (h' : Ok2 G r' g) : ∀ σ H Q, tE G W (eChain f g ma mb mc) σ H Q → tChain r r' (tE G W ma) (tE G W mb) (tE G W mc) σ H Q := by
  rintro σ H Q ⟨w, μ, ρ, hl, he, p⟩
  refine tD.seq (k := fun ρ x μ => (mb ρ μ).bind fun y μ => (f x y μ).bind fun z μ => (asBool z μ).bind fun k μ => if k = true then (mc ρ μ).bind fun u μ => g y u μ else .ok (.d (.bool false)) μ) hl he p fun w1 μ1 H1 v b l1 lay1 en1 r1 p1 => ?_
  refine tD.seq (k := fun ρ y μ => (f b y μ).bind fun z μ => (asBool z μ).bind fun k μ => if k = true then (mc ρ μ).bind fun u μ => g y u μ else .ok (.d (.bool false)) μ) lay1 en1 p1 fun w2 μ2 H2 v2 b2 l2 lay2 en2 r2 p2 => ?_
  refine h W σ w2 μ2 H2 v v2 b b2 _ lay2 (r1.mono l2) r2 ?_
  cases q : f b b2 μ2 with
  | bad => rw [q] at p2; exact p2.elim
  | ex e μ3 => rw [q] at p2; exact p2
  | ok z μ3 =>
    rw [q] at p2
    intro w3 v3 H3 l3 lay3 r3
    cases z with
    | d zz =>
      cases zz with
      | bool k =>
        have r3 : Rp G.K w3.I v3 (.bool k) := r3
        cases r3
        refine ⟨k, rfl, ?_⟩
        have p3 := Pst.mono l3 p2
        cases k with
        | false => exact p3 w3 (.bl false) H3 w3.le_refl lay3 (.bl false)
        | true => exact tD.seq (k := fun ρ u μ => g b2 u μ) lay3 (en2.mono l3) p3 fun w4 μ4 H4 v4 b4 l4 lay4 en4 r4 p4 => h' W σ w4 μ4 H4 v2 v4 b2 b4 Q lay4 (r2.mono (l3.trans l4)) r4 p4
      | _ => exact p2.elim
    | _ => exact p2.elim
theorem de_chain {op op' : CmpOp} {r r' : R2} {f g : Op2} (ho : OpR X (compareOp op) r) (h : Ok2 G r f) (ho' : OpR X (compareOp op') r') (h' : Ok2 G r' g) (ha : DE X G W a ma) (hb : DE X G W b mb) (hc : DE X G W c mc)
    (hm : lastMarks [op, op'] [b, c] = false := by with_unfolding_all rfl) : DE X G W (.Compare a [op, op'] [b, c] pos) (eChain f g ma mb mc) := PE.imp (pe_chain ho ho' ha hb hc hm) (chain_imp h h')
theorem dt_chain {op op' : CmpOp} {r r' : R2} {f g : Op2} (ho : OpR X (compareOp op) r) (h : Ok2 G r f) (ho' : OpR X (compareOp op') r') (h' : Ok2 G r' g) (ha : DE X G W a ma) (hb : DE X G W b mb) (hc : DE X G W c mc)
    (hm : lastMarks [op, op'] [b, c] = false := by with_unfolding_all rfl) : DT X G W (.Compare a [op, op'] [b, c] pos) (tV (eChain f g ma mb mc)) :=
  PT.imp (pt_chain ho ho' ha hb hc hm) fun σ H Q q => tTest.imp (chain_imp h h') σ H Q (test_imp σ H Q q)

theorem dw_pt (h : DW X G W e ta) : DT X G W e ta := h.pt
theorem dw_and1 (h : DT X G W a ta) : DW X G W (.BoolOp .And [a] pos) ta := pw_and1 h
theorem dw_or1 (h : DT X G W a ta) : DW X G W (.BoolOp .Or [a] pos) ta := pw_or1 h
theorem dw_and (ha : DT X G W a ta) (hb : DW X G W (.BoolOp .And (b :: rest) pos) tb) : DW X G W (.BoolOp .And (a :: b :: rest) pos) (tAndM ta tb) := by
  refine PW.imp (pw_and ha hb) ?_
  rintro σ H Q ⟨w, μ, ρ, hl, he, p⟩
  refine tD.seq (k := fun ρ x μ => if x = true then tb ρ μ else .ok false μ) hl he p fun w1 μ1 H1 v b l1 lay1 en1 r1 p1 => ?_
  have r1 : v = b := r1
  subst r1
  cases v with
  | true => exact ⟨w1, μ1, ρ, lay1, en1, p1⟩
  | false => exact p1 w1 false H1 w1.le_refl lay1 rfl
theorem dw_or (ha : DT X G W a ta) (hb : DW X G W (.BoolOp .Or (b :: rest) pos) tb) : DW X G W (.BoolOp .Or (a :: b :: rest) pos) (tOrM ta tb) := by
  refine PW.imp (pw_or ha hb) ?_
  rintro σ H Q ⟨w, μ, ρ, hl, he, p⟩
  refine tD.seq (k := fun ρ x μ => if x = true then .ok true μ else tb ρ μ) hl he p fun w1 μ1 H1 v b l1 lay1 en1 r1 p1 => ?_
  have r1 : v = b := r1
  subst r1
  cases v with
  | false => exact ⟨w1, μ1, ρ, lay1, en1, p1⟩
  | true => exact p1 w1 true H1 w1.le_refl lay1 rfl
theorem dt_not (ha : DT X G W a ta) : DT X G W (.UnaryOp .Not a pos) (tNotM ta) := by
  refine PT.imp (pt_not ha) ?_
  rintro σ H Q ⟨w, μ, ρ, hl, he, p⟩
  refine tD.seq (k := fun ρ x μ => .ok (!x) μ) hl he p fun w1 μ1 H1 v b l1 lay1 en1 r1 p1 => ?_
  have r1 : v = b := r1
  subst r1
  exact p1 w1 (!v) H1 w1.le_refl lay1 rfl
theorem de_one {op} (h : DE X G W a ma) : DE X G W (.BoolOp op [a] pos) ma := pe_one h
theorem bool_imp {α : Type} {R : Wd → α → Dv → Prop} {k : Bool → Store → Out Dv} {σ : L2.St} {w : Wd} {μ : Store} {Q : V → Hp → Prop} {v : V} {b : Dv} (r : Rv G w v b) (p : Pst G W σ (Rv G) w ((asBool b μ).bind k) Q) : ∃ t, v = .bl t ∧ b = .d (.bool t) ∧ Pst G W σ (Rv G) w (k t μ) Q := by
  cases b with
  | d x =>
    cases x with
    | bool t =>
      have r : Rp G.K w.I v (.bool t) := r
      cases r
      exact ⟨t, rfl, rfl, p⟩
    | _ => exact p.elim
  | _ => exact p.elim
theorem de_and (ha : DE X G W a ma) (hb : DE X G W (.BoolOp .And (b :: rest) pos) mb) : DE X G W (.BoolOp .And (a :: b :: rest) pos) (eAnd ma mb) := by
  refine PE.imp (pe_and ha hb) ?_
  rintro σ H Q ⟨w, μ, ρ, hl, he, p⟩
  refine tD.seq (k := fun ρ x μ => (asBool x μ).bind fun k μ => if k = true then mb ρ μ else .ok (.d (.bool false)) μ) hl he p fun w1 μ1 H1 v b l1 lay1 en1 r1 p1 => ?_
  obtain ⟨t, rfl, rfl, p1⟩ := bool_imp (α := V) (R := Rv G) r1 p1
  refine ⟨t, rfl, ?_⟩
  cases t with
  | true => exact ⟨w1, μ1, ρ, lay1, en1, p1⟩
  | false => exact p1 w1 _ H1 w1.le_refl lay1 (.bl false)
theorem de_or (ha : DE X G W a ma) (hb : DE X G W (.BoolOp .Or (b :: rest) pos) mb) : DE X G W (.BoolOp .Or (a :: b :: rest) pos) (eOr ma mb) := by
  refine PE.imp (pe_or ha hb) ?_
  rintro σ H Q ⟨w, μ, ρ, hl, he, p⟩
  refine tD.seq (k := fun ρ x μ => (asBool x μ).bind fun k μ => if k = true then .ok (.d (.bool true)) μ else mb ρ μ) hl he p fun w1 μ1 H1 v b l1 lay1 en1 r1 p1 => ?_
  obtain ⟨t, rfl, rfl, p1⟩ := bool_imp (α := V) (R := Rv G) r1 p1
  refine ⟨t, rfl, ?_⟩
  cases t with
  | false => exact ⟨w1, μ1, ρ, lay1, en1, p1⟩
  | true => exact p1 w1 _ H1 w1.le_refl lay1 (.bl true)
theorem de_not (ha : DE X G W a ma) : DE X G W (.UnaryOp .Not a pos) (eNot ma) := by
  refine PE.imp (pe_not ha) ?_
  rintro σ H Q ⟨w, μ, ρ, hl, he, p⟩
  refine tD.seq (k := fun ρ x μ => (asBool x μ).bind fun k μ => Out.ok (Dv.d (.bool (!k))) μ) hl he p fun w1 μ1 H1 v b l1 lay1 en1 r1 p1 => ?_
  obtain ⟨t, rfl, rfl, p1⟩ := bool_imp (α := V) (R := Rv G) r1 p1
  exact ⟨t, rfl, p1 w1 _ H1 w1.le_refl lay1 (.bl _)⟩
theorem de_ifExp (hc : DT X G W c tc) (ha : DE X G W a ma) (hb : DE X G W b mb) : DE X G W (.IfExp c a b pos) (eIf tc ma mb) := by
  refine PE.imp (pe_ifExp hc ha hb) ?_
  rintro σ H Q ⟨w, μ, ρ, hl, he, p⟩
  refine tD.seq (k := fun ρ x μ => if x = true then ma ρ μ else mb ρ μ) hl he p fun w1 μ1 H1 v b l1 lay1 en1 r1 p1 => ?_
  have r1 : v = b := r1
  subst r1
  cases v with
  | true => exact ⟨w1, μ1, ρ, lay1, en1, p1⟩
  | false => exact ⟨w1, μ1, ρ, lay1, en1, p1⟩

theorem da_nil : DA X G W [] aNil := by
  refine PA.imp pa_nil ?_
  rintro σ H Q ⟨w, μ, ρ, hl, he, p⟩
  exact p w [] H w.le_refl hl .nil
theorem acons_imp {mr : MA} : ∀ σ H Q, tA G W (aCons ma mr) σ H Q → tCons (tE G W ma) (tA G W mr) σ H Q := by
  rintro σ H Q ⟨w, μ, ρ, hl, he, p⟩
  refine tD.seq (k := fun ρ x μ => (mr ρ μ).bind fun xs μ => .ok (x :: xs) μ) hl he p fun w1 μ1 H1 v b l1 lay1 en1 r1 p1 => ?_
  refine tD.seq (k := fun ρ xs μ => .ok (b :: xs) μ) lay1 en1 p1 fun w2 μ2 H2 vs bs l2 lay2 en2 r2 p2 => ?_
  exact p2 w2 _ H2 w2.le_refl lay2 (.cons (r1.mono l2) r2)
theorem da_cons {mr : MA} (ha : DE X G W e ma) (hr : DA X G W es mr) (hs : starEach (e :: es) X.env = (false, eval e X.env) :: starEach es X.env := by rfl) : DA X G W (e :: es) (aCons ma mr) := PA.imp (pa_cons ha hr hs) acons_imp
theorem args_imp {r : List V → Hp → VK → Prop} {f : OpN} (h : OkN G r f) : ∀ σ H Q, tE G W (eN f mas) σ H Q → tCB r (tA G W mas) σ H Q := by
  rintro σ H Q ⟨w, μ, ρ, hl, he, p⟩
  exact tD.seq (k := fun ρ xs μ => f xs μ) hl he p fun w1 μ1 H1 v b l1 lay1 en1 r1 p1 => h W σ w1 μ1 H1 v b Q lay1 r1 p1
theorem de_callB {id : String} {r : List V → Hp → VK → Prop} {f : OpN} (hc : CallR X (.builtin id) r) (h : OkN G r f) (hg : Gl X x) (hm : X.mg x = none) (hv : bootBuiltins x = some (.builtin id)) (ha : DA X G W (e :: es) mas) (hn : x ≠ "__name__" := by decide) (hdb : (x == ("__debug__" : Str)) = false := by decide)
    (he : starEach (e :: es) X.env = (false, eval e X.env) :: starEach es X.env := by rfl) (hpl : (backTo pos (starEach es X.env)).any (·.1) = false := by rfl) : DE X G W (.Call (.Name x p) (e :: es) [] pos) (eN f mas) :=
  PE.imp (pe_callB hc hg hm hv ha hn hdb he hpl) (args_imp h)
theorem de_callTy {T : String} {r : List V → Hp → VK → Prop} {f : OpN} (hc : CallR X (.type T) r) (h : OkN G r f) (hg : Gl X x) (hm : X.mg x = none) (hv : bootBuiltins x = some (.type T)) (ha : DA X G W (e :: es) mas) (hn : x ≠ "__name__" := by decide) (hdb : (x == ("__debug__" : Str)) = false := by decide)
    (he : starEach (e :: es) X.env = (false, eval e X.env) :: starEach es X.env := by rfl) (hpl : (backTo pos (starEach es X.env)).any (·.1) = false := by rfl) : DE X G W (.Call (.Name x p) (e :: es) [] pos) (eN f mas) :=
  PE.imp (pe_callTy hc hg hm hv ha hn hdb he hpl) (args_imp h)
end

def PstF (G : GT) (w : Wd) (o : Out Dv) (Q : VK) (E : XK) : Prop :=
  match o with
  | .ok b μ' => ∀ w' v H', w.le w' → Lay G w' μ' H' → Rv G w' v b → Q v H'
  | .ex e μ' => ∀ w' cls d H', w.le w' → Lay G w' μ' H' → ExR G w' H' cls d e → E cls d H'
  | .bad => False
def spD (G : GT) (n : Nat) (F : OpN) : Sp := fun vs H Q E => vs.length = n ∧ ∃ w μ bs, Lay G w μ H ∧ Rvs G w vs bs ∧ PstF G w (F bs μ) Q E
section
variable {X : Cx} {G : GT} {W : WX} {a b c e o : Expr} {es : List Expr} {ma mb mc mo : ME} {mas mks : MA} {pos p : Pos} {x : Str} {k n : Nat} {f : Addr} {fd : FuncData} {ps : List Str} {F : OpN}
theorem call_imp : ∀ σ H Q, tE G W (eN (fun bs μ => if bs.length = n then F bs μ else .bad) mas) σ H Q → tCallSD (spD G n F) [] (WE W) (tA G W mas) σ H Q := by
  rintro σ H Q ⟨w, μ, ρ, hl, he, p⟩
  refine tD.seq (k := fun ρ bs μ => if bs.length = n then F bs μ else .bad) hl he p fun w1 μ1 H1 v b l1 lay1 en1 r1 p1 => ?_
  by_cases q : b.length = n
  · rw [if_pos q] at p1
    rw [List.append_nil]
    refine ⟨by rw [Paired.length r1]; exact q, w1, μ1, b, lay1, r1, ?_⟩
    cases z : F b μ1 with
    | ok c μ2 => rw [z] at p1; exact p1
    | ex c μ2 => rw [z] at p1; exact p1
    | bad => rw [z] at p1; exact p1
  · rw [if_neg q] at p1
    exact p1.elim
def fCall (n : Nat) (F : OpN) : OpN := fun bs μ => if bs.length = n then F bs μ else .bad
end
end DL

namespace DL
open PySem PySem.Spec PyProof.Rows L2

def sNext : MS := fun ρ μ => .ok (.nx ρ) μ
def sBreak : MS := fun ρ μ => .ok (.bk ρ) μ
def sCont : MS := fun ρ μ => .ok (.ct ρ) μ
def sBad : MS := fun _ _ => .bad
def sDrop (m : ME) : MS := fun ρ μ => (m ρ μ).bind fun _ μ => .ok (.nx ρ) μ
def sRet (m : ME) : MS := fun ρ μ => (m ρ μ).bind fun b μ => .ok (.rt b) μ
def sRetN : MS := fun _ μ => .ok (.rt (.d .none)) μ
def sIf (c : MT) (a b : MS) : MS := fun ρ μ => (c ρ μ).bind fun x μ => if x = true then a ρ μ else b ρ μ
def seqF (u : MS) : Fl → Store → Out Fl
  | .nx ρ, μ => u ρ μ
  | f, μ => .ok f μ
def sSeq (t u : MS) : MS := fun ρ μ => (t ρ μ).bind (seqF u)
abbrev MG := Dv → DEnv → Store → Out DEnv
abbrev MGs := List Dv → DEnv → Store → Out DEnv
def gN (i : Nat) : MG := fun b ρ μ => .ok (ρ.set i (some b)) μ
def gsNil : MGs := fun bs ρ μ => match bs with
  | [] => .ok ρ μ
  | _ => .bad
def gsCons (g : MG) (r : MGs) : MGs := fun bs ρ μ => match bs with
  | b :: t => (g b ρ μ).bind fun ρ μ => r t ρ μ
  | [] => .bad
def gT (n : Nat) (g : MGs) : MG := fun b ρ μ => match b with
  | .d (.tuple ds) => if ds.length = n then g (ds.map .d) ρ μ else .bad
  | _ => .bad
def Out.gb {β γ : Type} : Out β → (β → Store → Out γ) → Out γ
  | .ok b μ, k => k b μ
  | _, _ => .bad
@[simp] theorem gb_ok {β γ : Type} (b : β) (μ : Store) (k : β → Store → Out γ) : (Out.ok b μ).gb k = k b μ := rfl
def sAsg (m : ME) (g : MG) : MS := fun ρ μ => (m ρ μ).bind fun b μ => (g b ρ μ).gb fun ρ μ => .ok (.nx ρ) μ
def sSet (i : Nat) (m : ME) : MS := fun ρ μ => (m ρ μ).bind fun b μ => .ok (.nx (ρ.set i (some b))) μ
def parF (i j : Nat) (ρ : DEnv) : List Dv → Store → Out Fl
  | [b, c], μ => .ok (.nx ((ρ.set i (some b)).set j (some c))) μ
  | _, _ => .bad
def sPar (i j : Nat) (m : MA) : MS := fun ρ μ => (m ρ μ).bind (parF i j ρ)
def sAug (i : Nat) (m : ME) (f : Op2) : MS := fun ρ μ => match ρ[i]? with
  | some (some x) => (m ρ μ).bind fun y μ => (f x y μ).bind fun z μ => .ok (.nx (ρ.set i (some z))) μ
  | _ => .bad

/-- alike but at some slots -/
def Agr (S : List Nat) (σ σ' : L2.St) : Prop := σ'.length = σ.length ∧ ∀ i, i ∉ S → σ'[i]? = σ[i]?
theorem Agr.refl (σ : L2.St) : Agr [] σ σ := ⟨rfl, fun _ _ => rfl⟩
theorem Agr.trans {S T : List Nat} {a b c : L2.St} (h : Agr S a b) (k : Agr T b c) : Agr (S ++ T) a c :=
  ⟨k.1.trans h.1, fun i hi => (k.2 i fun z => hi (List.mem_append_right _ z)).trans (h.2 i fun z => hi (List.mem_append_left _ z))⟩
theorem Agr.set (σ : L2.St) (i : Nat) (v : Option V) : Agr [i] σ (σ.set i v) := ⟨List.length_set, fun j hj => List.getElem?_set_ne fun e => hj (by rw [e]; exact List.mem_singleton.mpr rfl)⟩
def PstG (G : GT) (w : Wd) (S : List Nat) (σ : L2.St) (o : Out DEnv) (Q : L2.St → Hp → Prop) : Prop :=
  match o with
  | .ok ρ μ' => ∀ w' σ' H', w.le w' → Lay G w' μ' H' → EnvR G w' σ' ρ → Agr S σ σ' → Q σ' H'
  | _ => False
theorem PstG.mono {G : GT} {w w' : Wd} {S : List Nat} {σ : L2.St} {o : Out DEnv} {Q : L2.St → Hp → Prop} (h : w.le w') (p : PstG G w S σ o Q) : PstG G w' S σ o Q := by
  cases o with
  | ok ρ μ => exact fun w2 σ H l => p w2 σ H (h.trans l)
  | ex e μ => exact p
  | bad => exact p
def tG (G : GT) (S : List Nat) (g : MG) : TG := fun v σ H Q => ∃ w μ ρ b, Lay G w μ H ∧ EnvR G w σ ρ ∧ Rv G w v b ∧ PstG G w S σ (g b ρ μ) Q
def tGs (G : GT) (S : List Nat) (g : MGs) : TGs := fun vs σ H Q => ∃ w μ ρ bs, Lay G w μ H ∧ EnvR G w σ ρ ∧ Rvs G w vs bs ∧ PstG G w S σ (g bs ρ μ) Q
abbrev DG (X : Cx) (G : GT) (S : List Nat) (tg : Expr) (g : MG) : Prop := PG X tg (tG G S g)
abbrev DGs (X : Cx) (G : GT) (S : List Nat) (ts : List Expr) (g : MGs) : Prop := PGs X ts (tGs G S g)
theorem PG.imp {X : Cx} {e : Expr} {t t' : TG} (h : PG X e t) (i : ∀ v σ H Q, t' v σ H Q → t v σ H Q) : PG X e t' := ⟨fun p s σ H v u Q I r hw => h.run p s σ H v u Q I r (i _ _ _ _ hw)⟩
theorem PGs.imp {X : Cx} {e : List Expr} {t t' : TGs} (h : PGs X e t) (i : ∀ v σ H Q, t' v σ H Q → t v σ H Q) : PGs X e t' := ⟨fun p s σ H v u Q I r hw => h.run p s σ H v u Q I r (i _ _ _ _ hw)⟩
theorem Rvs_of_RpA {G : GT} {w : Wd} : ∀ {ds : List D} {vs : List V}, RpA G.K w.I vs ds → Rvs G w vs (ds.map .d)
  | _, _, .nil => .nil
  | _, _, .cons r t => .cons r (Rvs_of_RpA t)

section
variable {X : Cx} {G : GT} {W : WX} {a b c e o tg : Expr} {es : List Expr} {ma mb mc mo m : ME} {ta tb tc : MT} {mas : MA} {pos p : Pos} {x : Str} {st : Stmt} {rest body : List Stmt} {ms mt mu mv : MS} {g : MG} {gs : MGs} {S T : List Nat}
theorem dg_name {i : Nat} {x : Str} (hN : X.N.Nodup) (hi : X.N[i]? = some x := by rfl) (hx : Loc X.env.scope x := by first | exact Or.inl rfl | exact Or.inr rfl) (hf : X.fn x = true ∨ X.env.scope.names.lookup x = some .local := by first | exact .inl rfl | exact .inr rfl | assumption) : DG X G [i] (.Name x pos) (gN i) := by
  refine PG.imp (pg_name hN hi hx hf) ?_
  rintro v σ H Q ⟨w, μ, ρ, b, hl, he, r, p⟩
  exact p w _ H w.le_refl hl (he.set i r) (Agr.set σ i _)
theorem dgs_nil : DGs X G [] [] gsNil := by
  refine PGs.imp pgs_nil ?_
  rintro v σ H Q ⟨w, μ, ρ, bs, hl, he, r, p⟩
  cases r with
  | nil => exact ⟨rfl, p w σ H w.le_refl hl he (Agr.refl σ)⟩
  | cons _ _ => exact p.elim
theorem dgs_cons (h1 : DG X G S e g) (h2 : DGs X G T es gs) (hs : (assignEach (e :: es) X.env).map (·.2) = assign e X.env :: (assignEach es X.env).map (·.2) := by rfl) : DGs X G (S ++ T) (e :: es) (gsCons g gs) := by
  refine PGs.imp (pgs_cons h1 h2 hs) ?_
  rintro vs σ H Q ⟨w, μ, ρ, bs, hl, he, r, p⟩
  cases r with
  | nil => exact p.elim
  | @cons v b vs bs rv rr =>
    refine ⟨v, vs, rfl, w, μ, ρ, b, hl, he, rv, ?_⟩
    have p : PstG G w (S ++ T) σ ((g b ρ μ).bind fun ρ μ => gs bs ρ μ) Q := p
    cases q : g b ρ μ with
    | bad => rw [q] at p; exact p.elim
    | ex _ _ => rw [q] at p; exact p.elim
    | ok ρ1 μ1 =>
      rw [q] at p
      have p : PstG G w (S ++ T) σ (gs bs ρ1 μ1) Q := p
      refine fun w1 σ1 H1 l1 lay1 en1 ag => ⟨w1, μ1, ρ1, bs, lay1, en1, Rvs.mono l1 rr, ?_⟩
      cases q2 : gs bs ρ1 μ1 with
      | bad => rw [q2] at p; exact p.elim
      | ex _ _ => rw [q2] at p; exact p.elim
      | ok ρ2 μ2 =>
        rw [q2] at p
        exact fun w2 σ2 H2 l2 lay2 en2 ag2 => p w2 σ2 H2 (l1.trans l2) lay2 en2 (ag.trans ag2)
theorem dg_tup {k n : Nat} (hc : X.calm = true) (hK : X.K = G.K) (h : DGs X G S es gs) (hn : (assignEach es X.env).length = n := by rfl) (hst : (assignEach es X.env).findIdx? (·.1) = none := by rfl) : DG X G S (.Tuple es k pos) (gT n gs) := by
  refine PG.imp (pg_tup hc h hn hst) ?_
  rintro v σ H Q ⟨w, μ, ρ, b, hl, he, r, p⟩
  cases b with
  | d x =>
    cases x with
    | tuple ds =>
      have r : Rp G.K w.I v (.tuple ds) := r
      cases r with
      | @tup a xs _ hs ha =>
        have p : PstG G w S σ (if ds.length = n then gs (ds.map .d) ρ μ else .bad) Q := p
        by_cases q : ds.length = n
        · rw [if_pos q] at p
          exact ⟨a, xs, rfl, by rw [hK]; exact seqT hl.same hs.t, by rw [ha.length]; exact q, w, μ, ρ, _, hl, he, Rvs_of_RpA ha, p⟩
        · rw [if_neg q] at p
          exact p.elim
    | _ => exact p.elim
  | _ => exact p.elim

theorem dss_nil : DSs X G W [] sNext := by
  refine PSs.imp pss_nil ?_
  rintro D σ H ⟨w, μ, ρ, hl, he, p⟩
  exact p w σ H w.le_refl hl he
theorem seq_imp : ∀ D σ H, tS G W (sSeq ms mt) D σ H → tSeq (tS G W ms) (tS G W mt) D σ H := by
  rintro D σ H ⟨w, μ, ρ, hl, he, p⟩
  refine ⟨w, μ, ρ, hl, he, ?_⟩
  have p : PstS G W w ((ms ρ μ).bind (seqF mt)) D := p
  cases q : ms ρ μ with
  | bad => rw [q] at p; exact p.elim
  | ex e μ1 => rw [q] at p; exact p
  | ok f μ1 =>
    rw [q] at p
    cases f with
    | nx ρ1 => exact fun w1 σ1 H1 l1 lay1 en1 => ⟨w1, μ1, ρ1, lay1, en1, PstS.mono l1 p⟩
    | bk ρ1 => exact p
    | ct ρ1 => exact p
    | rt v => exact p
theorem dss_cons (h1 : DS X G W st ms) (h2 : DSs X G W rest mt) : DSs X G W (st :: rest) (sSeq ms mt) := PSs.imp (pss_cons h1 h2) seq_imp
theorem dss_one (h1 : DS X G W st ms) : DSs X G W [st] ms := pss_one h1
theorem ds_expr (he : DE X G W e m) (hs : swapsWith e none pos.line X.env = pure false := by rfl) : DS X G W (.Expr e pos) (sDrop m) := by
  refine PS.imp (ps_expr he hs) ?_
  rintro D σ H ⟨w, μ, ρ, hl, he, p⟩
  exact tD.seqS (k := fun ρ _ μ => .ok (.nx ρ) μ) hl he p fun w1 μ1 H1 v b l1 lay1 en1 r1 p1 => p1 w1 σ H1 w1.le_refl lay1 en1
theorem ds_ret (he : DE X G W e m) : DS X G W (.Return (some e) pos) (sRet m) := by
  refine PS.imp (ps_ret he) ?_
  rintro D σ H ⟨w, μ, ρ, hl, he, p⟩
  exact tD.seqS (k := fun ρ b μ => .ok (.rt b) μ) hl he p fun w1 μ1 H1 v b l1 lay1 en1 r1 p1 => p1 w1 v H1 w1.le_refl lay1 r1
theorem ds_if {sa sb : List Stmt} (hc : DT X G W c tc) (ha : DSs X G W sa ms) (hb : DSs X G W sb mt) : DS X G W (.If c sa sb pos) (sIf tc ms mt) := by
  refine PS.imp (ps_if hc ha hb) ?_
  rintro D σ H ⟨w, μ, ρ, hl, he, p⟩
  refine tD.seqS (k := fun ρ x μ => if x = true then ms ρ μ else mt ρ μ) hl he p fun w1 μ1 H1 v b l1 lay1 en1 r1 p1 => ?_
  have r1 : v = b := r1
  subst r1
  cases v with
  | true => exact ⟨w1, μ1, ρ, lay1, en1, p1⟩
  | false => exact ⟨w1, μ1, ρ, lay1, en1, p1⟩
theorem asg_imp : ∀ D σ H, tS G W (sAsg m g) D σ H → tAsg (tE G W m) (tG G S g) D σ H := by
  rintro D σ H ⟨w, μ, ρ, hl, he, p⟩
  refine tD.seqS (k := fun ρ b μ => (g b ρ μ).gb fun ρ μ => .ok (.nx ρ) μ) hl he p fun w1 μ1 H1 v b l1 lay1 en1 r1 p1 => ⟨w1, μ1, ρ, b, lay1, en1, r1, ?_⟩
  cases q : g b ρ μ1 with
  | bad => rw [q] at p1; exact p1.elim
  | ex _ _ => rw [q] at p1; exact p1.elim
  | ok ρ2 μ2 =>
    rw [q] at p1
    exact fun w2 σ2 H2 l2 lay2 en2 _ => p1 w2 σ2 H2 l2 lay2 en2
theorem ds_asg (he : DE X G W e m) (hg : DG X G S tg g) (hs : swapsWithSole [tg] e pos.line X.env = pure false := by rfl) (hw : swappedStores [tg] e X.env = pure none := by rfl)
    (h1 : (assignEach [tg] X.env).map (·.2) = [assign tg X.env] := by rfl) : DS X G W (.Assign [tg] e pos) (sAsg m g) := PS.imp (ps_asg he hg hs hw h1) asg_imp
theorem ds_set {i : Nat} {x : Str} {pos' : Pos} (hN : X.N.Nodup) (he : DE X G W e m) (hi : X.N[i]? = some x := by rfl) (hx : Loc X.env.scope x := by first | exact Or.inl rfl | exact Or.inr rfl) (hs : swapsWith e (some (.Name x pos')) pos.line X.env = pure false := by rfl) (hf : X.fn x = true ∨ X.env.scope.names.lookup x = some .local := by first | exact .inl rfl | exact .inr rfl | assumption) :
    DS X G W (.Assign [.Name x pos'] e pos) (sSet i m) := by
  refine PS.imp (ps_set hN hi hx he hs hf) ?_
  rintro D σ H ⟨w, μ, ρ, hl, he, p⟩
  exact tD.seqS (k := fun ρ b μ => .ok (.nx (ρ.set i (some b))) μ) hl he p fun w1 μ1 H1 v b l1 lay1 en1 r1 p1 => p1 w1 _ H1 w1.le_refl lay1 (en1.set i r1)
theorem ds_par {i j : Nat} {x y : Str} {px py pt : Pos} {kt k2 pt2} (hc : X.calm = true) (hN : X.N.Nodup) (ha : DA X G W [a, b] mas) (hi : X.N[i]? = some x := by rfl) (hj : X.N[j]? = some y := by rfl) (hij : i ≠ j := by decide)
    (hx : X.env.scope.names.lookup x = some .local := by rfl) (hy : X.env.scope.names.lookup y = some .local := by rfl)
    (hw : swappedStores [.Tuple [.Name x px, .Name y py] kt pt] (.Tuple [a, b] k2 pt2) X.env = pure (some [x, y]) := by rfl)
    (hs : swapsWithSole [.Tuple [.Name x px, .Name y py] kt pt] (.Tuple [a, b] k2 pt2) pos.line X.env = pure false := by rfl) :
    DS X G W (.Assign [.Tuple [.Name x px, .Name y py] kt pt] (.Tuple [a, b] k2 pt2) pos) (sPar i j mas) := by
  refine PS.imp (ps_par hc hN hi hj hij hx hy ha hw hs) ?_
  rintro D σ H ⟨w, μ, ρ, hl, he, p⟩
  refine tD.seqS (k := parF i j) hl he p fun w1 μ1 H1 vs bs l1 lay1 en1 r1 p1 => ?_
  match bs, r1, p1 with
  | [b, c], .cons r (.cons r' .nil), p1 => exact ⟨_, _, rfl, p1 w1 _ H1 w1.le_refl lay1 ((en1.set i r).set j r')⟩
def OkIp (G : GT) (r : TIp) (f : Op2) : Prop := ∀ (W : WX) (σ : L2.St) (w : Wd) (μ : Store) (H : Hp) (x y : V) (b c : Dv) (Q : VK), Lay G w μ H → Rv G w x b → Rv G w y c → Pst G W σ (Rv G) w (f b c μ) Q → r x y H Q
/-- the items that a loop walks: one by one, from any later state -/
structure ItR (G : GT) (w : Wd) (J : It) (bs : List Dv) : Prop where
  go : ∀ i w' μ H, i < bs.length → w.le w' → Lay G w' μ H → J.go i H
  yld : ∀ i b w' μ H x H', bs[i]? = some b → w.le w' → Lay G w' μ H → J.yld i H x H' → ∃ w2, w'.le w2 ∧ Lay G w2 μ H' ∧ Rv G w2 x b
  stop : ∀ i w' μ H, bs.length ≤ i → w.le w' → Lay G w' μ H → J.stop i H
theorem ItR.mono {G : GT} {w w' : Wd} {J : It} {bs : List Dv} (l : w.le w') (h : ItR G w J bs) : ItR G w' J bs :=
  ⟨fun i w2 μ H hi l2 => h.go i w2 μ H hi (l.trans l2), fun i b w2 μ H x H' e l2 => h.yld i b w2 μ H x H' e (l.trans l2), fun i w2 μ H hi l2 => h.stop i w2 μ H hi (l.trans l2)⟩
abbrev MI := DEnv → Store → Out (List Dv)
def PstI (G : GT) (W : WX) (σ : L2.St) (w : Wd) (o : Out (List Dv)) (R : It → Hp → Prop) : Prop := Pst G W σ (fun w (J : It) bs => ItR G w J bs) w o R
def tI (G : GT) (W : WX) (mi : MI) : TI := tD G W (fun w (J : It) bs => ItR G w J bs) mi
abbrev DI (X : Cx) (G : GT) (W : WX) (tg iter : Expr) (mi : MI) : Prop := PI X tg iter (tI G W mi)
theorem PI.imp {X : Cx} {tg e : Expr} {t t' : TI} (h : PI X tg e t) (i : ∀ σ H Q, t' σ H Q → t σ H Q) : PI X tg e t' := ⟨fun p s σ H Q I hw => h.run p s σ H Q I (i _ _ _ hw)⟩
def forL (g : MG) (mb : MS) : List Dv → DEnv → Store → Out Fl
  | [], ρ, μ => .ok (.nx ρ) μ
  | b :: bs, ρ, μ => (g b ρ μ).gb fun ρ μ => (mb ρ μ).bind fun f μ => match f with
    | .nx ρ => forL g mb bs ρ μ
    | .ct ρ => forL g mb bs ρ μ
    | .bk ρ => .ok (.nx ρ) μ
    | .rt v => .ok (.rt v) μ
def sFor (mi : MI) (g : MG) (mb : MS) : MS := fun ρ μ => (mi ρ μ).bind fun bs μ => forL g mb bs ρ μ
theorem for_imp {mi : MI} {mb : MS} : ∀ D σ H, tS G W (sFor mi g mb) D σ H → tFor (tI G W mi) (tG G S g) (tS G W mb) D σ H := by
  rintro D σ H ⟨w, μ, ρ, hl, he, p⟩
  refine tD.seqS (k := fun ρ bs μ => forL g mb bs ρ μ) hl he p fun w1 μ1 H1 J bs l1 lay1 en1 it p1 => ?_
  refine ⟨fun i m σ H => m = bs.length - i ∧ i ≤ bs.length ∧ ∃ w2 μ2 ρ2, w1.le w2 ∧ Lay G w2 μ2 H ∧ EnvR G w2 σ ρ2 ∧ PstS G W w2 (forL g mb (bs.drop i) ρ2 μ2) D, ⟨bs.length, by simp, Nat.zero_le _, w1, μ1, ρ, w1.le_refl, lay1, en1, p1⟩, ?_⟩
  rintro i m σ2 H2 ⟨rfl, hi, w2, μ2, ρ2, l2, lay2, en2, p2⟩
  by_cases hlt : i < bs.length
  · refine .inr ⟨it.go i w2 μ2 H2 hlt l2 lay2, fun σ H => ∃ w3 μ3 ρ3, w1.le w3 ∧ Lay G w3 μ3 H ∧ EnvR G w3 σ ρ3 ∧ PstS G W w3 (forL g mb (bs.drop (i + 1)) ρ3 μ3) D, fun σ' H' q => ⟨bs.length - (i + 1), by omega, rfl, hlt, q⟩, fun x H' y => ?_⟩
    have eb : bs[i]? = some bs[i] := by simp [hlt]
    obtain ⟨w3, l3, lay3, r3⟩ := it.yld i _ w2 μ2 H2 x H' eb l2 lay2 y
    refine ⟨w3, μ2, ρ2, bs[i], lay3, en2.mono l3, r3, ?_⟩
    rw [List.drop_eq_getElem_cons hlt] at p2
    have p2 := PstS.mono l3 p2
    unfold forL at p2
    cases q : g bs[i] ρ2 μ2 with
    | bad => rw [q] at p2; exact p2.elim
    | ex _ _ => rw [q] at p2; exact p2.elim
    | ok ρ4 μ4 =>
      rw [q] at p2
      intro w4 σ4 H4 l4 lay4 en4 _
      refine ⟨w4, μ4, ρ4, lay4, en4, ?_⟩
      have p4 : PstS G W w4 ((mb ρ4 μ4).bind fun f μ => match f with
        | .nx ρ => forL g mb (bs.drop (i + 1)) ρ μ
        | .ct ρ => forL g mb (bs.drop (i + 1)) ρ μ
        | .bk ρ => .ok (.nx ρ) μ
        | .rt v => .ok (.rt v) μ) D := PstS.mono l4 p2
      have l14 : w1.le w4 := (l2.trans l3).trans l4
      cases q5 : mb ρ4 μ4 with
      | bad => rw [q5] at p4; exact p4.elim
      | ex e μ5 => rw [q5] at p4; exact p4
      | ok f μ5 =>
        rw [q5] at p4
        cases f with
        | nx ρ5 => exact fun w5 σ5 H5 l5 lay5 en5 => ⟨w5, μ5, ρ5, l14.trans l5, lay5, en5, PstS.mono l5 p4⟩
        | ct ρ5 => exact fun w5 σ5 H5 l5 lay5 en5 => ⟨w5, μ5, ρ5, l14.trans l5, lay5, en5, PstS.mono l5 p4⟩
        | bk ρ5 => exact p4
        | rt v => exact p4
  · refine .inl ⟨it.stop i w2 μ2 H2 (by omega) l2 lay2, ?_⟩
    rw [List.drop_of_length_le (by omega)] at p2
    exact p2 w2 σ2 H2 w2.le_refl lay2 en2
theorem ds_for {iter : Expr} {mi : MI} {mb : MS} (hp : PassesOwn (model X.prog X.w) X.A X.env X.xe) (hc : X.calm = true) (hi : DI X G W tg iter mi) (hg : DG X G S tg g) (hb : DSs X G W body mb)
    (hs : ∀ x, foldedSetIterable iter X.env x = pure x := by intro _; rfl) : DS X G W (.For tg iter body [] pos) (sFor mi g mb) := PS.imp (ps_for hp hc hi hg hb hs) for_imp
/-- a while, with as much fuel as is told -/
def whileL (c : MT) (mb : MS) : Nat → DEnv → Store → Out Fl
  | 0, _, _ => .bad
  | n + 1, ρ, μ => (c ρ μ).bind fun k μ => if k = true then (mb ρ μ).bind fun f μ => match f with
    | .nx ρ => whileL c mb n ρ μ
    | .ct ρ => whileL c mb n ρ μ
    | .bk ρ => .ok (.nx ρ) μ
    | .rt v => .ok (.rt v) μ
    else .ok (.nx ρ) μ
end

def runB (n : Nat) (B : MS) : OpN := fun bs μ => match B (bs.map some ++ List.replicate (n - bs.length) none) μ with
  | .ok (.nx _) μ' => .ok (.d .none) μ'
  | .ok (.rt b) μ' => .ok b μ'
  | .ok _ _ => .bad
  | .ex e μ' => .ex e μ'
  | .bad => .bad
theorem env_start {G : GT} {w : Wd} {N : List Str} : ∀ {vs : List V} {bs : List Dv}, Rvs G w vs bs → EnvR G w (L2.start N vs) (bs.map some ++ List.replicate (N.length - bs.length) none) := fun {vs bs} r => by
  have hl := Paired.length r
  unfold L2.start
  refine ⟨by simp [hl], fun i b q => ?_⟩
  by_cases hi : i < bs.length
  · rw [List.getElem?_append_left (by simpa using hi), List.getElem?_map] at q
    rw [List.getElem?_append_left (by simpa [hl] using hi), List.getElem?_map]
    cases e : bs[i]? with
    | none => rw [e] at q; cases q
    | some c =>
      rw [e] at q
      cases q
      have : ∀ {vs : List V} {bs : List Dv} {i : Nat}, Rvs G w vs bs → bs[i]? = some b → ∃ v, vs[i]? = some v ∧ Rv G w v b := by
        intro vs bs i r
        induction r generalizing i with
        | nil => intro h; simp at h
        | cons r t ih =>
          intro h
          cases i with
          | zero => simp at h; subst h; exact ⟨_, rfl, r⟩
          | succ i => exact ih (by simpa using h)
      obtain ⟨v, h1, h2⟩ := this r e
      exact ⟨v, by rw [h1]; rfl, h2⟩
  · rw [List.getElem?_append_right (by simpa using hi), List.getElem?_replicate] at q
    split at q <;> cases q
section
variable {P : Program} {w : World} {G : GT} {mg : Str → Option Value} {base : Heap}
end
end DL

namespace DL
open PySem PySem.Spec PyProof.Rows L2

def allD : List Dv → Option (List D)
  | [] => some []
  | .d x :: r => match allD r with
    | some xs => some (x :: xs)
    | none => none
  | _ :: _ => none
theorem allD_map : ∀ ds : List D, allD (ds.map .d) = some ds
  | [] => rfl
  | d :: ds => by simp [allD, allD_map ds]
theorem allD_eq : ∀ {bs : List Dv} {ds : List D}, allD bs = some ds → bs = ds.map .d
  | [], _, h => by cases h; rfl
  | .d x :: r, _, h => by
    unfold allD at h
    cases q : allD r with
    | none => rw [q] at h; cases h
    | some xs => rw [q] at h; cases h; rw [allD_eq q]; rfl
  | .c _ :: _, _, h => by cases h
  | .f _ :: _, _, h => by cases h
theorem RpA_of_Rvs {G : GT} {w : Wd} : ∀ {vs : List V} {ds : List D}, Rvs G w vs (ds.map .d) → RpA G.K w.I vs ds
  | _, [], h => by cases h; exact .nil
  | _, d :: ds, h => by
    cases h with
    | cons r t => exact .cons r (RpA_of_Rvs t)

theorem ne_mem {l : List Addr} {a p : Addr} (h : a ∈ l) (n : p ∉ l) : a ≠ p := fun z => n (z ▸ h)
theorem ne_get {l : List Addr} {a p : Addr} {i : Nat} (h : l[i]? = some a) (n : p ∉ l) : a ≠ p := ne_mem (List.mem_of_getElem? h) n
theorem Rv.cong {G : GT} {w w' : Wd} (hI : w'.I = w.I) (hα : w'.α = w.α) {v : V} : ∀ {b : Dv}, Rv G w v b → Rv G w' v b
  | .d _, r => by unfold Rv at r ⊢; rw [hI]; exact r
  | .c _, r => by unfold Rv at r ⊢; rw [hα]; exact r
  | .f _, r => r
theorem Rvs.cong {G : GT} {w w' : Wd} (hI : w'.I = w.I) (hα : w'.α = w.α) : ∀ {vs : List V} {bs : List Dv}, Rvs G w vs bs → Rvs G w' vs bs
  | _, _, .nil => .nil
  | _, _, .cons r t => .cons (Rv.cong hI hα r) (Rvs.cong hI hα t)
theorem EnvR.cong {G : GT} {w w' : Wd} (hI : w'.I = w.I) (hα : w'.α = w.α) {σ : L2.St} {ρ : DEnv} (e : EnvR G w σ ρ) : EnvR G w' σ ρ :=
  ⟨e.1, fun i b q => let ⟨v, h1, h2⟩ := e.2 i b q; ⟨v, h1, Rv.cong hI hα h2⟩⟩
theorem CellAt.cong {G : GT} {w w' : Wd} {H H' : Hp} {a : Addr} (hI : w.I a = none → w'.I a = none) (le : Same w.I w'.I ∧ w.α <+: w'.α) (hH : H' a = H a) : ∀ {c : Cell}, CellAt G w H a c → CellAt G w' H' a c := by
  have rv : ∀ {v b}, Rv G w v b → Rv G w' v b := fun {v b} r => by
    cases b with
    | d x => exact Rp.mono le.1 _ _ r
    | c n => obtain ⟨a, e, q⟩ := r; exact ⟨a, pre_get le.2 e, q⟩
    | f n => exact r
  intro c h
  cases c with
  | lst xs =>
    obtain ⟨h1, vs, h2, h3⟩ := h
    exact ⟨hI h1, vs, by rw [hH]; exact h2, Paired.imp (fun _ _ => rv) h3⟩
  | dic kvs =>
    obtain ⟨h1, vs, h2, h3⟩ := h
    exact ⟨hI h1, vs, by rw [hH]; exact h2, Paired.imp (fun _ _ z => ⟨z.1, rv z.2⟩) h3⟩
  | dT kvs =>
    obtain ⟨h1, vs, h2, h3⟩ := h
    exact ⟨hI h1, vs, by rw [hH]; exact h2, Paired.imp (fun _ _ z => ⟨z.1, rv z.2⟩) h3⟩
  | obj C fs =>
    obtain ⟨h1, Ca, dx, vs, h0, h2, h3⟩ := h
    exact ⟨hI h1, Ca, dx, vs, h0, by rw [hH]; exact h2, Paired.imp (fun _ _ z => ⟨z.1, rv z.2⟩) h3⟩
  | tup xs =>
    obtain ⟨h1, its, vs, h2, h3⟩ := h
    exact ⟨hI h1, its, vs, by rw [hH]; exact h2, Paired.imp (fun _ _ => rv) h3⟩
  | exc C fs =>
    obtain ⟨h1, Ca, h0, h2⟩ := h
    refine ⟨hI h1, Ca, h0, ?_⟩
    rcases h2 with ⟨h2, h3⟩ | ⟨dx, ws, h2, h3, h4⟩
    · exact .inl ⟨h2, by rw [hH]; exact h3⟩
    · exact .inr ⟨dx, ws, by rw [hH]; exact h2, le.1 _ _ h3, Paired.imp (fun _ _ z => ⟨z.1, rv z.2⟩) h4⟩
  | exk C fs =>
    obtain ⟨h1, Ca, h0, h2⟩ := h
    refine ⟨hI h1, Ca, h0, ?_⟩
    rcases h2 with ⟨h2, h3⟩ | ⟨dx, ws, h2, h3, h4⟩
    · exact .inl ⟨h2, by rw [hH]; exact h3⟩
    · exact .inr ⟨dx, ws, by rw [hH]; exact h2, le.1 _ _ h3, Paired.imp (fun _ _ z => ⟨z.1, rv z.2⟩) h4⟩
  | tab i q =>
    obtain ⟨h1, h0, ps, h2, h3, h4⟩ := h
    exact ⟨hI h1, h0, ps, by rw [hH]; exact h2, h3, fun p u e => let ⟨c, e1, e2⟩ := h4 p u e; ⟨c, e1, le.1 _ _ e2⟩⟩
  | dead => trivial
section
variable {G : GT} {w : Wd} {μ : Store} {H : Hp}
theorem Lay.na (l : Lay G w μ H) {p : Addr} (np : H p = none) : w.I p = none ∧ p ∉ w.α ∧ w.F p = none := by
  refine ⟨l.same.free np, fun hm => ?_, l.fr.free np⟩
  obtain ⟨o, e⟩ := l.lv p hm
  rw [np] at e
  cases e
/-- an object of no concern -/
theorem Lay.other (l : Lay G w μ H) {p : Addr} (h1 : w.I p = none) (h2 : p ∉ w.α) (h3 : w.F p = none) (o : HO) : Lay G w μ (upd H p o) where
  same := fun b u e => by rw [upd_ne (fun z => by rw [z, h1] at e; cases e)]; exact l.same b u e
  len := l.len
  nd := l.nd
  lv := fun a ha => by rw [upd_ne (ne_mem ha h2)]; exact l.lv a ha
  fr := fun b u e => by rw [upd_ne (fun z => by rw [z, h3] at e; cases e)]; exact l.fr b u e
  fd := l.fd
  di := l.di
  at_ := fun n c a e q => (l.at_ n c a e q).cong (fun z => z) ⟨Same.refl _, List.prefix_refl _⟩ (upd_ne (ne_get q h2))
abbrev Wd.put (w : Wd) (p : Addr) (o : HO) : Wd := ⟨upd w.I p o, w.α, w.F⟩
theorem same_upd {I : Hp} {p : Addr} {o : HO} (n : I p = none) : Same I (upd I p o) := fun b u e => by rw [upd_ne (ne_of_none e n)]; exact e
/-- a new object, frozen at once -/
theorem Lay.new (l : Lay G w μ H) {p : Addr} (np : H p = none) (o : HO) : w.le (w.put p o) ∧ Lay G (w.put p o) μ (upd H p o) := by
  obtain ⟨h1, h2, h3⟩ := l.na np
  have l2 := l.other h1 h2 h3 o
  refine ⟨⟨same_upd h1, List.prefix_refl _, Same.refl _⟩, fun b u e => ?_, l2.len, l2.nd, l2.lv, l2.fr, l2.fd, fun a u e => ?_, fun n c a e q => ?_⟩
  · by_cases z : b = p
    · subst z; have e : upd w.I b o b = some u := e; rw [upd_same] at e; rw [upd_same]; exact e
    · have e : upd w.I p o b = some u := e
      rw [upd_ne z] at e; exact l2.same b u e
  · have : a ≠ p := fun z => by rw [z, h3] at e; cases e
    show upd w.I p o a = none
    rw [upd_ne this]; exact l.di a u e
  · have ap : a ≠ p := ne_get q h2
    exact CellAt.cong (w' := w.put p o) (fun z => by show upd w.I p o a = none; rw [upd_ne ap]; exact z) ⟨same_upd h1, List.prefix_refl _⟩ rfl (l2.at_ n c a e q)
abbrev Wd.ext (w : Wd) (p : Addr) : Wd := ⟨w.I, w.α ++ [p], w.F⟩
/-- a new object, a cell -/
theorem Lay.cell (l : Lay G w μ H) {p : Addr} (np : H p = none) {o : HO} {c : Cell} (hc : ∀ H', H' p = some o → CellAt G (w.ext p) H' p c) : w.le (w.ext p) ∧ Lay G (w.ext p) (μ ++ [c]) (upd H p o) := by
  obtain ⟨h1, h2, h3⟩ := l.na np
  have l2 := l.other h1 h2 h3 o
  refine ⟨⟨Same.refl _, List.prefix_append _ _, Same.refl _⟩, l2.same, by simp [l2.len], ?_, fun a ha => ?_, l2.fr, fun a ha => ?_, l2.di, fun n c' a e q => ?_⟩
  · refine List.nodup_append.mpr ⟨l.nd, by simp, fun a ha b hb => ?_⟩
    simp at hb
    subst hb
    exact ne_mem ha h2
  · rcases List.mem_append.mp ha with ha | ha
    · exact l2.lv a ha
    · simp at ha; subst ha; exact ⟨o, upd_same⟩
  · rcases List.mem_append.mp ha with ha | ha
    · exact l2.fd a ha
    · simp at ha; subst ha; exact h3
  · by_cases hn : n < μ.length
    · rw [List.getElem?_append_left hn] at e
      have q : (w.α ++ [p])[n]? = some a := q
      rw [List.getElem?_append_left (by rw [l.len]; exact hn)] at q
      exact CellAt.cong (w := w) (w' := w.ext p) (fun z => z) ⟨Same.refl _, List.prefix_append _ _⟩ rfl (l2.at_ n c' a e q)
    · have hn' : n = μ.length := by
        have := (List.getElem?_eq_some_iff.mp e).1
        simp at this
        omega
      subst hn'
      have q : (w.α ++ [p])[μ.length]? = some a := q
      rw [← l.len, List.getElem?_append_right (Nat.le_refl _)] at q
      rw [List.getElem?_append_right (Nat.le_refl _)] at e
      simp at q e
      subst q e
      exact hc _ upd_same
abbrev Wd.priv (w : Wd) (p : Addr) (o : HO) : Wd := ⟨w.I, w.α, upd w.F p o⟩
abbrev Wd.unp (w : Wd) (p : Addr) : Wd := ⟨w.I, w.α, fun b => if b = p then none else w.F b⟩
theorem Lay.priv (l : Lay G w μ H) {p : Addr} {o : HO} (h1 : w.I p = none) (h2 : p ∉ w.α) (h3 : w.F p = none) (e : H p = some o) : w.le (w.priv p o) ∧ Lay G (w.priv p o) μ H := by
  refine ⟨⟨Same.refl _, List.prefix_refl _, same_upd h3⟩, l.same, l.len, l.nd, l.lv, fun b u q => ?_, fun a ha => ?_, fun a u q => ?_, fun n c a e' q => (l.at_ n c a e' q).cong (fun z => z) ⟨Same.refl _, List.prefix_refl _⟩ rfl⟩
  · by_cases z : b = p
    · subst z; have q : upd w.F b o b = some u := q; rw [upd_same] at q; rw [← q]; exact e
    · have q : upd w.F p o b = some u := q; rw [upd_ne z] at q; exact l.fr b u q
  · show upd w.F p o a = none
    rw [upd_ne (ne_mem ha h2)]; exact l.fd a ha
  · by_cases z : a = p
    · subst z; exact h1
    · have q : upd w.F p o a = some u := q; rw [upd_ne z] at q; exact l.di a u q
/-- the private object is written, and private no more -/
theorem Lay.unp {w0 : Wd} (l : Lay G w μ H) {p : Addr} {o : HO} (le : (w0.priv p o).le w) (h3 : w0.F p = none) (o' : HO) : w0.le (w.unp p) ∧ Lay G (w.unp p) μ (upd H p o') ∧ H p = some o ∧ w.I p = none ∧ p ∉ w.α := by
  have hF : w.F p = some o := le.2.2 p o upd_same
  have hI : w.I p = none := l.di p o hF
  have hα : p ∉ w.α := fun hm => by have := l.fd p hm; rw [hF] at this; cases this
  have w0F : ∀ b u, w0.F b = some u → b ≠ p := fun b u e z => by rw [z, h3] at e; cases e
  refine ⟨⟨le.1, le.2.1, fun b u e => ?_⟩, ⟨fun b u e => ?_, l.len, l.nd, fun a ha => ?_, fun b u e => ?_, fun a ha => ?_, fun a u e => ?_, fun n c a e q => ?_⟩, l.fr p o hF, hI, hα⟩
  · show (if b = p then none else w.F b) = some u
    rw [if_neg (w0F b u e)]
    exact le.2.2 b u (by show upd w0.F p o b = some u; rw [upd_ne (w0F b u e)]; exact e)
  · rw [upd_ne (fun z => by have e : w.I b = some u := e; rw [z, hI] at e; cases e)]; exact l.same b u e
  · rw [upd_ne (ne_mem ha hα)]; exact l.lv a ha
  · have e : (if b = p then none else w.F b) = some u := e
    by_cases z : b = p
    · rw [if_pos z] at e; cases e
    · rw [if_neg z] at e; rw [upd_ne z]; exact l.fr b u e
  · show (if a = p then none else w.F a) = none
    split
    · rfl
    · exact l.fd a ha
  · have e : (if a = p then none else w.F a) = some u := e
    by_cases z : a = p
    · rw [if_pos z] at e; cases e
    · rw [if_neg z] at e; exact l.di a u e
  · exact (l.at_ n c a e q).cong (fun z => z) ⟨Same.refl _, List.prefix_refl _⟩ (upd_ne (ne_get q hα))
end

def dList (bs : List Dv) (μ : Store) : Out Dv := match allD bs with
  | some ds => if ds.length ≤ sizeLine then .ok (.d (.list ds)) μ else .bad
  | none => .bad
def dTup (bs : List Dv) (μ : Store) : Out Dv := match allD bs with
  | some ds => if ds.length ≤ sizeLine then .ok (.d (.tuple ds)) μ else .bad
  | none => .bad
/-- a new list that may be changed -/
def cList (bs : List Dv) (μ : Store) : Out Dv := if bs.length ≤ sizeLine then .ok (.c μ.length) (μ ++ [.lst bs]) else .bad
section
variable {X : Cx} {G : GT} {W : WX} {es : List Expr} {mas : MA} {pos : Pos} {σ : L2.St} {w : Wd} {μ : Store} {H : Hp} {Q : VK}
theorem list_new {xs : List V} {bs : List Dv} (l : Lay G w μ H) (r : Rvs G w xs bs) (p : Pst G W σ (Rv G) w (dList bs μ) Q) : xs.length ≤ sizeLine ∧ ∀ a, H a = none → Q (.ref a) (upd H a (.lst xs)) := by
  unfold dList at p
  cases q : allD bs with
  | none => rw [q] at p; exact p.elim
  | some ds =>
    rw [q] at p
    have p : Pst G W σ (Rv G) w (if ds.length ≤ sizeLine then .ok (.d (.list ds)) μ else .bad) Q := p
    by_cases z : ds.length ≤ sizeLine
    · rw [if_pos z] at p
      rw [allD_eq q] at r
      have ra := RpA_of_Rvs r
      refine ⟨by rw [ra.length]; exact z, fun a na => ?_⟩
      obtain ⟨le, l2⟩ := l.new na (.lst xs)
      exact p _ (.ref a) _ le l2 (.lst (SqL.of upd_same) (RpA.mono le.1 _ _ ra))
    · rw [if_neg z] at p
      exact p.elim
def tTupS (t : TA) : TE := fun σ H Q => t σ H fun xs H1 => xs.length ≤ sizeLine ∧ ∀ p its, H1 p = none → Q (.ref p) (upd H1 p (frT its xs))
theorem frT_ok {P : Program} {w : World} {H : Hp} {h : Heap} {a : Addr} {its : List Value} {xs : List V} (z : xs.length ≤ sizeLine) (r : Vals xs its) (e : h.get? a = some { cls := .type "tuple", data := .seq its.toArray }) : ObjOk P w H h a (frT its.toArray xs) :=
  ⟨e, z, its, r, ⟨_, e, rfl, _, rfl⟩⟩
theorem pe_tupS {X : Cx} {es : List Expr} {t : TA} {pos : Pos} {x1} (h : PA X es t) : PE X (.Tuple es x1 pos) (tTupS t) := by
  refine ⟨fun pins s σ H Q I hq => ?_⟩
  refine wpAny_Tuple_spliced (thn (h.run pos pins s σ H _ I hq) fun us s1 ⟨xs, H1, I1, r, z, q⟩ => ⟨by rw [← r.length]; exact z, ?_⟩)
  have hf : H1 s1.heap.objs.size = none := I1.hok.fresh (Nat.le_refl _)
  exact ⟨.ref s1.heap.objs.size, upd H1 s1.heap.objs.size (frT us.toArray xs), I1.laid (t' := s1.toks) (fun b u e => Heap.get?_push_of_some _ e) (Nat.le_refl _) (frT_ok z r (Heap.get?_push_size _ rfl)), rfl, q _ _ hf⟩
theorem tup_new {xs : List V} {bs : List Dv} (l : Lay G w μ H) (r : Rvs G w xs bs) (p : Pst G W σ (Rv G) w (dTup bs μ) Q) : xs.length ≤ sizeLine ∧ ∀ a its, H a = none → Q (.ref a) (upd H a (frT its xs)) := by
  unfold dTup at p
  cases q : allD bs with
  | none => rw [q] at p; exact p.elim
  | some ds =>
    rw [q] at p
    have p : Pst G W σ (Rv G) w (if ds.length ≤ sizeLine then .ok (.d (.tuple ds)) μ else .bad) Q := p
    by_cases z : ds.length ≤ sizeLine
    · rw [if_pos z] at p
      rw [allD_eq q] at r
      have ra := RpA_of_Rvs r
      refine ⟨by rw [ra.length]; exact z, fun a its na => ?_⟩
      obtain ⟨le, l2⟩ := l.new na (frT its xs)
      exact p _ (.ref a) _ le l2 (.tup (SqS.of upd_same) (RpA.mono le.1 _ _ ra))
    · rw [if_neg z] at p
      exact p.elim
theorem list_cell {xs : List V} {bs : List Dv} (l : Lay G w μ H) (r : Rvs G w xs bs) (p : Pst G W σ (Rv G) w (cList bs μ) Q) : xs.length ≤ sizeLine ∧ ∀ a, H a = none → Q (.ref a) (upd H a (.lst xs)) := by
  unfold cList at p
  by_cases z : bs.length ≤ sizeLine
  · rw [if_pos z] at p
    refine ⟨by rw [Paired.length r]; exact z, fun a na => ?_⟩
    obtain ⟨h1, h2, h3⟩ := l.na na
    have le : w.le (w.ext a) := ⟨Same.refl _, List.prefix_append _ _, Same.refl _⟩
    obtain ⟨_, l2⟩ := l.cell na (o := .lst xs) (c := .lst bs) fun H' e => ⟨h1, xs, e, r.mono le⟩
    exact p _ (.ref a) _ le l2 ⟨a, by show (w.α ++ [a])[μ.length]? = some a; rw [← l.len]; simp, rfl⟩
  · rw [if_neg z] at p
    exact p.elim
theorem de_lst (ha : DA X G W es mas) : DE X G W (.List es pos) (eN dList mas) := by
  refine PE.imp (pe_lst ha) ?_
  rintro σ H Q ⟨w, μ, ρ, hl, he, p⟩
  exact tD.seq (k := fun ρ xs μ => dList xs μ) hl he p fun w1 μ1 H1 v b l1 lay1 en1 r1 p1 => list_new lay1 r1 p1
theorem de_lstC (ha : DA X G W es mas) : DE X G W (.List es pos) (eN cList mas) := by
  refine PE.imp (pe_lst ha) ?_
  rintro σ H Q ⟨w, μ, ρ, hl, he, p⟩
  exact tD.seq (k := fun ρ xs μ => cList xs μ) hl he p fun w1 μ1 H1 v b l1 lay1 en1 r1 p1 => list_cell lay1 r1 p1
theorem de_tup {x1} (ha : DA X G W es mas) : DE X G W (.Tuple es x1 pos) (eN dTup mas) := by
  refine PE.imp (pe_tupS ha) ?_
  rintro σ H Q ⟨w, μ, ρ, hl, he, p⟩
  exact tD.seq (k := fun ρ xs μ => dTup xs μ) hl he p fun w1 μ1 H1 v b l1 lay1 en1 r1 p1 => tup_new lay1 r1 p1
end

abbrev W0 : WX := fun _ _ _ _ => False
def wipeD (ρ : DEnv) : List Nat → DEnv
  | [] => ρ
  | v :: vs => (wipeD ρ vs).set v none
def tYesM : MT := fun _ μ => .ok true μ
def lcM (g : MG) (tt : MT) (te : ME) (ρ : DEnv) : List Dv → Store → Out (List Dv)
  | [], μ => .ok [] μ
  | b :: bs, μ => (g b ρ μ).gb fun ρ' μ => (tt ρ' μ).gb fun k μ => if k = true then (te ρ' μ).gb fun y μ => (lcM g tt te ρ bs μ).gb fun ys μ => .ok (y :: ys) μ else lcM g tt te ρ bs μ
def lcF (fin : OpN) (g : MG) (tt : MT) (te : ME) (vs : List Nat) (ρ : DEnv) (bs : List Dv) (μ : Store) : Out Dv :=
  if bs.length ≤ sizeLine then (lcM g tt te (wipeD ρ vs) bs μ).gb fin else .bad
def eLc (fin : OpN) (mi : MI) (g : MG) (tt : MT) (te : ME) (vs : List Nat) : ME := fun ρ μ => (mi ρ μ).bind fun bs μ => lcF fin g tt te vs ρ bs μ
theorem wipe_get (σ : L2.St) (i : Nat) : ∀ vs : List Nat, (wipe σ vs)[i]? = if i ∈ vs ∧ i < σ.length then some none else σ[i]?
  | [] => by simp [wipe]
  | v :: vs => by
    unfold wipe
    by_cases h : v = i
    · subst h
      by_cases hl : v < σ.length
      · rw [List.getElem?_set_self (by rw [wipe_length]; exact hl), if_pos ⟨by simp, hl⟩]
      · rw [List.getElem?_eq_none (by rw [List.length_set, wipe_length]; omega), if_neg (fun z => hl z.2), List.getElem?_eq_none (by omega)]
    · rw [List.getElem?_set_ne h, wipe_get σ i vs]
      have : (i ∈ v :: vs ∧ i < σ.length) ↔ (i ∈ vs ∧ i < σ.length) := by
        simp only [List.mem_cons]
        constructor
        · rintro ⟨a | a, b⟩
          · exact absurd a.symm h
          · exact ⟨a, b⟩
        · rintro ⟨a, b⟩
          exact ⟨.inr a, b⟩
      simp only [this]
theorem wipe_agr {S vs : List Nat} {σ σ' : L2.St} (h : Agr S (wipe σ vs) σ') (hs : ∀ i ∈ S, i ∈ vs) : wipe σ' vs = wipe σ vs := by
  have hl : σ'.length = σ.length := by rw [h.1, wipe_length]
  apply List.ext_getElem?
  intro i
  rw [wipe_get, wipe_get, hl]
  by_cases z : i ∈ vs ∧ i < σ.length
  · rw [if_pos z, if_pos z]
  · rw [if_neg z, if_neg z]
    by_cases hi : i ∈ S
    · have : ¬ i < σ.length := fun q => z ⟨hs i hi, q⟩
      rw [List.getElem?_eq_none (by omega), List.getElem?_eq_none (by omega)]
    · rw [h.2 i hi, wipe_get, if_neg z]
theorem EnvR.wipe {G : GT} {w : Wd} {σ : L2.St} {ρ : DEnv} (e : EnvR G w σ ρ) : ∀ vs : List Nat, EnvR G w (L2.wipe σ vs) (wipeD ρ vs)
  | [] => e
  | v :: vs => by
    have ih := EnvR.wipe e vs
    unfold L2.wipe wipeD
    refine ⟨by rw [List.length_set, List.length_set]; exact ih.1, fun i b q => ?_⟩
    by_cases h : v = i
    · subst h
      by_cases hl : v < (wipeD ρ vs).length
      · rw [List.getElem?_set_self hl] at q; cases q
      · rw [List.getElem?_eq_none (by rw [List.length_set]; omega)] at q; cases q
    · rw [List.getElem?_set_ne h] at q
      obtain ⟨v', h1, h2⟩ := ih.2 i b q
      exact ⟨v', by rw [List.getElem?_set_ne h]; exact h1, h2⟩
theorem Lay.stay {G : GT} {w : Wd} {μ : Store} {H : Hp} {a : Addr} {vs : List V} (l : Lay G w μ H) (h1 : w.I a = none) (h2 : a ∉ w.α) (h3 : w.F a = none) (e : H a = some (.lst vs)) : w.le (w.put a (.lst vs)) ∧ Lay G (w.put a (.lst vs)) μ H := by
  refine ⟨⟨same_upd h1, List.prefix_refl _, Same.refl _⟩, fun b u q => ?_, l.len, l.nd, l.lv, l.fr, l.fd, fun b u q => ?_, fun n c b q1 q2 => ?_⟩
  · by_cases z : b = a
    · subst z; have q : upd w.I b (.lst vs) b = some u := q; rw [upd_same] at q; rw [← q]; exact e
    · have q : upd w.I a (.lst vs) b = some u := q; rw [upd_ne z] at q; exact l.same b u q
  · have : b ≠ a := fun z => by rw [z, h3] at q; cases q
    show upd w.I a _ b = none
    rw [upd_ne this]; exact l.di b u q
  · have ap : b ≠ a := ne_get q2 h2
    exact CellAt.cong (w' := w.put a (.lst vs)) (fun z => by show upd w.I a _ b = none; rw [upd_ne ap]; exact z) ⟨same_upd h1, List.prefix_refl _⟩ rfl (l.at_ n c b q1 q2)
/-- what becomes of the list that is made: frozen, or a cell -/
def OkFin (G : GT) (fin : OpN) : Prop := ∀ (W : WX) (σ : L2.St) (w : Wd) (μ : Store) (H : Hp) (a : Addr) (vs : List V) (bs : List Dv) (Q : VK), Lay G w μ H → w.I a = none → a ∉ w.α → w.F a = none → H a = some (.lst vs) → Rvs G w vs bs →
  Pst G W σ (Rv G) w (fin bs μ) Q → Q (.ref a) H
theorem fin_list {G : GT} : OkFin G dList := by
  intro W σ w μ H a vs bs Q l h1 h2 h3 e r p
  unfold dList at p
  cases q : allD bs with
  | none => rw [q] at p; exact p.elim
  | some ds =>
    rw [q] at p
    have p : Pst G W σ (Rv G) w (if ds.length ≤ sizeLine then .ok (.d (.list ds)) μ else .bad) Q := p
    by_cases z : ds.length ≤ sizeLine
    · rw [if_pos z] at p
      rw [allD_eq q] at r
      have ra := RpA_of_Rvs r
      obtain ⟨le, l2⟩ := l.stay h1 h2 h3 e
      exact p _ (.ref a) _ le l2 (.lst (SqL.of upd_same) (RpA.mono le.1 _ _ ra))
    · rw [if_neg z] at p
      exact p.elim
section
variable {X : Cx} {G : GT} {W : WX} {mi : MI} {g : MG} {tt : MT} {te : ME} {S vs : List Nat} {fin : OpN}
theorem lc_kern (hf : OkFin G fin) (hS : ∀ i ∈ S, i ∈ vs) {σ : L2.St} {Q : VK} {w1 : Wd} {μ1 : Store} {H1 : Hp} {J : It} {bs : List Dv} {ρ : DEnv} (lay1 : Lay G w1 μ1 H1) (en1 : EnvR G w1 σ ρ) (it : ItR G w1 J bs) (p1 : Pst G W σ (Rv G) w1 (lcF fin g tt te vs ρ bs μ1) Q) :
    ∀ D, H1 D = none → ∃ W : Nat → Nat → Hp → Prop, (∃ m, W 0 m (upd H1 D (.lst []))) ∧ ∀ i m H, W i m H → (J.stop i H ∧ Q (.ref D) H) ∨ (J.go i H ∧ ∃ Nx : Hp → Prop, (∀ H', Nx H' → ∃ m', m' < m ∧ W (i + 1) m' H') ∧
      ∀ x H', J.yld i H x H' → tG G S g x (L2.wipe σ vs) H' fun σ2 H2 => L2.wipe σ2 vs = L2.wipe σ vs ∧ tT G W0 tt σ2 H2 fun b H3 => if b = true then tE G W0 te σ2 H3 fun y H4 => ∃ acc, H4 D = some (.lst acc) ∧ acc.length < sizeLine ∧ Nx (upd H4 D (.lst (acc ++ [y]))) else Nx H3) := by
  intro a na
  unfold lcF at p1
  by_cases hz : bs.length ≤ sizeLine
  case neg => rw [if_neg hz] at p1; exact p1.elim
  rw [if_pos hz] at p1
  obtain ⟨n1, n2, n3⟩ := lay1.na na
  refine ⟨fun i m H => m = bs.length - i ∧ i ≤ bs.length ∧ ∃ w2 μ2 us acc, w1.le w2 ∧ Lay G w2 μ2 H ∧ H a = some (.lst us) ∧ w2.I a = none ∧ a ∉ w2.α ∧ w2.F a = none ∧ Rvs G w2 us acc ∧ acc.length ≤ i ∧
    Pst G W σ (Rv G) w2 ((lcM g tt te (wipeD ρ vs) (bs.drop i) μ2).gb fun ys μ => fin (acc ++ ys) μ) Q, ⟨bs.length, by simp, Nat.zero_le _, w1, μ1, [], [], w1.le_refl, lay1.other n1 n2 n3 _, upd_same, n1, n2, n3, .nil, Nat.le_refl _, p1⟩, ?_⟩
  rintro i m H2 ⟨rfl, hi, w2, μ2, us, acc, l2, lay2, e2, i2, a2, f2, r2, hacc, p2⟩
  by_cases hlt : i < bs.length
  · refine .inr ⟨it.go i w2 μ2 H2 hlt l2 lay2, fun H => ∃ w2 μ2 us acc, w1.le w2 ∧ Lay G w2 μ2 H ∧ H a = some (.lst us) ∧ w2.I a = none ∧ a ∉ w2.α ∧ w2.F a = none ∧ Rvs G w2 us acc ∧ acc.length ≤ i + 1 ∧
      Pst G W σ (Rv G) w2 ((lcM g tt te (wipeD ρ vs) (bs.drop (i + 1)) μ2).gb fun ys μ => fin (acc ++ ys) μ) Q, fun H' q => ⟨bs.length - (i + 1), by omega, rfl, hlt, q⟩, fun x H' y => ?_⟩
    have eb : bs[i]? = some bs[i] := by simp [hlt]
    obtain ⟨lp, layp⟩ := lay2.priv i2 a2 f2 e2
    obtain ⟨w3, l3, lay3, r3⟩ := it.yld i _ _ μ2 H2 x H' eb (l2.trans lp) layp y
    have en3 : EnvR G w3 (wipe σ vs) (wipeD ρ vs) := (en1.wipe vs).mono ((l2.trans lp).trans l3)
    refine ⟨w3, μ2, wipeD ρ vs, bs[i], lay3, en3, r3, ?_⟩
    rw [List.drop_eq_getElem_cons hlt] at p2
    unfold lcM at p2
    cases q : g bs[i] (wipeD ρ vs) μ2 with
    | bad => rw [q] at p2; exact p2.elim
    | ex _ _ => rw [q] at p2; exact p2.elim
    | ok ρ4 μ4 =>
      rw [q] at p2
      intro w4 σ4 H4 l4 lay4 en4 ag
      refine ⟨wipe_agr ag hS, w4, μ4, ρ4, lay4, en4, ?_⟩
      cases q5 : tt ρ4 μ4 with
      | bad => simp only [gb_ok, q5] at p2; exact p2.elim
      | ex _ _ => simp only [gb_ok, q5] at p2; exact p2.elim
      | ok k μ5 =>
        simp only [gb_ok, q5] at p2
        intro w5 v5 H5 l5 lay5 r5
        have r5 : v5 = k := r5
        subst r5
        have lw5 : (w2.priv a (.lst us)).le w5 := (l3.trans l4).trans l5
        cases v5 with
        | false =>
          simp only [Bool.false_eq_true, if_false] at p2
          obtain ⟨le6, lay6, e6, i6, a6⟩ := lay5.unp lw5 f2 (.lst us)
          have hH : upd H5 a (.lst us) = H5 := by
            funext b
            by_cases z : b = a
            · subst z; rw [upd_same, e6]
            · rw [upd_ne z]
          rw [hH] at lay6
          exact ⟨w5.unp a, μ5, us, acc, l2.trans le6, lay6, e6, i6, a6, if_pos rfl, r2.mono le6, by omega, Pst.mono le6 p2⟩
        | true =>
          simp only [if_true] at p2
          refine ⟨w5, μ5, ρ4, lay5, en4.mono l5, ?_⟩
          cases q6 : te ρ4 μ5 with
          | bad => rw [q6] at p2; exact p2.elim
          | ex _ _ => rw [q6] at p2; exact p2.elim
          | ok y μ6 =>
            rw [q6] at p2
            intro w6 v6 H6 l6 lay6 r6
            obtain ⟨le7, lay7, e7, i7, a7⟩ := lay6.unp (lw5.trans l6) f2 (.lst (us ++ [v6]))
            refine ⟨us, e7, by rw [Paired.length r2]; omega, w6.unp a, μ6, us ++ [v6], acc ++ [y], l2.trans le7, lay7, upd_same, i7, a7, if_pos rfl, ?_, by simp; omega, ?_⟩
            · have h1 := r2.mono le7
              have h2 : Rv G (w6.unp a) v6 y := Rv.cong rfl rfl r6
              exact Paired.rec (motive := fun l m _ => Rvs G (w6.unp a) (l ++ [v6]) (m ++ [y])) (.cons h2 .nil) (fun r _ ih => .cons r ih) h1
            · have p3 := Pst.mono le7 p2
              cases q7 : lcM g tt te (wipeD ρ vs) (bs.drop (i + 1)) μ6 with
              | bad => simp only [gb_ok, q7] at p3; exact p3.elim
              | ex _ _ => simp only [gb_ok, q7] at p3; exact p3.elim
              | ok ys μ7 =>
                simp only [gb_ok, q7] at p3
                simp only [gb_ok, List.append_assoc, List.singleton_append]
                exact p3
  · refine .inl ⟨it.stop i w2 μ2 H2 (by omega) l2 lay2, ?_⟩
    rw [List.drop_of_length_le (by omega)] at p2
    simp only [lcM, gb_ok, List.append_nil] at p2
    exact hf W σ w2 μ2 H2 a us acc Q lay2 i2 a2 f2 e2 r2 p2
theorem lc_imp (hf : OkFin G fin) (hS : ∀ i ∈ S, i ∈ vs) : ∀ σ H Q, tE G W (eLc fin mi g tt te vs) σ H Q → tLc (tI G W mi) (tG G S g) (tT G W0 tt) (tE G W0 te) vs σ H Q := by
  rintro σ H Q ⟨w, μ, ρ, hl, he, p⟩
  refine tD.seq (k := fun ρ bs μ => lcF fin g tt te vs ρ bs μ) hl he p fun w1 μ1 H1 J bs l1 lay1 en1 it p1 => ?_
  exact lc_kern hf hS lay1 en1 it p1
theorem dts_nil {X : Cx} : PTs X [] (tT G W tYesM) := ⟨fun pins s σ H Q I h => by
  obtain ⟨w, μ, ρ, hl, he, p⟩ := h
  exact pts_nil.run pins s σ H Q I (p w true H w.le_refl hl rfl)⟩
theorem dts_one {X : Cx} {c : Expr} (h : DT X G W c tt) : PTs X [c] (tT G W tt) := pts_one h
theorem de_lc {elt tg iter : Expr} {ifs : List Expr} {scope : Scope} (own : List (Str × Nat)) {pos : Pos} (hf : OkFin G fin) (hc : X.calm = true) (hN : X.N.Nodup) (hi : DI X G W tg iter mi) (ok : BlkOk X.N X.env.scope scope own)
    (hg : ∀ (s : Shared) (H : Hp) (C : Addr) (cl : List (Str × Addr)) (fp : List Addr), DG (X.blk s H scope (compEnvC scope cl C X.env) fp) G S tg g) (ht : ∀ (s : Shared) (H : Hp) (C : Addr) (cl : List (Str × Addr)) (fp : List Addr), PTs (X.blk s H scope (compEnvC scope cl C X.env) fp) ifs (tT G W0 tt))
    (he : ∀ (s : Shared) (H : Hp) (C : Addr) (cl : List (Str × Addr)) (fp : List Addr), DE (X.blk s H scope (compEnvC scope cl C X.env) fp) G W0 elt te) (hS : ∀ i ∈ S, i ∈ own.map (·.2) := by decide) (hs : ∀ x, foldedSetIterable iter X.env x = pure x := by intro _; rfl) :
    DE X G W (.ListComp elt [⟨tg, iter, ifs, 0⟩] scope pos) (eLc fin mi g tt te (own.map (·.2))) := PE.imp (pe_lc hc hN hi ok hg ht he hs) (lc_imp hf hS)
end
end DL

namespace DL
open PySem PySem.Spec PyProof.Rows L2

/-- as FnOk, told of calls with nothing guarded around -/
structure FnG (P : Program) (w : World) (K : PySem.W.Frag) (mg : Str → Option Value) (base : Heap) (k : Nat) (f : Addr) (fd : FuncData) (ps : List Str) (sp : Sp) : Prop where
  len : ∀ vs H Q E, sp vs H Q E → vs.length = ps.length
  run : ∀ (A : Around) (outer : List Env) (s : Shared) (H : Hp) (args : Args) (us : List Value) (vs : List V) (Q : VK) (E : XK), A.guards = some [] → Room k A → Env0 P w K mg base A outer s H → BindsTo s fd args (ps.zip us) → Vals vs us → sp vs H Q E →
    codeAny (model P w) A (.call (.ref f) args) (CR (L2.CX P w) outer P w H s Q E) s
theorem FnG.mono {P : Program} {w : World} {K : PySem.W.Frag} {mg : Str → Option Value} {base : Heap} {j k : Nat} {f : Addr} {fd : FuncData} {ps : List Str} {sp : Sp} (F : FnG P w K mg base j f fd ps sp) (h : j ≤ k) : FnG P w K mg base k f fd ps sp :=
  ⟨F.len, fun A outer s H args us vs Q E g r => F.run A outer s H args us vs Q E g (r.mono h)⟩
theorem FnG.imp {P : Program} {w : World} {K : PySem.W.Frag} {mg : Str → Option Value} {base : Heap} {k : Nat} {f : Addr} {fd : FuncData} {ps : List Str} {sp sp' : Sp} (F : FnG P w K mg base k f fd ps sp) (h : ∀ vs H Q E, sp' vs H Q E → sp vs H Q E) : FnG P w K mg base k f fd ps sp' :=
  ⟨fun vs H Q E q => F.len vs H Q E (h _ _ _ _ q), fun A outer s H args us vs Q E g r e b v q => F.run A outer s H args us vs Q E g r e b v (h _ _ _ _ q)⟩

section
variable {P : Program} {w : World} {K : PySem.W.Frag} {mg : Str → Option Value} {base : Heap}
/-- a def of the text by its body -/
theorem fnG_of {k : Nat} {f : Addr} {name qual : Str} {params : Arguments} {body : List Stmt} {sc : Scope} {dV kV doc pm cdv ct oc : Value} {an od : Option Addr} {osl : Array (Option Value)} {N ps : List Str} {sp : Sp}
    (lk : K.lookup f = some ⟨oc, od, .func (PySem.W.fnOf name qual params body sc dV kV doc pm an cdv ct), osl⟩) (cd : PySem.W.codeIn K cdv qual = true) (S : FnScope N ps sc) (len : ∀ vs H Q E, sp vs H Q E → vs.length = ps.length)
    (bd : ∀ (A : Around) (outer : List Env) (s : Shared) (H : Hp) (vs : List V) (Q : VK) (E : XK), A.guards = some [] → Room k (A.deeper (envOfC qual sc s.heap.objs.size f cdv)) → sp vs H Q E →
      ∃ t, PSs (cxOf (L2.CX P w) P w K mg base N qual sc f cdv A outer s H E) body t ∧ t ⟨fun _ H' => Q .non H', Q, fun _ _ => False, fun _ _ => False⟩ (L2.start N vs) H) :
    FnG P w K mg base (k + 1) f (PySem.W.fnOf name qual params body sc dV kV doc pm an cdv ct) ps sp := by
  constructor
  · exact len
  intro A outer s H args us vs Q E g room e0 bt rv hsp
  have hlen : vs.length = ps.length := len vs H Q E hsp
  have inK : K.In s.heap := e0.mod.kin.keeps (fun b o q => (e0.bs b o q).1)
  have nolim : s.heap.NoLimit := e0.mod.nolimit.keeps (fun b o q => (e0.bs b o q).1)
  have kinds : ∀ z ∈ ps.zip us, sc.names.lookup z.1 = some .local ∨ (sc.names.lookup z.1 = some .cell ∧ ((cellsFrom (s.heap.objs.size + 1) sc.names []).lookup z.1).isSome = true) := by
    rintro ⟨n, v⟩ hz
    rcases S.par n (List.of_mem_zip hz).1 with h | h
    · exact Or.inl h
    · exact Or.inr ⟨h, PySem.W.cellsFrom_some _ _ _ (Or.inl h)⟩
  apply codeAny_call_function room.depth (inK _ _ lk) rfl S.co S.gen rfl (PySem.W.codeRec_of inK cd) (bt _ _ _ _ _)
  apply wpAny_newFunctionEnv_cells S.kind kinds
  rintro env rfl s1 x
  refine ⟨nolim.keeps x.toInCall.keep, ?_⟩
  apply codeAny_func
  obtain ⟨t, h1, h2⟩ := bd A outer s H vs Q E g (room.deeper _) hsp
  have I := inv_start (CX := L2.CX P w) (E := E) S room.hd e0 hlen rv x
  apply wpAny_mono (h1.run [] s1 (L2.start N vs) H _ I h2)
  · rintro fl s' q
    cases fl with
    | brk => exact (by obtain ⟨_, _, _, q⟩ := q; exact q.elim)
    | cont => exact (by obtain ⟨_, _, _, q⟩ := q; exact q.elim)
    | next =>
      obtain ⟨σ', H', J, q⟩ := q
      exact ⟨V.non, H', J.os, J.bare, J.base, J.hok, rfl, q⟩
    | ret u =>
      obtain ⟨v, σ', H', J, r, q⟩ := q
      exact ⟨v, H', J.os, J.bare, J.base, J.hok, r, q⟩
  · exact fun e s' q => q
/-- THE RULE for a def -/
theorem fn_okG {G : GT} {x qual : Str} {st : Stmt} {f : Addr} {fd : FuncData} {N ps : List Str} {k : Nat} {B : MS} (F : Fun G.K x qual st f fd) (S : FnScope N ps (defScope st))
    (hB : ∀ (cdv : Value) (A : Around) (outer : List Env) (s : Shared) (H : Hp) (E : XK), (cxOf (L2.CX P w) P w G.K mg base N qual (defScope st) f cdv A outer s H E).A.guards = some [] → Room k (cxOf (L2.CX P w) P w G.K mg base N qual (defScope st) f cdv A outer s H E).A →
      Takes (cxOf (L2.CX P w) P w G.K mg base N qual (defScope st) f cdv A outer s H E) (fun cls d _ H => E cls d H) →
      PassesOwn (model P w) (cxOf (L2.CX P w) P w G.K mg base N qual (defScope st) f cdv A outer s H E).A (cxOf (L2.CX P w) P w G.K mg base N qual (defScope st) f cdv A outer s H E).env (cxOf (L2.CX P w) P w G.K mg base N qual (defScope st) f cdv A outer s H E).xe →
      DSs (cxOf (L2.CX P w) P w G.K mg base N qual (defScope st) f cdv A outer s H E) G (fun cls d _ H => E cls d H) (defBody st) B) :
    FnG P w G.K mg base (k + 1) f fd ps (spD G ps.length (runB N.length B)) := by
  obtain ⟨oc, od, kV, doc, pm, an, cdv, ct, osl, rfl, lk, hcd⟩ := F.ex
  apply fnG_of lk hcd S (fun vs H Q E h => h.1)
  intro A outer s H vs Q E g hr h
  obtain ⟨hn, w0, μ, bs, lay, r, p⟩ := h
  have tk : Takes (cxOf (L2.CX P w) P w G.K mg base N qual (defScope st) f cdv A outer s H E) (fun cls d _ H => E cls d H) := takes_of rfl rfl rfl rfl
  refine ⟨_, hB cdv A outer s H E g hr tk (passes_of rfl), w0, μ, _, lay, env_start r, ?_⟩
  unfold runB at p
  cases q : B (bs.map some ++ List.replicate (N.length - bs.length) none) μ with
  | bad => rw [q] at p; exact p.elim
  | ex e μ' =>
    rw [q] at p
    exact fun w' cls d _ H' l lay' r' => p w' cls d H' l lay' r'
  | ok fl μ' =>
    rw [q] at p
    cases fl with
    | nx ρ => exact fun w' σ' H' l lay' _ => p w' .non H' l lay' .non
    | rt b => exact p
    | bk ρ => exact p.elim
    | ct ρ => exact p.elim
end

section
variable {X : Cx} {G : GT} {W : WX} {e : Expr} {es : List Expr} {mas : MA} {pos p : Pos} {x : Str} {k n : Nat} {f : Addr} {fd : FuncData} {ps ks : List Str} {F : OpN} {sp : Sp} {E : L2.St → XK}
theorem runG {pins : List (Addr × Obj)} {σ : L2.St} {H : Hp} {s : Shared} {Q : VK} {us : List Value} {vs : List V} {args : Args} (hF : FnG X.prog X.w X.K X.mg X.base k f fd ps sp) (g : X.A.guards = some []) (hr : Room k X.A) (hx : PassesAt (L2.CX X.prog X.w) X σ (E σ)) (I : Inv X pins σ H s)
    (hb : BindsTo s fd args (ps.zip us)) (r : Vals vs us) (h : sp vs H Q (E σ)) : codeAny (model X.prog X.w) X.A (.call (.ref f) args) (fun r s' => match r with | .ok (.ret u) => EP X pins σ Q u s' | .ok _ => False | .error e => X.xe e s') s := by
  apply codeAny_mono (hF.run X.A X.stack s H args us vs Q (E σ) g hr I.env0 hb r h)
  rintro (e | fl) s' q
  · exact hx pins H s e s' I q
  · cases fl with
    | ret u => exact I.after q
    | next => exact q.elim
    | brk => exact q.elim
    | cont => exact q.elim
theorem de_callG (hF : FnG X.prog X.w X.K X.mg X.base k f fd ps (spD G n F)) (g : X.A.guards = some []) (hr : Room k X.A) (hg : Gl X x) (hm : X.mg x = some (.ref f)) (hk : PySem.W.keepIn X.K (.ref f) = true) (hb : Binds X.K fd ps []) (tk : Takes X W)
    (ha : DA X G W (e :: es) mas) (hdb : (x == ("__debug__" : Str)) = false := by decide) (he : starEach (e :: es) X.env = (false, eval e X.env) :: starEach es X.env := by rfl) (hpl : (backTo pos (starEach es X.env)).any (·.1) = false := by rfl) :
    DE X G W (.Call (.Name x p) (e :: es) [] pos) (eN (fCall n F) mas) := by
  apply PE.imp (t := tCallSD (spD G n F) [] (WE W) (tA G W mas)) _ call_imp
  constructor
  intro pins s σ H Q I h
  apply wpAny_Call_Name_kw
  apply ld_glob I hg hm _ hdb
  apply PySem.W.callWith_K (h₀ := X.base) I.ok.mod.kin hk _ he hpl
  apply thn (ha.run pos pins s σ H _ I h)
  rintro us s1 ⟨vs, H1, I1, r, q⟩
  refine ⟨I1.kIn, ?_⟩
  rw [List.append_nil] at q
  have hl : (us ++ ([] : List Value)).length = ps.length := by rw [List.append_nil, ← r.length]; exact hF.len _ _ _ _ q
  have hb1 := hb s1 us I1.kIn hl
  rw [List.append_nil] at hb1
  apply wpAny_call
  apply codeAny_mono (runG hF g hr (fun _ _ _ _ _ I c => passAt tk σ _ _ _ _ _ I c) I1 hb1 r q)
  rintro (e | fl) s' q
  · exact q
  · cases fl with
    | ret u => exact q
    | next => exact q.elim
    | brk => exact q.elim
    | cont => exact q.elim
end
end DL

namespace DL
open PySem PySem.Spec PyProof.Rows L2
section
variable {G : GT} {w : Wd} {v : V}
theorem rv_int {i : Int} (r : Rv G w v (.d (.int i))) : v = .int i := by
  have r : Rp G.K w.I v (.int i) := r
  cases r; rfl
theorem rv_str {z : Str} (r : Rv G w v (.d (.str z))) : v = .str z := by
  have r : Rp G.K w.I v (.str z) := r
  cases r; rfl
theorem rv_bl {k : Bool} (r : Rv G w v (.d (.bool k))) : v = .bl k := by
  have r : Rp G.K w.I v (.bool k) := r
  cases r; rfl
theorem rv_lst {ds : List D} (r : Rv G w v (.d (.list ds))) : ∃ a xs, v = .ref a ∧ SqL G.K w.I a xs ∧ RpA G.K w.I xs ds := by
  have r : Rp G.K w.I v (.list ds) := r
  cases r with
  | lst h1 h2 => exact ⟨_, _, rfl, h1, h2⟩
theorem rv_tup {ds : List D} (r : Rv G w v (.d (.tuple ds))) : ∃ a xs, v = .ref a ∧ SqT G.K w.I a xs ∧ RpA G.K w.I xs ds := by
  have r : Rp G.K w.I v (.tuple ds) := r
  cases r with
  | tup h1 h2 => exact ⟨_, _, rfl, h1.t, h2⟩
theorem rv_tupS {ds : List D} (r : Rv G w v (.d (.tuple ds))) : ∃ a xs, v = .ref a ∧ SqS G.K w.I a xs ∧ RpA G.K w.I xs ds := by
  have r : Rp G.K w.I v (.tuple ds) := r
  cases r with
  | tup h1 h2 => exact ⟨_, _, rfl, h1, h2⟩
theorem rv_ints {ns : List Int} {xs : List V} {I : Hp} {K : PySem.W.Frag} : RpA K I xs (ns.map .int) → xs = ns.map .int := by
  induction ns generalizing xs with
  | nil => intro h; cases h; rfl
  | cons n ns ih =>
    intro h
    cases h with
    | cons r t => cases r; rw [ih t]; rfl
theorem rv_strs {ns : List Str} {xs : List V} {I : Hp} {K : PySem.W.Frag} : RpA K I xs (ns.map .str) → xs = ns.map .str := by
  induction ns generalizing xs with
  | nil => intro h; cases h; rfl
  | cons n ns ih =>
    intro h
    cases h with
    | cons r t => cases r; rw [ih t]; rfl
theorem rv_bls {ns : List Bool} {xs : List V} {I : Hp} {K : PySem.W.Frag} : RpA K I xs (ns.map .bool) → xs = ns.map .bl := by
  induction ns generalizing xs with
  | nil => intro h; cases h; rfl
  | cons n ns ih =>
    intro h
    cases h with
    | cons r t => cases r; rw [ih t]; rfl
theorem RpA_strs {K : PySem.W.Frag} {I : Hp} : ∀ ns : List Str, RpA K I (ns.map V.str) (ns.map PyData.str)
  | [] => .nil
  | n :: ns => .cons (.str n) (RpA_strs ns)
/-- the items of a list that is read: frozen, or a cell's -/
theorem rv_cell {μ : Store} {H : Hp} {n : Nat} {xs : List Dv} (l : Lay G w μ H) (r : Rv G w v (.c n)) (e : μ[n]? = some (.lst xs)) : ∃ a vs, v = .ref a ∧ w.α[n]? = some a ∧ H a = some (.lst vs) ∧ Rvs G w vs xs := by
  obtain ⟨a, h1, rfl⟩ := r
  obtain ⟨_, vs, h2, h3⟩ := l.at_ n _ a e h1
  exact ⟨a, vs, rfl, h1, h2, h3⟩
end
/-- a cell's, or a frozen list's items; a tuple's -/
def items : Dv → Store → Option (List Dv)
  | .d (.list ds), _ => some (ds.map .d)
  | .c n, μ => match μ[n]? with
    | some (.lst xs) => some xs
    | _ => none
  | _, _ => none
theorem items_ok {G : GT} {w : Wd} {v : V} {μ : Store} {H : Hp} {b : Dv} {xs : List Dv} (l : Lay G w μ H) (r : Rv G w v b) (e : items b μ = some xs) : ∃ a vs, v = .ref a ∧ SqL G.K H a vs ∧ Rvs G w vs xs := by
  unfold items at e
  split at e
  · cases e
    obtain ⟨a, vs, rfl, h1, h2⟩ := rv_lst r
    exact ⟨a, vs, rfl, seqL l.same h1, Rvs_of_RpA h2⟩
  · split at e
    · rename_i h
      cases e
      obtain ⟨a, vs, rfl, _, h2, h3⟩ := rv_cell l r h
      exact ⟨a, vs, rfl, SqL.of h2, h3⟩
    · cases e
  · cases e
def itemsT : Dv → Option (List Dv)
  | .d (.tuple ds) => some (ds.map .d)
  | _ => none
/-- the datum that a value is just now -/
def view : Dv → Store → Option D
  | .d x, _ => some x
  | .c n, μ => match μ[n]? with
    | some (.lst xs) => match allD xs with
      | some ds => some (.list ds)
      | none => none
    | _ => none
  | _, _ => none
theorem Rp.inH {G : GT} {w : Wd} {μ : Store} {H : Hp} {v : V} {x : D} (l : Lay G w μ H) (r : Rp G.K w.I v x) : Rp G.K H v x := Rp.mono l.same _ _ r
theorem view_ok {G : GT} {w : Wd} {v : V} {μ : Store} {H : Hp} {b : Dv} {x : D} (l : Lay G w μ H) (r : Rv G w v b) (e : view b μ = some x) : Rp G.K H v x := by
  cases b with
  | d y => cases e; exact Rp.inH l r
  | f n => cases e
  | c n =>
    unfold view at e
    simp only at e
    split at e
    · rename_i xs h
      split at e
      · rename_i ds q
        cases e
        obtain ⟨a, vs, rfl, _, h2, h3⟩ := rv_cell l r h
        rw [allD_eq q] at h3
        exact .lst (SqL.of h2) (RpA.mono l.same _ _ (RpA_of_Rvs h3))
      · cases e
    · cases e

def dNum (C : Int → Int → Bool) (g : Int → Int → Int) : Op2 := fun x y μ => match x, y with
  | .d (.int i), .d (.int j) => if C i j = true then .ok (.d (.int (g i j))) μ else .bad
  | _, _ => .bad
theorem ok_num {G : GT} {C : Int → Int → Bool} {C' : Int → Int → Prop} {g : Int → Int → Int} (h : ∀ i j, C i j = true → C' i j) : Ok2 G (rI C' fun i j => .int (g i j)) (dNum C g) := by
  intro W σ w μ H x y b c Q l rx ry p
  unfold dNum at p
  split at p
  · rename_i i j
    by_cases q : C i j = true
    · rw [if_pos q] at p
      exact ⟨i, j, rv_int rx, rv_int ry, h i j q, p w _ H w.le_refl l (.int _)⟩
    · rw [if_neg q] at p; exact p.elim
  · exact p.elim
def dInt2 (g : Int → Int → D) : Op2 := fun x y μ => match x, y with
  | .d (.int i), .d (.int j) => .ok (.d (g i j)) μ
  | _, _ => .bad
theorem ok_int2 {G : GT} {g : Int → Int → Int} : Ok2 G (rI0 fun i j => .int (g i j)) (dInt2 fun i j => .int (g i j)) := by
  intro W σ w μ H x y b c Q l rx ry p
  unfold dInt2 at p
  split at p
  · rename_i i j
    exact ⟨i, j, rv_int rx, rv_int ry, p w _ H w.le_refl l (.int _)⟩
  · exact p.elim
def cMul (i j : Int) : Bool := decide ((Builtin.Int.intBits i : Int) + (Builtin.Int.intBits j : Int) ≤ 134217728)
def cDiv (_ j : Int) : Bool := decide (0 < j) && decide (j.natAbs.log2 < 9000)
def cMod (_ j : Int) : Bool := decide (0 < j)
def cPow (i j : Int) : Bool := decide (0 ≤ j) && decide (j ≤ 1000000) && decide (i.natAbs < 2 ^ 64)
abbrev dMul : Op2 := dNum cMul fun i j => i * j
abbrev dDiv : Op2 := dNum cDiv fun i j => i / j
abbrev dMod : Op2 := dNum cMod fun i j => i % j
abbrev dPow : Op2 := dNum cPow fun i j => i ^ j.toNat
theorem ok_mul {G : GT} : Ok2 G (rI CMulX fun i j => .int (i * j)) dMul := ok_num fun i j h => by
  unfold cMul at h
  unfold CMulX
  exact of_decide_eq_true h
theorem ok_div {G : GT} : Ok2 G (rI CDivW fun i j => .int (i / j)) dDiv := ok_num fun i j h => by
  unfold cDiv at h
  simp only [Bool.and_eq_true, decide_eq_true_eq] at h
  exact h
theorem ok_mod {G : GT} : Ok2 G (rI (fun _ j => 0 < j) fun i j => .int (i % j)) dMod := ok_num fun i j h => of_decide_eq_true h
theorem ok_pow {G : GT} : Ok2 G (rI CPow fun i j => .int (i ^ j.toNat)) dPow := ok_num fun i j h => by
  unfold cPow at h
  simp only [Bool.and_eq_true, decide_eq_true_eq] at h
  exact ⟨h.1.1, h.1.2, h.2⟩
abbrev dSub : Op2 := dInt2 fun i j => .int (i - j)
theorem ok_sub {G : GT} : Ok2 G (rI0 fun i j => .int (i - j)) dSub := ok_int2
def dNeg : Op1 := fun x μ => match x with
  | .d (.int i) => .ok (.d (.int (-i))) μ
  | _ => .bad
theorem ok_neg {G : GT} : Ok1 G (rU fun i => .int (-i)) dNeg := by
  intro W σ w μ H x b Q l rx p
  unfold dNeg at p
  split at p
  · exact ⟨_, rv_int rx, p w _ H w.le_refl l (.int _)⟩
  · exact p.elim

/-- two lists that may be read -/
def rCatS (K : PySem.W.Frag) : R2 := fun x y H Q => ∃ l b xs zs, x = .ref l ∧ y = .ref b ∧ SqL K H l xs ∧ SqL K H b zs ∧ xs.length + zs.length ≤ sizeLine ∧ ∀ p, H p = none → Q (.ref p) (upd H p (.lst (xs ++ zs)))
theorem op_catS {X : Cx} : OpR X (binaryOp .Add) (rCatS X.K) := by
  intro pins s σ H x y v u Q I rx ry h
  obtain ⟨l, b, xs, zs, rfl, rfl, hx, hy, hz, q⟩ := h
  cases rx
  cases ry
  obtain ⟨its, r, ⟨o, n, e, hc, hd, hdt⟩, _⟩ := I.list hx
  obtain ⟨its2, r2, ⟨o2, n2, e2, hc2, hd2, hdt2⟩, _⟩ := I.list hy
  obtain ⟨cls, dd, data, sl⟩ := o
  obtain ⟨cls2, dd2, data2, sl2⟩ := o2
  simp only at hc hd hdt hc2 hd2 hdt2
  subst hc hd hdt hc2 hd2 hdt2
  have hsz : its.toArray.size + its2.toArray.size ≤ sizeLine := by rw [List.size_toArray, List.size_toArray, ← r.length, ← r2.length]; exact hz
  have ty1 : s.TypeIs (.ref l) "list" := ⟨_, e, rfl⟩
  have ty2 : s.TypeIs (.ref b) "list" := ⟨_, e2, rfl⟩
  refine concat_meets ty1 ty2 noFill_list_add seq_list_add PySem.F.slot_list_add PySem.F.entry_list_add (PySem.F.args_list_add_2 _ _) (list_addW l b its.toArray its2.toArray n n2 none none sl sl2 hsz) ⟨e, e2, ?_⟩
  have ea : its.toArray ++ its2.toArray = (its ++ its2).toArray := by simp
  rw [ea]
  refine ⟨.ref s.heap.objs.size, _, I.laid (t' := s.toks) (o := .lst (xs ++ zs)) (fun b ob q => Heap.get?_push_of_some _ q) (Nat.le_refl _) ?_, rfl, q _ (I.hok.fresh (Nat.le_refl _))⟩
  exact ⟨by rw [List.length_append]; exact hz, its ++ its2, 0, r.append r2, Heap.get?_push_size _ rfl⟩
def rMulS : R2 := fun x y H Q => ∃ z i, x = .str z ∧ y = .int i ∧ MulOk z i ∧ Q (.str (Txt.mul z i)) H
theorem op_mulS {X : Cx} : OpR X (binaryOp .Mult) rMulS := by
  intro pins s σ H x y v u Q I rx ry h
  obtain ⟨z, i, rfl, rfl, hm, q⟩ := h
  obtain ⟨t, rfl⟩ := rx
  obtain ⟨t', rfl⟩ := ry
  exact SB.mul hm fun t2 k => ⟨.str _, H, I.tok k, ⟨t2, rfl⟩, q⟩
def dAdd : Op2 := fun x y μ => match x, y with
  | .d (.int i), .d (.int j) => .ok (.d (.int (i + j))) μ
  | .d (.str a), .d (.str b) => if a.length + b.length ≤ sizeLine then .ok (.d (.str (a ++ b))) μ else .bad
  | .d (.tuple xs), .d (.tuple ys) => if xs.length + ys.length ≤ sizeLine then .ok (.d (.tuple (xs ++ ys))) μ else .bad
  | _, _ => match items x μ, items y μ with
    | some xs, some ys => dList (xs ++ ys) μ
    | _, _ => .bad
/-- t + u -/
def rCatZ (K : PySem.W.Frag) : R2 := fun x y H Q => ∃ a b xs ys, x = .ref a ∧ y = .ref b ∧ SqT K H a xs ∧ SqT K H b ys ∧ xs.length + ys.length ≤ sizeLine ∧
  (xs = [] → Q (.ref b) H) ∧ (xs ≠ [] → ys = [] → Q (.ref a) H) ∧ (xs ≠ [] → ys ≠ [] → ∀ p its, H p = none → Q (.ref p) (upd H p (frT its (xs ++ ys))))
theorem op_catZ {X : Cx} : OpR X (binaryOp .Add) (rCatZ X.K) := by
  intro pins s σ H x y v u Q I rx ry h
  obtain ⟨a, b, xs, ys, rfl, rfl, ha, hb, hz, q0, q1, q2⟩ := h
  cases rx
  cases ry
  obtain ⟨its, r1, p1, _⟩ := I.tuple ha
  obtain ⟨its2, r2, p2, _⟩ := I.tuple hb
  by_cases hx : xs = []
  · subst hx
    cases r1
    exact L2.cat_tup0 p1 p2 ⟨.ref b, H, I, rfl, q0 rfl⟩
  · refine HT.cat_tup p1 p2 (fun z => hx (r1.nil_iff.mp z)) (fun z => ⟨.ref a, H, I, rfl, q1 hx (r2.nil_iff.mp z)⟩) (fun z => ?_) (by rw [← r1.length, ← r2.length]; exact hz)
    refine ⟨.ref s.heap.objs.size, _, I.laid (t' := s.toks) (o := frT (its ++ its2).toArray (xs ++ ys)) (fun b ob q => Heap.get?_push_of_some _ q) (Nat.le_refl _) (frT_ok (by rw [List.length_append]; exact hz) (r1.append r2) (Heap.get?_push_size _ (by rfl))), rfl, q2 hx (fun w => z (r2.nil_iff.mpr w)) _ _ (I.hok.fresh (Nat.le_refl _))⟩
def rAdd (K : PySem.W.Frag) : R2 := fun x y H Q => rI0 (fun i j => .int (i + j)) x y H Q ∨ (∃ i j, x = .str i ∧ y = .str j ∧ i.length + j.length ≤ sizeLine ∧ Q (.str (i ++ j)) H) ∨ rCatZ K x y H Q ∨ rCatS K x y H Q
theorem op_addA {X : Cx} : OpR X (binaryOp .Add) (DL.rAdd X.K) := op_add.or (op_add_str.or (op_catZ.or op_catS))
theorem ok_add {G : GT} : Ok2 G (DL.rAdd G.K) dAdd := by
  intro W σ w μ H x y b c Q l rx ry p
  unfold dAdd at p
  split at p
  · exact .inl ⟨_, _, rv_int rx, rv_int ry, p w _ H w.le_refl l (.int _)⟩
  · split at p
    · rename_i h
      exact .inr (.inl ⟨_, _, rv_str rx, rv_str ry, h, p w _ H w.le_refl l (.str _)⟩)
    · exact p.elim
  · split at p
    · rename_i xs ys h
      obtain ⟨a, us, rfl, h1, h2⟩ := rv_tupS rx
      obtain ⟨b, vs, rfl, h3, h4⟩ := rv_tupS ry
      refine .inr (.inr (.inl ⟨a, b, us, vs, rfl, rfl, (seqS l.same h1).t, (seqS l.same h3).t, by rw [h2.length, h4.length]; exact h, fun e => ?_, fun _ e => ?_, fun _ _ p' its np => ?_⟩))
      · subst e
        cases h2
        exact p w _ H w.le_refl l (.tup h3 h4)
      · subst e
        cases h4
        rw [List.append_nil] at p
        exact p w _ H w.le_refl l (.tup h1 h2)
      · obtain ⟨le, l2⟩ := l.new np (frT its (us ++ vs))
        exact p _ _ _ le l2 (.tup (SqS.of upd_same) (RpA.mono le.1 _ _ (h2.app h4)))
    · exact p.elim
  · split at p
    · rename_i xs ys h1 h2
      obtain ⟨a, us, rfl, g1, g2⟩ := items_ok l rx h1
      obtain ⟨b, vs, rfl, g3, g4⟩ := items_ok l ry h2
      have r : Rvs G w (us ++ vs) (xs ++ ys) := Paired.rec (motive := fun l m _ => Rvs G w (l ++ vs) (m ++ ys)) g4 (fun r _ ih => .cons r ih) g2
      obtain ⟨hz, q⟩ := list_new l r p
      exact .inr (.inr (.inr ⟨a, b, us, vs, rfl, rfl, g1, g3, by rw [List.length_append] at hz; exact hz, q⟩))
    · exact p.elim

def scalD : D → D → Bool
  | .none, .none => true | .none, .int _ => true | .int _, .none => true | .none, .bool _ => true | .bool _, .none => true | .none, .str _ => true | .str _, .none => true
  | .int _, .int _ => true | .bool _, .bool _ => true | .str _, .str _ => true
  | .int _, .str _ => true | .str _, .int _ => true | .bool _, .str _ => true | .str _, .bool _ => true
  | _, _ => false
mutual
theorem nodict_of0 : ∀ d : D, d.canLay0 = true → nodict d = true
  | .none, _ => rfl
  | .bool _, _ => rfl
  | .int _, _ => rfl
  | .str _, _ => rfl
  | .list ds, h => by
    rw [nodict]
    exact nodicts_of0 ds (by simpa [PyData.canLay0] using h)
  | .tuple ds, h => by
    rw [nodict]
    exact nodicts_of0 ds (by simpa [PyData.canLay0] using h)
  | .dict _, h => by simp [PyData.canLay0] at h
theorem nodicts_of0 : ∀ ds : List D, PyData.canLayAll0 ds = true → nodicts ds = true
  | [], _ => rfl
  | d :: ds, h => by
    simp only [PyData.canLayAll0, Bool.and_eq_true] at h
    simp only [nodicts, Bool.and_eq_true]
    exact ⟨nodict_of0 d h.1, nodicts_of0 ds h.2⟩
end
theorem nodict_of {d : D} (h : SeqAt.shaped d = true) : nodict d = true := nodict_of0 d (SeqAt.canLay_of_shaped h)
/-- == of two data -/
def eqD (x y : D) : Option Bool := if scalD x y = true then some (PyData.eqv x y) else if SeqAt.shaped x && SeqAt.shaped y then some (PyData.eqv x y) else none
def dEq (neg : Bool) : Op2 := fun x y μ => match view x μ, view y μ with
  | some a, some b => match eqD a b with
    | some k => .ok (.d (.bool (if neg then !k else k))) μ
    | none => .bad
  | _, _ => .bad
theorem scal_of {K : PySem.W.Frag} {H : Hp} : ∀ {x y : D} {v u : V}, Rp K H v x → Rp K H u y → scalD x y = true → scal v u = true ∧ decide (v = u) = PyData.eqv x y := by
  intro x y v u r q h
  cases r <;> cases q <;> first | (refine ⟨rfl, ?_⟩; simp [PyData.eqv]; done) | cases h
  · rename_i a b
    refine ⟨rfl, ?_⟩
    rw [dec_bl]
    simp only [PyData.eqv]
  · rename_i a b
    refine ⟨rfl, ?_⟩
    rw [dec_int]
    simp only [PyData.eqv]
  · rename_i a b
    refine ⟨rfl, ?_⟩
    rw [dec_str]
    simp only [PyData.eqv]
def rEqA (K : PySem.W.Frag) : R2 := fun x y H Q => rEq x y H Q ∨ rEqD K x y H Q
def rNeA (K : PySem.W.Frag) : R2 := fun x y H Q => rNe x y H Q ∨ rNeD K x y H Q
theorem op_eqA {X : Cx} (hu : X.A.units + 64 < cLine) : OpR X (compareOp .Eq) (rEqA X.K) := op_eq.or (op_eqD hu)
theorem op_neA {X : Cx} (hu : X.A.units + 64 < cLine) : OpR X (compareOp .NotEq) (rNeA X.K) := op_ne.or (op_neD hu)
theorem ok_eq {G : GT} : Ok2 G (rEqA G.K) (dEq false) := by
  intro W σ w μ H x y b c Q l rx ry p
  unfold dEq at p
  split at p
  · rename_i a1 b1 h1 h2
    have r1 := view_ok l rx h1
    have r2 := view_ok l ry h2
    unfold eqD at p
    by_cases hs : scalD a1 b1 = true
    · simp only [if_pos hs] at p
      obtain ⟨g1, g2⟩ := scal_of r1 r2 hs
      exact .inl ⟨g1, p w _ H w.le_refl l (by rw [g2]; exact .bl _)⟩
    · simp only [if_neg hs] at p
      by_cases hd : (SeqAt.shaped a1 && SeqAt.shaped b1) = true
      · simp only [if_pos hd] at p
        simp only [Bool.and_eq_true] at hd
        exact .inr ⟨a1, b1, Rp.dp _ _ (nodict_of hd.1) r1, Rp.dp _ _ (nodict_of hd.2) r2, hd.1, hd.2, p w _ H w.le_refl l (.bl _)⟩
      · simp only [if_neg hd] at p
        exact p.elim
  · exact p.elim
theorem ok_ne {G : GT} : Ok2 G (rNeA G.K) (dEq true) := by
  intro W σ w μ H x y b c Q l rx ry p
  unfold dEq at p
  split at p
  · rename_i a1 b1 h1 h2
    have r1 := view_ok l rx h1
    have r2 := view_ok l ry h2
    unfold eqD at p
    by_cases hs : scalD a1 b1 = true
    · simp only [if_pos hs] at p
      obtain ⟨g1, g2⟩ := scal_of r1 r2 hs
      exact .inl ⟨g1, p w _ H w.le_refl l (by rw [g2]; exact .bl _)⟩
    · simp only [if_neg hs] at p
      by_cases hd : (SeqAt.shaped a1 && SeqAt.shaped b1) = true
      · simp only [if_pos hd] at p
        simp only [Bool.and_eq_true] at hd
        exact .inr ⟨a1, b1, Rp.dp _ _ (nodict_of hd.1) r1, Rp.dp _ _ (nodict_of hd.2) r2, hd.1, hd.2, p w _ H w.le_refl l (.bl _)⟩
      · simp only [if_neg hd] at p
        exact p.elim
  · exact p.elim

def dCmp (g : Int → Int → Bool) (h : List Nat → List Nat → Bool) : Op2 := fun x y μ => match x, y with
  | .d (.int i), .d (.int j) => .ok (.d (.bool (g i j))) μ
  | .d (.str a), .d (.str b) => .ok (.d (.bool (h a.cps.toList b.cps.toList))) μ
  | _, _ => .bad
def rCmp (g : Int → Int → Bool) (h : List Nat → List Nat → Bool) : R2 := fun x y H Q => rI0 (fun i j => .bl (g i j)) x y H Q ∨ ∃ i j, x = .str i ∧ y = .str j ∧ Q (.bl (h i.cps.toList j.cps.toList)) H
theorem ok_cmp {G : GT} {g : Int → Int → Bool} {h : List Nat → List Nat → Bool} : Ok2 G (rCmp g h) (dCmp g h) := by
  intro W σ w μ H x y b c Q l rx ry p
  unfold dCmp at p
  split at p
  · exact .inl ⟨_, _, rv_int rx, rv_int ry, p w _ H w.le_refl l (.bl _)⟩
  · exact .inr ⟨_, _, rv_str rx, rv_str ry, p w _ H w.le_refl l (.bl _)⟩
  · exact p.elim
abbrev dLt : Op2 := dCmp (fun i j => decide (i < j)) fun a b => decide (a < b)
abbrev dLe : Op2 := dCmp (fun i j => decide (i ≤ j)) fun a b => !decide (b < a)
abbrev dGt : Op2 := dCmp (fun i j => decide (j < i)) fun a b => decide (b < a)
abbrev dGe : Op2 := dCmp (fun i j => decide (j ≤ i)) fun a b => !decide (a < b)
theorem op_ltA {X : Cx} : OpR X (compareOp .Lt) (rCmp (fun i j => decide (i < j)) fun a b => decide (a < b)) := op_lt.or op_lt_str
theorem op_leA {X : Cx} : OpR X (compareOp .LtE) (rCmp (fun i j => decide (i ≤ j)) fun a b => !decide (b < a)) := op_le.or op_le_str
theorem op_gtA {X : Cx} : OpR X (compareOp .Gt) (rCmp (fun i j => decide (j < i)) fun a b => decide (b < a)) := op_gt.or op_gt_str
theorem op_geA {X : Cx} : OpR X (compareOp .GtE) (rCmp (fun i j => decide (j ≤ i)) fun a b => !decide (a < b)) := op_ge.or op_ge_str
def isNone : D → Bool
  | .none => true
  | _ => false
/-- x is None (the other side is written) -/
def dIsN (neg : Bool) : Op2 := fun x _ μ => match x with
  | .d a => .ok (.d (.bool (if neg then !isNone a else isNone a))) μ
  | .c _ => .ok (.d (.bool neg)) μ
  | .f _ => .ok (.d (.bool neg)) μ
theorem non_iff {G : GT} {w : Wd} {v : V} {a : D} (r : Rv G w v (.d a)) : decide (v = V.non) = isNone a := by
  have r : Rp G.K w.I v a := r
  cases r <;> rfl
section
variable {X : Cx} {G : GT} {W : WX} {a : Expr} {ma : ME} {pos : Pos}
def eIsN (neg : Bool) (a : ME) : ME := fun ρ μ => (a ρ μ).bind fun x μ => dIsN neg x (.d .none) μ
theorem isN_imp : ∀ σ H Q, tE G W (eIsN false ma) σ H Q → tIsN (tE G W ma) σ H Q := by
  rintro σ H Q ⟨w, μ, ρ, hl, he, p⟩
  refine tD.seq (k := fun ρ x μ => dIsN false x (.d .none) μ) hl he p fun w1 μ1 H1 v b l1 lay1 en1 r1 p1 => ?_
  cases b with
  | d x => rw [non_iff r1]; exact p1 w1 _ H1 w1.le_refl lay1 (.bl _)
  | c n => obtain ⟨a, _, rfl⟩ := r1; exact p1 w1 _ H1 w1.le_refl lay1 (.bl _)
  | f n => obtain ⟨a, _, rfl⟩ := r1; exact p1 w1 _ H1 w1.le_refl lay1 (.bl _)
theorem notN_imp : ∀ σ H Q, tE G W (eIsN true ma) σ H Q → tNotN (tE G W ma) σ H Q := by
  rintro σ H Q ⟨w, μ, ρ, hl, he, p⟩
  refine tD.seq (k := fun ρ x μ => dIsN true x (.d .none) μ) hl he p fun w1 μ1 H1 v b l1 lay1 en1 r1 p1 => ?_
  cases b with
  | d x => rw [non_iff r1]; exact p1 w1 _ H1 w1.le_refl lay1 (.bl _)
  | c n => obtain ⟨a, _, rfl⟩ := r1; exact p1 w1 _ H1 w1.le_refl lay1 (.bl _)
  | f n => obtain ⟨a, _, rfl⟩ := r1; exact p1 w1 _ H1 w1.le_refl lay1 (.bl _)
theorem de_isN {j pos'} (ha : DE X G W a ma) : DE X G W (.Compare a [.Is] [.Constant .none j pos'] pos) (eIsN false ma) := PE.imp (pe_cmp (pc_isN ha) rfl) isN_imp
theorem de_notN {j pos'} (ha : DE X G W a ma) : DE X G W (.Compare a [.IsNot] [.Constant .none j pos'] pos) (eIsN true ma) := PE.imp (pe_cmp (pc_notN ha) rfl) notN_imp
theorem dt_isN {j pos'} (ha : DE X G W a ma) : DT X G W (.Compare a [.Is] [.Constant .none j pos'] pos) (tV (eIsN false ma)) := PT.imp (pt_cmp (pc_isN ha) rfl) fun σ H Q q => isN_imp σ H _ (test_imp (m := eIsN false ma) σ H Q q)
theorem dt_notN {j pos'} (ha : DE X G W a ma) : DT X G W (.Compare a [.IsNot] [.Constant .none j pos'] pos) (tV (eIsN true ma)) := PT.imp (pt_cmp (pc_notN ha) rfl) fun σ H Q q => notN_imp σ H _ (test_imp (m := eIsN true ma) σ H Q q)
end
end DL

namespace DL
open PySem PySem.Spec PyProof.Rows L2

def flatD : D → Bool
  | .none => true | .bool _ => true | .int _ => true | .str _ => true
  | _ => false
def allFlat : List Dv → Option (List D)
  | [] => some []
  | .d x :: r => if flatD x = true then match allFlat r with
    | some xs => some (x :: xs)
    | none => none else none
  | _ :: _ => none
theorem allFlat_map : ∀ {ds : List D}, (∀ d ∈ ds, flatD d = true) → allFlat (ds.map .d) = some ds
  | [], _ => rfl
  | d :: ds, h => by
    rw [List.map_cons, allFlat, if_pos (h d List.mem_cons_self), allFlat_map fun x hx => h x (List.mem_cons_of_mem _ hx)]
theorem flat_V {K : PySem.W.Frag} {I : Hp} {v : V} {x : D} (r : Rp K I v x) (h : flatD x = true) : flatV v = true := by
  cases r <;> first | rfl | cases h
theorem flat_eqv {K : PySem.W.Frag} {I : Hp} {v u : V} {x y : D} (r : Rp K I v x) (q : Rp K I u y) (h : flatD x = true) (h' : flatD y = true) : eqV v u = PyData.eqv x y := by
  cases r <;> first | cases h | skip
  all_goals (cases q <;> first | cases h' | skip)
  all_goals first | rfl | simp [eqV, PyData.eqv]
theorem flat_all {G : GT} {w : Wd} {v : V} {x : D} (r : Rp G.K w.I v x) (h : flatD x = true) : ∀ {xs : List V} {bs : List Dv} {ds : List D}, Rvs G w xs bs → allFlat bs = some ds → xs.all flatV = true ∧ inV v xs = ds.any fun y => PyData.eqv y x := by
  intro xs bs
  induction bs generalizing xs with
  | nil =>
    intro ds rr e
    cases rr
    cases e
    exact ⟨rfl, rfl⟩
  | cons b bs ih =>
    intro ds rr e
    cases rr with
    | cons r1 rr =>
      cases b with
      | d y =>
        unfold allFlat at e
        by_cases hy : flatD y = true
        · rw [if_pos hy] at e
          cases q : allFlat bs with
          | none => rw [q] at e; cases e
          | some es =>
            rw [q] at e
            cases e
            obtain ⟨g1, g2⟩ := ih rr q
            refine ⟨?_, ?_⟩
            · rw [List.all_cons, g1, flat_V r1 hy]; rfl
            · show (_ :: _ : List V).any _ = _
              rw [List.any_cons, List.any_cons, flat_eqv r1 r hy h, ← g2]
              rfl
        · rw [if_neg hy] at e; cases e
      | c _ => cases e
      | f _ => cases e
def sub1 (a b : Str) : Bool := match a.cps.toList with
  | [c] => decide (c ∈ b.cps.toList)
  | _ => !(Builtin.Str.occurrences b a 0 b.length 1).isEmpty
def itemsA (y : Dv) (μ : Store) : Option (List Dv) := match itemsT y with
  | some xs => some xs
  | none => items y μ
def dIn (neg : Bool) : Op2 := fun x y μ => match x, y with
  | .d (.str a), .d (.str b) => .ok (.d (.bool (if neg then !sub1 a b else sub1 a b))) μ
  | .d a, y => match itemsA y μ with
    | some bs => match allFlat bs with
      | some ds => if flatD a = true then .ok (.d (.bool (if neg then !(ds.any fun y => PyData.eqv y a) else ds.any fun y => PyData.eqv y a))) μ else .bad
      | none => .bad
    | none => .bad
  | _, _ => .bad
def rInS (neg : Bool) : R2 := fun x y H Q => ∃ (c : Nat) (z : Str), x = .str ⟨#[c]⟩ ∧ y = .str z ∧ Q (.bl (if neg then !decide (c ∈ z.cps.toList) else decide (c ∈ z.cps.toList))) H
def rInT (neg : Bool) : R2 := fun x y H Q => ∃ i j, x = .str i ∧ y = .str j ∧ Q (.bl (if neg then !(!(Builtin.Str.occurrences j i 0 j.length 1).isEmpty) else !(Builtin.Str.occurrences j i 0 j.length 1).isEmpty)) H
def rInA (K : PySem.W.Frag) (neg : Bool) : R2 := fun x y H Q => rInS neg x y H Q ∨ rInT neg x y H Q ∨ rIn K neg x y H Q
theorem op_inA {X : Cx} : OpR X (compareOp .In) (rInA X.K false) := OpR.or (r := rInS false) op_in_sign (OpR.or (r := rInT false) op_in_str op_in_seq)
theorem op_notInA {X : Cx} : OpR X (compareOp .NotIn) (rInA X.K true) := OpR.or (r := rInS true) op_notIn_sign (OpR.or (r := rInT true) op_notIn_str op_notIn_seq)
theorem itemsA_ok {G : GT} {w : Wd} {v : V} {μ : Store} {H : Hp} {b : Dv} {xs : List Dv} (l : Lay G w μ H) (r : Rv G w v b) (e : itemsA b μ = some xs) : ∃ a vs, v = .ref a ∧ (SqL G.K H a vs ∨ SqT G.K H a vs) ∧ Rvs G w vs xs := by
  unfold itemsA at e
  split at e
  · rename_i ys h
    cases e
    unfold itemsT at h
    split at h
    · cases h
      obtain ⟨a, vs, rfl, h1, h2⟩ := rv_tup r
      exact ⟨a, vs, rfl, .inr (seqT l.same h1), Rvs_of_RpA h2⟩
    · cases h
  · obtain ⟨a, vs, rfl, h1, h2⟩ := items_ok l r e
    exact ⟨a, vs, rfl, .inl h1, h2⟩
theorem ok_in {G : GT} {neg : Bool} : Ok2 G (rInA G.K neg) (dIn neg) := by
  intro W σ w μ H x y b c Q l rx ry p
  unfold dIn at p
  split at p
  · rename_i a b
    by_cases hc : ∃ n, a.cps.toList = [n]
    · obtain ⟨n, e⟩ := hc
      have hs : sub1 a b = decide (n ∈ b.cps.toList) := by unfold sub1; rw [e]
      rw [hs] at p
      refine .inl ⟨n, b, ?_, rv_str ry, p w _ H w.le_refl l (.bl _)⟩
      rw [rv_str rx]
      have : a = ⟨#[n]⟩ := by
        obtain ⟨arr⟩ := a
        have e : arr.toList = [n] := e
        congr 1
        exact Array.toList_inj.mp (by simpa using e)
      rw [this]
    · have hs : sub1 a b = !(Builtin.Str.occurrences b a 0 b.length 1).isEmpty := by
        unfold sub1
        split
        · rename_i n e
          exact absurd ⟨n, e⟩ hc
        · rfl
      rw [hs] at p
      exact .inr (.inl ⟨a, b, rv_str rx, rv_str ry, p w _ H w.le_refl l (.bl _)⟩)
  · split at p
    · rename_i bs h1
      split at p
      · rename_i ds h2
        split at p
        · rename_i h3
          obtain ⟨a, vs, rfl, g1, g2⟩ := itemsA_ok l ry h1
          have rx : Rp G.K w.I x _ := rx
          obtain ⟨f1, f2⟩ := flat_all rx h3 g2 h2
          exact .inr (.inr ⟨a, vs, rfl, g1, flat_V rx h3, f1, by rw [f2]; exact p w _ H w.le_refl l (.bl _)⟩)
        · exact p.elim
      · exact p.elim
    · exact p.elim
  · exact p.elim

def dIx : Op2 := fun x y μ => match y with
  | .d (.int i) => match x with
    | .d (.str z) => if z.length ≤ sizeLine then match atI z.cps.toList i with
      | some c => .ok (.d (.str ⟨#[c]⟩)) μ
      | none => .bad else .bad
    | x => match itemsA x μ with
      | some bs => match atI bs i with
        | some b => .ok b μ
        | none => .bad
      | none => .bad
  | _ => .bad
theorem Rvs.at {G : GT} {w : Wd} {vs : List V} {bs : List Dv} (r : Rvs G w vs bs) : ∀ {j : Nat} {b : Dv}, bs[j]? = some b → ∃ v, vs[j]? = some v ∧ Rv G w v b := by
  induction r with
  | nil => intro j b h; simp at h
  | cons r t ih =>
    intro j b h
    cases j with
    | zero => simp at h; subst h; exact ⟨_, rfl, r⟩
    | succ j => simpa using ih (by simpa using h)
theorem Rvs.atI {G : GT} {w : Wd} {vs : List V} {bs : List Dv} (r : Rvs G w vs bs) {i : Int} {b : Dv} (e : L2.atI bs i = some b) : ∃ v, L2.atI vs i = some v ∧ Rv G w v b := by
  unfold L2.atI at e ⊢
  rw [Paired.length r]
  cases q : ixN bs.length i with
  | none => rw [q] at e; cases e
  | some j =>
    rw [q] at e
    exact r.at e
theorem ok_ix {G : GT} : Ok2 G (rIx G.K) dIx := by
  intro W σ w μ H x y b c Q l rx ry p
  unfold dIx at p
  split at p
  · rename_i i
    split at p
    · split at p
      · rename_i h
        split at p
        · rename_i c e
          exact .inr (.inr ⟨_, i, c, rv_str rx, rv_int ry, h, e, p w _ H w.le_refl l (.str _)⟩)
        · exact p.elim
      · exact p.elim
    · split at p
      · rename_i bs h
        split at p
        · rename_i b' e
          obtain ⟨a, vs, rfl, g1, g2⟩ := itemsA_ok l rx h
          obtain ⟨v, g3, g4⟩ := Rvs.atI g2 e
          rcases g1 with g1 | g1
          · exact .inl ⟨a, vs, i, v, rfl, rv_int ry, g1, g3, p w _ H w.le_refl l g4⟩
          · exact .inr (.inl ⟨a, vs, i, v, rfl, rv_int ry, g1, g3, p w _ H w.le_refl l g4⟩)
        · exact p.elim
      · exact p.elim
  · exact p.elim
section
variable {X : Cx} {G : GT} {W : WX} {a b e : Expr} {ma mb : ME} {pos p2 : Pos}
theorem de_ix {r : R2} {f : Op2} (hr : IxR X r) (h : Ok2 G r f) (ha : DE X G W a ma) (hb : DE X G W b mb) (hs : PlainIx b := by exact fun _ _ => rfl) : DE X G W (.Subscript a b pos) (e2 f ma mb) := PE.imp (pe_ix hr ha hb hs) (op_imp h)

abbrev MO := DEnv → Store → Out (Option Int)
def oNone : MO := fun _ μ => .ok none μ
def asInt : Dv → Store → Out (Option Int)
  | .d (.int i), μ => .ok (some i) μ
  | _, _ => .bad
def oSome (a : ME) : MO := fun ρ μ => (a ρ μ).bind asInt
abbrev tO (G : GT) (W : WX) (m : MO) : TO := tD G W (fun _ b c => b = c) m
abbrev DO (X : Cx) (G : GT) (W : WX) (e : Option Expr) (m : MO) : Prop := PO X e (tO G W m)
theorem PO.imp {X : Cx} {e : Option Expr} {t t' : TO} (h : PO X e t) (i : ∀ σ H Q, t' σ H Q → t σ H Q) : PO X e t' := ⟨fun p s σ H Q I hw => h.run p s σ H Q I (i _ _ _ hw)⟩
theorem do_none : DO X G W none oNone := by
  refine PO.imp po_none ?_
  rintro σ H Q ⟨w, μ, ρ, hl, he, p⟩
  exact p w none H w.le_refl hl rfl
theorem do_some (h : DE X G W e ma) : DO X G W (some e) (oSome ma) := by
  refine PO.imp (po_some h) ?_
  rintro σ H Q ⟨w, μ, ρ, hl, he, p⟩
  refine tD.seq (k := fun ρ x μ => asInt x μ) hl he p fun w1 μ1 H1 v b l1 lay1 en1 r1 p1 => ?_
  cases b with
  | d x =>
    cases x with
    | int i => exact ⟨i, rv_int r1, p1 w1 _ H1 w1.le_refl lay1 rfl⟩
    | _ => exact p1.elim
  | _ => exact p1.elim
def cutL {α : Type} (xs : List α) (lo hi : Option Int) : List α := (xs.drop (HT.sIx xs.length 0 lo)).take (HT.sIx xs.length xs.length hi - HT.sIx xs.length 0 lo)
def dSl (x : Dv) (lo hi : Option Int) (μ : Store) : Out Dv := match x with
  | .d (.str z) => if z.length ≤ sizeLine then .ok (.d (.str (cutS z lo hi))) μ else .bad
  | .d (.tuple ds) => .ok (.d (.tuple (cutL ds lo hi))) μ
  | x => match items x μ with
    | some bs => match allD (cutL bs lo hi) with
      | some ds => .ok (.d (.list ds)) μ
      | none => .bad
    | none => .bad
def eSl (a : ME) (l h : MO) : ME := fun ρ μ => (a ρ μ).bind fun x μ => (l ρ μ).bind fun i μ => (h ρ μ).bind fun j μ => dSl x i j μ
/-- t[lo:hi] -/
def rSlZ (K : PySem.W.Frag) : V → Option Int → Option Int → Hp → VK → Prop := fun x lo hi H Q => ∃ a xs, x = .ref a ∧ SqT K H a xs ∧
  (HT.sIx xs.length 0 lo = 0 ∧ HT.sIx xs.length xs.length hi = xs.length → Q (.ref a) H) ∧ (¬ (HT.sIx xs.length 0 lo = 0 ∧ HT.sIx xs.length xs.length hi = xs.length) → ∀ p its, H p = none → Q (.ref p) (upd H p (frT its (cutV xs lo hi))))
theorem sl_tupZ {X : Cx} : SlR X (rSlZ X.K) := by
  intro pins s σ H x v vl vu lo hi sl Q I rx hs pl pu h
  obtain ⟨a, xs, rfl, hx, q1, q2⟩ := h
  cases rx
  obtain ⟨its, r, ht, hz⟩ := I.tuple hx
  have hlen : its.toArray.size = xs.length := by rw [List.size_toArray]; exact r.length.symm
  refine ⟨"tuple", _, PyProof.Rows.slot_tuple_getitem.lookup, ht.typeIs, ?_⟩
  by_cases hw : HT.sIx xs.length 0 lo = 0 ∧ HT.sIx xs.length xs.length hi = xs.length
  · exact L2.getItem_tuple_whole ht hs pl pu (by rw [hlen]; exact hw) ⟨.ref a, H, I, rfl, q1 hw⟩
  · refine HT.getItem_tuple_cut ht hs pl pu (by rw [hlen]; exact hw) ?_ (by rw [hlen]; exact hz)
    rw [hlen]
    refine ⟨.ref s.heap.objs.size, _, I.laid (t' := s.toks) (o := frT ((its.drop (HT.sIx xs.length 0 lo)).take (HT.sIx xs.length xs.length hi - HT.sIx xs.length 0 lo)).toArray (cutV xs lo hi)) (fun b ob q => Heap.get?_push_of_some _ q) (Nat.le_refl _)
      (frT_ok (Nat.le_trans (cutV_length xs lo hi) hz) ((r.drop _).take _) (Heap.get?_push_size _ (by rfl))), rfl, q2 hw _ _ (I.hok.fresh (Nat.le_refl _))⟩
def rSl (K : PySem.W.Frag) : V → Option Int → Option Int → Hp → VK → Prop := fun x lo hi H Q => rSlS x lo hi H Q ∨ rSlZ K x lo hi H Q ∨ rSlL K x lo hi H Q
theorem sl_any {X : Cx} : SlR X (rSl X.K) := sl_str.or (sl_tupZ.or sl_list)
theorem RpA.cut {K : PySem.W.Frag} {I : Hp} {vs : List V} {ds : List D} (r : RpA K I vs ds) (lo hi : Option Int) : RpA K I (cutV vs lo hi) (cutL ds lo hi) := by
  unfold cutV cutL
  rw [r.length]
  exact (r.drop _).take _
theorem Rvs.drop {G : GT} {w : Wd} : ∀ {vs : List V} {bs : List Dv} (n : Nat), Rvs G w vs bs → Rvs G w (vs.drop n) (bs.drop n)
  | _, _, 0, r => r
  | _, _, n + 1, .nil => .nil
  | _, _, n + 1, .cons _ t => Rvs.drop n t
theorem Rvs.take {G : GT} {w : Wd} : ∀ {vs : List V} {bs : List Dv} (n : Nat), Rvs G w vs bs → Rvs G w (vs.take n) (bs.take n)
  | _, _, 0, r => by simp; exact .nil
  | _, _, n + 1, .nil => .nil
  | _, _, n + 1, .cons r t => .cons r (Rvs.take n t)
theorem de_slice {lo hi : Option Expr} {ml mh : MO} (hK : X.K = G.K) (ha : DE X G W a ma) (hl : DO X G W lo ml) (hh : DO X G W hi mh) : DE X G W (.Subscript a (.Slice lo hi none p2) pos) (eSl ma ml mh) := by
  refine PE.imp (pe_slice sl_any ha hl hh) ?_
  rintro σ H Q ⟨w, μ, ρ, hl, he, p⟩
  refine tD.seq (k := fun ρ x μ => (ml ρ μ).bind fun i μ => (mh ρ μ).bind fun j μ => dSl x i j μ) hl he p fun w1 μ1 H1 v b l1 lay1 en1 r1 p1 => ?_
  refine tD.seq (k := fun ρ i μ => (mh ρ μ).bind fun j μ => dSl b i j μ) lay1 en1 p1 fun w2 μ2 H2 i i' l2 lay2 en2 r2 p2 => ?_
  refine tD.seq (k := fun ρ j μ => dSl b i' j μ) lay2 en2 p2 fun w3 μ3 H3 j j' l3 lay3 en3 r3 p3 => ?_
  have r2 : i = i' := r2
  have r3 : j = j' := r3
  subst r2 r3
  have r1 := (r1.mono l2).mono l3
  unfold dSl at p3
  split at p3
  · split at p3
    · rename_i h
      exact .inl ⟨_, rv_str r1, h, p3 w3 _ H3 w3.le_refl lay3 (.str _)⟩
    · exact p3.elim
  · obtain ⟨a, vs, rfl, g1, g2⟩ := rv_tupS r1
    refine .inr (.inl ⟨a, vs, rfl, by rw [hK]; exact (seqS lay3.same g1).t, fun e => ?_, fun _ p' its np => ?_⟩)
    · have : ∀ ds : List D, RpA G.K w3.I vs ds → cutL ds i j = ds := fun ds g2 => by
        unfold cutL
        rw [g2.length] at e
        rw [e.1, e.2]
        simp
      rw [this _ g2] at p3
      exact p3 w3 _ H3 w3.le_refl lay3 (.tup g1 g2)
    · obtain ⟨le, l2'⟩ := lay3.new np (frT its (cutV vs i j))
      exact p3 _ _ _ le l2' (.tup (SqS.of upd_same) (RpA.mono le.1 _ _ (g2.cut i j)))
  · split at p3
    · rename_i bs h
      split at p3
      · rename_i ds hd
        obtain ⟨a, vs, rfl, g1, g2⟩ := items_ok lay3 r1 h
        have g3 : Rvs G w3 (cutV vs i j) (cutL bs i j) := by
          unfold cutV cutL
          rw [Paired.length g2]
          exact Rvs.take _ (Rvs.drop _ g2)
        rw [allD_eq hd] at g3
        refine .inr (.inr ⟨a, vs, rfl, by rw [hK]; exact g1, fun p' np => ?_⟩)
        obtain ⟨le, l2'⟩ := lay3.new np (.lst (cutV vs i j))
        exact p3 _ _ _ le l2' (.lst (SqL.of upd_same) (RpA.mono le.1 _ _ (RpA_of_Rvs g3)))
      · exact p3.elim
    · exact p3.elim
end

def OkM (G : GT) (r : V → List V → Hp → VK → Prop) (f : Dv → OpN) : Prop := ∀ (W : WX) (σ : L2.St) (w : Wd) (μ : Store) (H : Hp) (x : V) (xs : List V) (b : Dv) (bs : List Dv) (Q : VK), Lay G w μ H → Rv G w x b → Rvs G w xs bs → Pst G W σ (Rv G) w (f b bs μ) Q → r x xs H Q
def OkT (G : GT) (T : String) (c : Dv → Store → Bool) : Prop := ∀ (w : Wd) (μ : Store) (H : Hp) (x : V) (b : Dv), Lay G w μ H → Rv G w x b → c b μ = true → tyV G.K T x H
def isStr : Dv → Store → Bool
  | .d (.str _), _ => true
  | _, _ => false
theorem ty_str {G : GT} : OkT G "str" isStr := by
  intro w μ H x b l r h
  unfold isStr at h
  split at h
  · rw [rv_str r]; exact rfl
  · cases h
def isList (b : Dv) (μ : Store) : Bool := (items b μ).isSome
def eM (c : Dv → Store → Bool) (f : Dv → OpN) (o : ME) (a : MA) : ME := fun ρ μ => (o ρ μ).bind fun x μ => if c x μ = true then (a ρ μ).bind fun xs μ => f x xs μ else .bad
section
variable {X : Cx} {G : GT} {W : WX} {o e : Expr} {es : List Expr} {mo : ME} {mas : MA} {pos apos cpos : Pos} {T id : String} {name : Str} {r : V → List V → Hp → VK → Prop} {f : Dv → OpN} {c : Dv → Store → Bool}
theorem de_bm (pa : PlainAttrs T) (slot : Slot T name id) (hty : typeOf (.builtin id) = pure (.type "method_descriptor")) (hm : MtR X id r) (h : OkM G r f) (hT : OkT G T c) (hK : X.K = G.K) (ho : DE X G W o mo) (ha : DA X G W (e :: es) mas)
    (hbase : attributeBase o name X.env (eval o X.env) = eval o X.env := by rfl)
    (hfew : ((backTo cpos (starEach (e :: es) X.env)).all (fun x => !x.1) && (backToKw cpos (keywordEach [] X.env)).all (fun x => x.1.isSome)
      && decide ((e :: es).length + ([] : List Keyword).length + (if ([] : List Keyword).isEmpty then 0 else 1) < 30)) = true := by rfl)
    (hline : (apos.endLine == cpos.line) = true := by rfl) (hs : starEach (e :: es) X.env = (false, eval e X.env) :: starEach es X.env := by rfl) (hplain : (backTo cpos (starEach es X.env)).any (·.1) = false := by rfl) :
    DE X G W (.Call (.Attribute o name apos) (e :: es) [] cpos) (eM c f mo mas) := by
  refine PE.imp (pe_bm pa slot hty hm ho ha hbase hfew hline hs hplain) ?_
  rintro σ H Q ⟨w, μ, ρ, hl, he, p⟩
  refine tD.seq (k := fun ρ x μ => if c x μ = true then (mas ρ μ).bind fun xs μ => f x xs μ else .bad) hl he p fun w1 μ1 H1 v b l1 lay1 en1 r1 p1 => ?_
  split at p1
  · rename_i hc
    refine ⟨by rw [hK]; exact hT w1 μ1 H1 v b lay1 r1 hc, ?_⟩
    exact tD.seq (k := fun ρ xs μ => f b xs μ) lay1 en1 p1 fun w2 μ2 H2 vs bs l2 lay2 en2 r2 p2 => h W σ w2 μ2 H2 v vs b bs Q lay2 (r1.mono l2) r2 p2
  · exact p1.elim
end
end DL

namespace DL
open PySem PySem.Spec PyProof.Rows L2

theorem RpA_ints {K : PySem.W.Frag} {I : Hp} : ∀ ns : List Int, RpA K I (ns.map V.int) (ns.map PyData.int)
  | [] => .nil
  | n :: ns => .cons (.int n) (RpA_ints ns)
end DL

namespace DL
open PySem PySem.Spec PyProof.Rows L2

theorem ns_one {h : Heap} {L : Addr} {m m' : Str → Option Value} (x : h.Ns L m) (y : h.Ns L m') : m = m' := by
  obtain ⟨o, es, ep, e1, e2, _, e3⟩ := x
  obtain ⟨o', es', ep', f1, f2, _, f3⟩ := y
  rw [e1] at f1
  cases f1
  rw [e2] at f2
  cases f2
  funext z
  rw [← e3, ← f3]
section
variable {X : Cx} {pins : List (Addr × Obj)} {σ : L2.St} {H : Hp} {s : Shared}
theorem objok_there {P : Program} {w : World} {H : Hp} {h : Heap} {a : Addr} {o : HO} (x : ObjOk P w H h a o) : ∃ ob, h.get? a = some ob := by
  cases o with
  | lst xs => obtain ⟨_, _, _, _, e⟩ := x; exact ⟨_, e⟩
  | tup xs => obtain ⟨_, _, _, o, e, _⟩ := x; exact ⟨_, e⟩
  | dK kvs => obtain ⟨_, _, _, _, o, _, _, e, _⟩ := x; exact ⟨_, e⟩
  | dT kvs => obtain ⟨_, _, _, _, o, _, _, e, _⟩ := x; exact ⟨_, e⟩
  | set S n => obtain ⟨o, _, _, _, e, _⟩ := x; exact ⟨_, e⟩
  | ins C dx fs => obtain ⟨_, _, _, e, _⟩ := x; exact ⟨_, e⟩
  | own y => obtain ⟨_, e⟩ := x; exact ⟨_, e⟩
  | xd fs => obtain ⟨_, ⟨_, _, _, e, _⟩, _⟩ := x; exact ⟨_, e⟩
  | rng lo hi => obtain ⟨_, _, _, e⟩ := x; exact ⟨_, e⟩
  | frz ob u => obtain ⟨e, _⟩ := x; exact ⟨_, e⟩
  | tbl ps => exact ⟨_, x⟩
  | met f y => exact ⟨_, x⟩
  | ext φ => obtain ⟨_, ⟨_, e⟩, _⟩ := x; exact ⟨_, e⟩
theorem Inv.led {m : Str → Option Value} {h' : Heap} {tk : Nat} {D : Addr} {ys : List V} {its : List Value} (I : Inv X pins σ H s) (F : Fr X.base X.env.locals s.heap m) (F' : Fr X.base X.env.locals h' m) (N' : News X.base X.env.locals h' ((D, PySem.W.listOf its.toArray 0) :: allNews X.base s.heap X.env.locals))
    (lt : ∀ p ∈ allNews X.base s.heap X.env.locals, p.1 < D) (r : Vals ys its) (hz : ys.length ≤ sizeLine) : H D = none ∧ Inv X pins σ (upd H D (.lst ys)) { s with heap := h', toks := tk } := by
  obtain ⟨hD, nL, nb⟩ := N' (D, PySem.W.listOf its.toArray 0) List.mem_cons_self
  have fresh : s.heap.get? D = none := by
    cases q : s.heap.get? D with
    | none => rfl
    | some o => exact absurd (lt (D, o) (mem_allNews nL nb q)) (Nat.lt_irrefl _)
  have nH : H D = none := by
    cases q : H D with
    | none => rfl
    | some o =>
      obtain ⟨u, e⟩ := objok_there (I.hok D o q)
      rw [fresh] at e
      cases e
  have keep : ∀ b o, b ≠ X.env.locals → s.heap.get? b = some o → h'.get? b = some o := by
    intro b o hb e
    cases q : X.base.get? b with
    | some u =>
      have := F.keep b u q
      rw [e] at this
      cases this
      exact F'.keep b _ q
    | none => exact (N' (b, o) (List.mem_cons_of_mem _ (mem_allNews hb q e))).1
  have ns : ∀ m', s.heap.Ns X.env.locals m' → h'.Ns X.env.locals m' := fun m' hm => by rw [ns_one hm F.ns]; exact F'.ns
  refine ⟨nH, ?_⟩
  have sD : ∀ b o, s.heap.get? b = some o → b ≠ D := fun b o e z => by rw [z, fresh] at e; cases e
  apply I.step (g' := s.gens) (d' := s.drawn) (ch := [])
  · exact fun _ z => nomatch z
  · exact fun b o hb _ _ e _ => keep b o hb e
  · exact fun b o hb _ _ e _ => ⟨o.slots, keep b o hb e⟩
  · exact fun b o _ e n => by rw [upd_ne (sD b o e)]; exact n
  · intro b o _ e
    by_cases hb : b = X.env.locals
    · subst hb
      obtain ⟨o', _, _, e', _⟩ := F'.ns
      exact ⟨o', e'⟩
    · exact ⟨o, keep b o hb e⟩
  · exact fun b xs e => by rw [upd_ne (ne_of_none e nH)]; exact e
  · exact fun b o u e => by rw [upd_ne (ne_of_none e nH)]; exact e
  · exact fun b ps e => ⟨#[], by rw [upd_ne (ne_of_none e nH), e]; simp⟩
  · exact ns
  · intro b u e
    by_cases hb : b = D
    · subst hb
      rw [upd_same] at e
      cases e
      exact ⟨hz, its, 0, r, hD⟩
    · rw [upd_ne hb] at e
      refine (I.hok b u e).stay (fun c v hc q => keep c v ?_ q) (fun c q => by rw [upd_ne (ne_of_none q nH)]; exact q) fun c xs q => by rw [upd_ne (ne_of_none q nH)]; exact q
      rcases hc with rfl | hc
      · intro z; rw [z, I.free] at e; cases e
      · intro z; rw [z, I.free] at hc; cases hc
  · exact I.bare
end
def gStarV (K : PySem.W.Frag) (n : Nat) (t : TGs) : TG := fun v σ H Q => ∃ a xs, v = .ref a ∧ SqT K H a xs ∧ n ≤ xs.length ∧ xs.length ≤ 16384 ∧ ∀ D, H D = none → t (xs.take n ++ [.ref D]) σ (upd H D (.lst (xs.drop n))) Q
section
variable {X : Cx} {G : GT} {W : WX} {e t : Expr} {es : List Expr} {pos p : Pos} {g : MG} {gs : MGs} {S T : List Nat}
theorem pgs_star {tg : TG} {u : TGs} (h1 : PG X t tg) (h2 : PGs X es u) (hs : (assignEach (.Starred t p :: es) X.env).map (·.2) = assign t X.env :: (assignEach es X.env).map (·.2) := by rfl) : PGs X (.Starred t p :: es) (gCons tg u) := by
  constructor
  intro pins s σ H vs us Q I r h
  obtain ⟨v, vr, rfl, h⟩ := h
  cases r with
  | cons r rr =>
    rw [hs]
    apply assignInOrder_cons
    apply thn (h1.run pins s σ H _ _ _ I r h)
    rintro _ s1 ⟨σ1, H1, I1, q1⟩
    exact h2.run pins s1 σ1 H1 _ _ Q I1 rr q1
theorem pg_star {k n : Nat} {u : TGs} (hc : X.calm = true) (h : PGs X es u) (hn : (assignEach es X.env).length = n + 1 := by rfl) (hst : (assignEach es X.env).findIdx? (·.1) = some n := by rfl) : PG X (.Tuple es k pos) (gStarV X.K n u) := by
  constructor
  intro pins s σ H v uu Q I r hw
  obtain ⟨a, xs, rfl, hq, hl, h16, hw⟩ := hw
  cases r
  obtain ⟨its, rv, ht, hz⟩ := I.tuple hq
  obtain ⟨m, F⟩ := I.fr
  have hlen := rv.length
  refine PySem.W.kun_assignT (i := n) (n := n + 1) (first := its.take n) (mids := its.drop n) (lasts := []) F news_all ht (I.ok.hd hc) hn hst (Nat.lt_succ_self _) ?_ ?_ ?_ ?_ ?_ ?_
  · rw [List.size_toArray]; omega
  · rw [List.size_toArray]; omega
  · rfl
  · show (its.drop n).take (its.toArray.size + 1 - (n + 1)) = its.drop n
    rw [List.take_of_length_le]
    rw [List.length_drop, List.size_toArray]
    omega
  · show (its.drop n).drop (its.toArray.size + 1 - (n + 1)) = []
    rw [List.drop_of_length_le]
    rw [List.length_drop, List.size_toArray]
    omega
  · intro D h' tk F' N' lt
    obtain ⟨nH, I'⟩ := Inv.led (tk := tk) I F F' N' lt (rv.drop n) (by rw [List.length_drop]; omega)
    rw [List.append_nil]
    exact h.run pins _ σ _ _ _ Q I' ((rv.take n).append (Paired.cons (show L2.RelV (V.ref D) (Value.ref D) from rfl) .nil)) (hw D nH)
def gStar (n : Nat) (g : MGs) : MG := fun b ρ μ => match b with
  | .d (.tuple ds) => if n ≤ ds.length ∧ ds.length ≤ 16384 then g ((ds.take n).map .d ++ [.d (.list (ds.drop n))]) ρ μ else .bad
  | _ => .bad
theorem gcons_imp : ∀ vs σ H Q, tGs G (S ++ T) (gsCons g gs) vs σ H Q → gCons (tG G S g) (tGs G T gs) vs σ H Q := by
  rintro vs σ H Q ⟨w, μ, ρ, bs, hl, he, r, p⟩
  cases r with
  | nil => exact p.elim
  | @cons v b vs bs rv rr =>
    refine ⟨v, vs, rfl, w, μ, ρ, b, hl, he, rv, ?_⟩
    have p : PstG G w (S ++ T) σ ((g b ρ μ).bind fun ρ μ => gs bs ρ μ) Q := p
    cases q : g b ρ μ with
    | bad => rw [q] at p; exact p.elim
    | ex _ _ => rw [q] at p; exact p.elim
    | ok ρ1 μ1 =>
      rw [q] at p
      have p : PstG G w (S ++ T) σ (gs bs ρ1 μ1) Q := p
      refine fun w1 σ1 H1 l1 lay1 en1 ag => ⟨w1, μ1, ρ1, bs, lay1, en1, Rvs.mono l1 rr, ?_⟩
      cases q2 : gs bs ρ1 μ1 with
      | bad => rw [q2] at p; exact p.elim
      | ex _ _ => rw [q2] at p; exact p.elim
      | ok ρ2 μ2 =>
        rw [q2] at p
        exact fun w2 σ2 H2 l2 lay2 en2 ag2 => p w2 σ2 H2 (l1.trans l2) lay2 en2 (ag.trans ag2)
theorem dgs_star (h1 : DG X G S t g) (h2 : DGs X G T es gs) (hs : (assignEach (.Starred t p :: es) X.env).map (·.2) = assign t X.env :: (assignEach es X.env).map (·.2) := by rfl) : DGs X G (S ++ T) (.Starred t p :: es) (gsCons g gs) := PGs.imp (pgs_star h1 h2 hs) gcons_imp
theorem dg_star {k n : Nat} (hc : X.calm = true) (hK : X.K = G.K) (h : DGs X G S es gs) (hn : (assignEach es X.env).length = n + 1 := by rfl) (hst : (assignEach es X.env).findIdx? (·.1) = some n := by rfl) : DG X G S (.Tuple es k pos) (gStar n gs) := by
  refine PG.imp (pg_star hc h hn hst) ?_
  rintro v σ H Q ⟨w, μ, ρ, b, hl, he, r, p⟩
  unfold gStar at p
  split at p
  · rename_i ds
    split at p
    · rename_i hh
      obtain ⟨a, xs, rfl, h1, h2⟩ := rv_tup r
      refine ⟨a, xs, rfl, by rw [hK]; exact seqT hl.same h1, by rw [h2.length]; exact hh.1, by rw [h2.length]; exact hh.2, fun D nD => ?_⟩
      obtain ⟨le, l2⟩ := hl.new nD (.lst (xs.drop n))
      refine ⟨_, μ, ρ, _, l2, he.mono le, ?_, PstG.mono le p⟩
      have r1 : Rvs G (w.put D (.lst (xs.drop n))) (xs.take n) ((ds.take n).map .d) := Rvs_of_RpA (RpA.mono le.1 _ _ (h2.take n))
      have r2 : Rv G (w.put D (.lst (xs.drop n))) (.ref D) (.d (.list (ds.drop n))) := .lst (SqL.of upd_same) (RpA.mono le.1 _ _ (h2.drop n))
      exact Paired.rec (motive := fun l m _ => Rvs G (w.put D (.lst (xs.drop n))) (l ++ [.ref D]) (m ++ [.d (.list (ds.drop n))])) (.cons r2 .nil) (fun r _ ih => .cons r ih) r1
    · exact p.elim
  · exact p.elim
end

section
variable {G : GT} {w : Wd} {μ : Store} {H : Hp}
theorem get_nodup {l : List Addr} (h : l.Nodup) {i j : Nat} {a : Addr} (hi : l[i]? = some a) (hj : l[j]? = some a) : i = j := by
  obtain ⟨h1, e1⟩ := List.getElem?_eq_some_iff.mp hi
  obtain ⟨h2, e2⟩ := List.getElem?_eq_some_iff.mp hj
  exact (List.getElem_inj h).mp (e1.trans e2.symm)
/-- a cell is written -/
theorem Lay.write (l : Lay G w μ H) {n : Nat} {a : Addr} {c : Cell} {o : HO} (ha : w.α[n]? = some a) (nI : w.I a = none) (hc : ∀ H', H' a = some o → CellAt G w H' a c) : Lay G w (μ.set n c) (upd H a o) := by
  have nF := l.fd a (List.mem_of_getElem? ha)
  refine ⟨fun b u e => ?_, by rw [List.length_set]; exact l.len, l.nd, fun b hb => ?_, fun b u e => ?_, l.fd, l.di, fun m c' b e q => ?_⟩
  · rw [upd_ne (fun z => by rw [z, nI] at e; cases e)]; exact l.same b u e
  · by_cases z : b = a
    · subst z; exact ⟨o, upd_same⟩
    · rw [upd_ne z]; exact l.lv b hb
  · rw [upd_ne (fun z => by rw [z, nF] at e; cases e)]; exact l.fr b u e
  · by_cases z : n = m
    · subst z
      rw [ha] at q
      cases q
      have hn : n < μ.length := by rw [← l.len]; exact (List.getElem?_eq_some_iff.mp ha).1
      rw [List.getElem?_set_self hn] at e
      cases e
      exact hc _ upd_same
    · rw [List.getElem?_set_ne z] at e
      have ne : b ≠ a := fun y => z (get_nodup l.nd ha (y ▸ q))
      exact (l.at_ m c' b e q).cong (fun z => z) ⟨Same.refl _, List.prefix_refl _⟩ (upd_ne ne)
end
def dSetIx (x i v : Dv) (μ : Store) : Option Store := match x, i with
  | .c n, .d (.int k) => match μ[n]? with
    | some (.lst xs) => match ixN xs.length k with
      | some j => some (μ.set n (.lst (xs.set j v)))
      | none => none
    | _ => none
  | _, _ => none
def optN : Option Store → DEnv → Out Fl
  | some μ, ρ => .ok (.nx ρ) μ
  | none, _ => .bad
def sSetIx (m mo mi : ME) : MS := fun ρ μ => (m ρ μ).bind fun v μ => (mo ρ μ).bind fun x μ => (mi ρ μ).bind fun i μ => optN (dSetIx x i v μ) ρ
section
variable {X : Cx} {G : GT} {W : WX} {a b c e o tg : Expr} {es : List Expr} {m mo mi : ME} {mas : MA} {pos p : Pos} {S : List Nat}
theorem Rvs.set {w : Wd} {vs : List V} {bs : List Dv} (r : Rvs G w vs bs) {v : V} {b : Dv} (q : Rv G w v b) : ∀ j, Rvs G w (vs.set j v) (bs.set j b) := by
  induction r with
  | nil => intro j; exact .nil
  | cons r t ih =>
    intro j
    cases j with
    | zero => exact .cons q t
    | succ j => exact .cons r (ih j)
theorem ds_setIx {i : Expr} {pos' : Pos} (hv : DE X G W e m) (ho : DE X G W o mo) (hi : DE X G W i mi) (hs : swapsWithSole [.Subscript o i pos'] e pos.line X.env = pure false := by rfl) (hw : swappedStores [.Subscript o i pos'] e X.env = pure none := by rfl)
    (h1 : (assignEach [.Subscript o i pos'] X.env).map (·.2) = [assign (.Subscript o i pos') X.env] := by rfl)
    (ha : ∀ v, assign (.Subscript o i pos') X.env v = (do
      let ov ← holding [v] (eval o X.env)
      let iv ← holding [v, ov] (eval i X.env)
      standAt pos'
      holding [v, ov, iv] (setItem ov iv v)
      release [v, ov, iv] []) := by intro _; rfl) : DS X G W (.Assign [.Subscript o i pos'] e pos) (sSetIx m mo mi) := by
  refine PS.imp (ps_asg hv (pg_sub ho hi set_list ha) hs hw h1) ?_
  rintro D σ H ⟨w, μ, ρ, hl, he, p⟩
  refine tD.seqS (k := fun ρ v μ => (mo ρ μ).bind fun x μ => (mi ρ μ).bind fun i μ => optN (dSetIx x i v μ) ρ) hl he p fun w1 μ1 H1 v v' l1 lay1 en1 r1 p1 => ?_
  refine tD.seqS (k := fun ρ x μ => (mi ρ μ).bind fun i μ => optN (dSetIx x i v' μ) ρ) lay1 en1 p1 fun w2 μ2 H2 x x' l2 lay2 en2 r2 p2 => ?_
  refine tD.seqS (k := fun ρ i μ => optN (dSetIx x' i v' μ) ρ) lay2 en2 p2 fun w3 μ3 H3 y y' l3 lay3 en3 r3 p3 => ?_
  have r1 := (r1.mono l2).mono l3
  have r2 := r2.mono l3
  cases x' with
  | d _ => exact p3.elim
  | f _ => exact p3.elim
  | c n =>
    cases y' with
    | c _ => exact p3.elim
    | f _ => exact p3.elim
    | d yy =>
      cases yy with
      | int k =>
        unfold dSetIx at p3
        simp only at p3
        cases e : μ3[n]? with
        | none => simp only [e] at p3; exact p3.elim
        | some cl =>
          cases cl with
          | lst xs =>
            simp only [e] at p3
            cases q : ixN xs.length k with
            | none => simp only [q] at p3; exact p3.elim
            | some j =>
              simp only [q] at p3
              obtain ⟨a, g1, rfl⟩ := r2
              obtain ⟨nI, vs, g2, g3⟩ := lay3.at_ n _ a e g1
              refine ⟨a, vs, k, j, rfl, rv_int r3, g2, by rw [Paired.length g3]; exact q, ?_⟩
              exact p3 w3 σ _ w3.le_refl (lay3.write g1 nI fun H' e => ⟨nI, _, e, g3.set r1 j⟩) en3
          | _ => simp only [e] at p3; exact p3.elim
      | _ => exact p3.elim

theorem ds_setLc {i : Nat} {y : Str} {py : Pos} {elt tg iter : Expr} {ifs : List Expr} {scope : Scope} (own : List (Str × Nat)) {lpos spos : Pos} {mi : MI} {g : MG} {tt : MT} {te : ME} {fin : OpN} (hf : OkFin G fin) (hc : X.calm = true) (hN : X.N.Nodup)
    (hi : DI X G W tg iter mi) (ok : BlkOk X.N X.env.scope scope own)
    (hg : ∀ (s : Shared) (H : Hp) (C : Addr) (cl : List (Str × Addr)) (fp : List Addr), DG (X.blk s H scope (compEnvC scope cl C X.env) fp) G S tg g) (ht : ∀ (s : Shared) (H : Hp) (C : Addr) (cl : List (Str × Addr)) (fp : List Addr), PTs (X.blk s H scope (compEnvC scope cl C X.env) fp) ifs (tT G W0 tt))
    (he : ∀ (s : Shared) (H : Hp) (C : Addr) (cl : List (Str × Addr)) (fp : List Addr), DE (X.blk s H scope (compEnvC scope cl C X.env) fp) G W0 elt te)
    (hy : X.N[i]? = some y := by rfl) (hyl : X.env.scope.names.lookup y = some .local := by rfl) (hsw : swapsWith (.ListComp elt [⟨tg, iter, ifs, 0⟩] scope lpos) (some (.Name y py)) spos.line X.env = pure true := by exact sw_true rfl rfl rfl (by decide +kernel))
    (hS : ∀ i ∈ S, i ∈ own.map (·.2) := by decide) (hs : ∀ x, foldedSetIterable iter X.env x = pure x := by intro _; rfl) :
    DS X G W (.Assign [.Name y py] (.ListComp elt [⟨tg, iter, ifs, 0⟩] scope lpos) spos) (sSet i (eLc fin mi g tt te (own.map (·.2)))) := by
  refine PS.imp (ps_setLc hc hN hy hyl hsw hi ok hg ht he hs) ?_
  rintro D σ H ⟨w, μ, ρ, hl, he, p⟩
  apply lc_imp hf hS
  exact tD.seqS (k := fun ρ b μ => .ok (.nx (ρ.set i (some b))) μ) hl he p fun w1 μ1 H1 v b l1 lay1 en1 r1 p1 => p1 w1 _ H1 w1.le_refl lay1 (en1.set i r1)
end

def pickL {α : Type} (d : α) (ix : List Nat) (l : List α) : List α := ix.map fun i => l.getD i d
def eCallK (n m : Nat) (ix : List Nat) (F : OpN) (a k : MA) : ME := fun ρ μ => (a ρ μ).bind fun bs μ => (k ρ μ).bind fun cs μ => if cs.length = m then fCall n F (pickL (.d .none) ix (bs ++ cs)) μ else .bad
abbrev DK (X : Cx) (G : GT) (W : WX) (ks : List Keyword) (m : MA) : Prop := PK X ks (tA G W m)
section
variable {X : Cx} {G : GT} {W : WX} {e : Expr} {es : List Expr} {kws : List Keyword} {ma : ME} {mas mks : MA} {pos p kpos : Pos} {x : Str} {nm : Option Str} {k n : Nat} {f : Addr} {fd : FuncData} {ps ks : List Str} {F : OpN} {ix : List Nat}
theorem PK.imp {t t' : TA} (h : PK X kws t) (i : ∀ σ H Q, t' σ H Q → t σ H Q) : PK X kws t' := ⟨fun po p s σ H Q I hw => h.run po p s σ H Q I (i _ _ _ hw)⟩
theorem dk_nil : DK X G W [] aNil := by
  refine PK.imp pk_nil ?_
  rintro σ H Q ⟨w, μ, ρ, hl, he, p⟩
  exact p w [] H w.le_refl hl .nil
theorem dk_cons (ha : DE X G W e ma) (hr : DK X G W kws mks) : DK X G W (⟨nm, e, kpos⟩ :: kws) (aCons ma mks) := PK.imp (pk_cons ha hr) acons_imp
theorem pick_vals {vs : List V} {us : List Value} (r : Vals vs us) : ∀ ix : List Nat, Vals (pickL .non ix vs) (pickL .none ix us)
  | [] => .nil
  | i :: ix => by
    refine .cons ?_ (pick_vals r ix)
    cases e : vs[i]? with
    | none =>
      have e2 := r.none_of e
      simp only [List.getD, e, e2]
      rfl
    | some v =>
      obtain ⟨u, e2, q⟩ := r.get e
      simp only [List.getD, e, e2]
      exact q
theorem pick_rvs {w : Wd} {vs : List V} {bs : List Dv} (r : Rvs G w vs bs) : ∀ ix : List Nat, Rvs G w (pickL .non ix vs) (pickL (.d .none) ix bs)
  | [] => .nil
  | i :: ix => by
    refine .cons ?_ (pick_rvs r ix)
    have hl := Paired.length r
    cases e : bs[i]? with
    | none =>
      have e2 : vs[i]? = none := List.getElem?_eq_none (by have := List.getElem?_eq_none_iff.mp e; omega)
      simp only [List.getD, e, e2]
      exact .non
    | some b =>
      obtain ⟨v, e2, q⟩ := r.at e
      simp only [List.getD, e, e2]
      exact q
/-- f(k = v, ..), keywords alone -/
theorem de_callK0 (hF : FnG X.prog X.w X.K X.mg X.base k f fd ps (spD G n F)) (g : X.A.guards = some []) (hr : Room k X.A) (hg : Gl X x) (hm : X.mg x = some (.ref f)) (hk : PySem.W.keepIn X.K (.ref f) = true)
    (hb : ∀ (s : Shared) (ws : List Value), ws.length = ks.length → BindsTo s fd ⟨[] ++ [], ks.zip ws⟩ (ps.zip (pickL .none ix ws))) (tk : Takes X W)
    (hkw : DK X G W kws mks) (hall : (backToKw pos (keywordEach kws X.env)).all (·.1.isSome) = true := by rfl) (hks : (backToKw pos (keywordEach kws X.env)).filterMap (·.1) = ks := by rfl)
    (hdb : (x == ("__debug__" : Str)) = false := by decide) (hpl : ((backTo pos (starEach [] X.env)).any (·.1) || (backToKw pos (keywordEach kws X.env)).any (·.1.isNone)) = false := by rfl) :
    DE X G W (.Call (.Name x p) [] kws pos) (eCallK n ks.length ix F aNil mks) := by
  constructor
  rintro pins s σ H Q I ⟨w, μ, ρ, hl, he, pp⟩
  apply wpAny_Call_Name_kw
  apply ld_glob I hg hm _ hdb
  apply PySem.W.callWith_KW0 (h₀ := X.base) I.ok.mod.kin hk hall _ hpl
  have pp : Pst G W σ (Rv G) w ((mks ρ μ).bind fun cs μ => if cs.length = ks.length then fCall n F (pickL (.d .none) ix ([] ++ cs)) μ else .bad) Q := pp
  apply thn (hkw.run pos pins s σ H (fun zs H2 => zs.length = ks.length ∧ (spD G n F) (pickL .non ix zs) H2 Q (WE W σ)) I (tD.seq (k := fun ρ cs μ => if cs.length = ks.length then fCall n F (pickL (.d .none) ix ([] ++ cs)) μ else .bad) hl he pp fun w1 μ1 H1 vs bs l1 lay1 en1 r1 p1 => ?_))
  · rintro ws s1 ⟨zs, H1, I1, r, hz, q⟩
    refine ⟨I1.kIn, ?_⟩
    rw [hks]
    apply wpAny_call
    apply codeAny_mono (runG hF g hr (fun _ _ _ _ _ I c => passAt tk σ _ _ _ _ _ I c) I1 (hb s1 ws (by rw [← r.length]; exact hz)) (pick_vals r ix) q)
    rintro (e | fl) s' q
    · exact q
    · cases fl with
      | ret u => exact q
      | next => exact q.elim
      | brk => exact q.elim
      | cont => exact q.elim
  · by_cases hb : bs.length = ks.length
    · simp only [if_pos hb, List.nil_append] at p1
      refine ⟨by rw [Paired.length r1]; exact hb, ?_⟩
      unfold fCall at p1
      by_cases q : (pickL (.d .none) ix bs).length = n
      · rw [if_pos q] at p1
        refine ⟨?_, w1, μ1, _, lay1, pick_rvs r1 ix, ?_⟩
        · rw [← q, pickL, pickL, List.length_map, List.length_map]
        · cases z : F (pickL (.d .none) ix bs) μ1 with
          | ok c μ2 => rw [z] at p1; exact p1
          | ex c μ2 => rw [z] at p1; exact p1
          | bad => rw [z] at p1; exact p1
      · rw [if_neg q] at p1
        exact p1.elim
    · simp only [if_neg hb] at p1
      exact p1.elim
end
end DL

namespace DL
open PySem PySem.Spec PyProof.Rows L2

theorem CallR.or {X : Cx} {f : Value} {r r' : List V → Hp → VK → Prop} (h : CallR X f r) (h' : CallR X f r') : CallR X f (fun xs H Q => r xs H Q ∨ r' xs H Q) := by
  intro pins s σ H xs us Q I rx q
  rcases q with q | q
  · exact h pins s σ H xs us Q I rx q
  · exact h' pins s σ H xs us Q I rx q
theorem MtR.or {X : Cx} {f : String} {r r' : V → List V → Hp → VK → Prop} (h : MtR X f r) (h' : MtR X f r') : MtR X f (fun x xs H Q => r x xs H Q ∨ r' x xs H Q) := by
  intro pins s σ H x xs v us Q I rv rx q
  rcases q with q | q
  · exact h pins s σ H x xs v us Q I rv rx q
  · exact h' pins s σ H x xs v us Q I rv rx q

def n1 (f : Dv → Store → Out Dv) : OpN := fun bs μ => match bs with
  | [b] => f b μ
  | _ => .bad
def n2 (f : Dv → Dv → Store → Out Dv) : OpN := fun bs μ => match bs with
  | [b, c] => f b c μ
  | _ => .bad
section
variable {G : GT}
theorem ok_n1 {r : List V → Hp → VK → Prop} {f : Dv → Store → Out Dv} (h : ∀ (W : WX) (σ : L2.St) (w : Wd) (μ : Store) (H : Hp) (x : V) (b : Dv) (Q : VK), Lay G w μ H → Rv G w x b → Pst G W σ (Rv G) w (f b μ) Q → r [x] H Q) : OkN G r (n1 f) := by
  intro W σ w μ H xs bs Q l r p
  match bs, r, p with
  | [b], .cons r .nil, p => exact h W σ w μ H _ b Q l r p
  | [], _, p => exact p.elim
  | _ :: _ :: _, _, p => exact p.elim
theorem ok_n2 {r : List V → Hp → VK → Prop} {f : Dv → Dv → Store → Out Dv} (h : ∀ (W : WX) (σ : L2.St) (w : Wd) (μ : Store) (H : Hp) (x y : V) (b c : Dv) (Q : VK), Lay G w μ H → Rv G w x b → Rv G w y c → Pst G W σ (Rv G) w (f b c μ) Q → r [x, y] H Q) : OkN G r (n2 f) := by
  intro W σ w μ H xs bs Q l r p
  match bs, r, p with
  | [b, c], .cons r (.cons r' .nil), p => exact h W σ w μ H _ _ b c Q l r r' p
  | [], _, p => exact p.elim
  | [_], _, p => exact p.elim
  | _ :: _ :: _ :: _, _, p => exact p.elim

def dLen : OpN := n1 fun b μ => match b with
  | .d (.str z) => if z.length ≤ sizeLine then .ok (.d (.int z.length)) μ else .bad
  | b => match itemsA b μ with
    | some xs => .ok (.d (.int xs.length)) μ
    | none => .bad
theorem ok_len : OkN G (fun xs H Q => ∃ x n, xs = [x] ∧ LenV G.K x H n ∧ Q (.int n) H) dLen := by
  apply ok_n1
  intro W σ w μ H x b Q l r p
  split at p
  · split at p
    · rename_i h
      rw [rv_str r]
      exact ⟨_, _, rfl, ⟨h, rfl⟩, p w _ H w.le_refl l (.int _)⟩
    · exact p.elim
  · split at p
    · rename_i xs h
      obtain ⟨a, vs, rfl, g1, g2⟩ := itemsA_ok l r h
      refine ⟨_, xs.length, rfl, ?_, p w _ H w.le_refl l (.int _)⟩
      rcases g1 with g1 | g1
      · exact .inl ⟨vs, g1, (Paired.length g2).symm⟩
      · exact .inr ⟨vs, g1, (Paired.length g2).symm⟩
    · exact p.elim
def dInt : OpN := n1 fun b μ => match b with
  | .d (.int i) => .ok (.d (.int i)) μ
  | .d (.bool k) => .ok (.d (.int (if k then 1 else 0))) μ
  | .d (.str z) => match PySem.intText? z with
    | some n => if z.length ≤ 640 then .ok (.d (.int n)) μ else .bad
    | none => .bad
  | _ => .bad
def rInt1 : List V → Hp → VK → Prop := fun xs H Q => (∃ i, xs = [.int i] ∧ Q (.int i) H) ∨ ∃ k, xs = [.bl k] ∧ Q (.int (if k then 1 else 0)) H
def rIntS : List V → Hp → VK → Prop := fun xs H Q => ∃ a n, xs = [.str a] ∧ PySem.intText? a = some n ∧ a.length ≤ 640 ∧ Q (.int n) H
theorem call_intA {X : Cx} : CallR X (.type "int") (fun xs H Q => rInt1 xs H Q ∨ rIntS xs H Q) := CallR.or (r := rInt1) (r' := rIntS) call_int1 call_int_str
theorem ok_int : OkN G (fun xs H Q => rInt1 xs H Q ∨ rIntS xs H Q) dInt := by
  apply ok_n1
  intro W σ w μ H x b Q l r p
  split at p
  · rw [rv_int r]; exact .inl (.inl ⟨_, rfl, p w _ H w.le_refl l (.int _)⟩)
  · rw [rv_bl r]; exact .inl (.inr ⟨_, rfl, p w _ H w.le_refl l (.int _)⟩)
  · split at p
    · rename_i h
      split at p
      · rename_i h2
        rw [rv_str r]; exact .inr ⟨_, _, rfl, h, h2, p w _ H w.le_refl l (.int _)⟩
      · exact p.elim
    · exact p.elim
  · exact p.elim
def dStr : OpN := n1 fun b μ => match b with
  | .d (.int i) => if i.natAbs.log2 < 1920 then .ok (.d (.str (toString i))) μ else .bad
  | .d (.str z) => .ok (.d (.str z)) μ
  | _ => .bad
def rStrI : List V → Hp → VK → Prop := fun xs H Q => ∃ i, xs = [.int i] ∧ i.natAbs.log2 < 1920 ∧ Q (.str (toString i)) H
def rStrS : List V → Hp → VK → Prop := fun xs H Q => ∃ a, xs = [.str a] ∧ Q (.str a) H
def dAbs : OpN := n1 fun b μ => match b with
  | .d (.int i) => .ok (.d (.int (if i < 0 then -i else i))) μ
  | _ => .bad
theorem ok_abs : OkN G (fun xs H Q => ∃ i, xs = [.int i] ∧ Q (.int (if i < 0 then -i else i)) H) dAbs := by
  apply ok_n1
  intro W σ w μ H x b Q l r p
  split at p
  · rw [rv_int r]; exact ⟨_, rfl, p w _ H w.le_refl l (.int _)⟩
  · exact p.elim
def dMax : OpN := n2 fun b c μ => match b, c with
  | .d (.int i), .d (.int j) => .ok (.d (.int (if j > i then j else i))) μ
  | _, _ => .bad
theorem ok_max : OkN G (fun xs H Q => ∃ i j, xs = [.int i, .int j] ∧ Q (.int (if j > i then j else i)) H) dMax := by
  apply ok_n2
  intro W σ w μ H x y b c Q l r r' p
  split at p
  · rw [rv_int r, rv_int r']; exact ⟨_, _, rfl, p w _ H w.le_refl l (.int _)⟩
  · exact p.elim
def dMin : OpN := n2 fun b c μ => match b, c with
  | .d (.int i), .d (.int j) => .ok (.d (.int (if j < i then j else i))) μ
  | _, _ => .bad
theorem ok_min : OkN G (fun xs H Q => ∃ i j, xs = [.int i, .int j] ∧ Q (.int (if j < i then j else i)) H) dMin := by
  apply ok_n2
  intro W σ w μ H x y b c Q l r r' p
  split at p
  · rw [rv_int r, rv_int r']; exact ⟨_, _, rfl, p w _ H w.le_refl l (.int _)⟩
  · exact p.elim
def allB : List Dv → Option (List Bool)
  | [] => some []
  | .d (.bool k) :: r => match allB r with
    | some ks => some (k :: ks)
    | none => none
  | _ => none
theorem allB_map : ∀ ks : List Bool, allB (ks.map fun k => .d (.bool k)) = some ks
  | [] => rfl
  | k :: ks => by rw [List.map_cons, allB, allB_map ks]
theorem allB_eq : ∀ {bs : List Dv} {ks : List Bool}, allB bs = some ks → bs = (ks.map PyData.bool).map Dv.d
  | [], _, h => by cases h; rfl
  | .d (.bool k) :: r, _, h => by
    unfold allB at h
    cases q : allB r with
    | none => rw [q] at h; cases h
    | some xs => rw [q] at h; cases h; rw [allB_eq q]; rfl
def dAll (f : List Bool → Bool) : OpN := n1 fun b μ => match items b μ with
  | some bs => match allB bs with
    | some ks => .ok (.d (.bool (f ks))) μ
    | none => .bad
  | none => .bad
theorem bools_ok {w : Wd} {μ : Store} {H : Hp} {x : V} {b : Dv} {bs : List Dv} {ks : List Bool} (l : Lay G w μ H) (r : Rv G w x b) (h : items b μ = some bs) (h2 : allB bs = some ks) : ∃ a, x = .ref a ∧ SqL G.K H a (ks.map V.bl) := by
  obtain ⟨a, vs, rfl, g1, g2⟩ := items_ok l r h
  rw [allB_eq h2] at g2
  rw [rv_bls (RpA_of_Rvs g2)] at g1
  exact ⟨a, rfl, g1⟩
theorem ok_all : OkN G (rAll G.K) (dAll fun ks => ks.all id) := by
  apply ok_n1
  intro W σ w μ H x b Q l r p
  split at p
  · rename_i bs h
    split at p
    · rename_i ks h2
      obtain ⟨a, rfl, g⟩ := bools_ok l r h h2
      exact ⟨a, ks, rfl, g, p w _ H w.le_refl l (.bl _)⟩
    · exact p.elim
  · exact p.elim
def allI : List Dv → Option (List Int)
  | [] => some []
  | .d (.int k) :: r => match allI r with
    | some ks => some (k :: ks)
    | none => none
  | _ => none
theorem allI_map : ∀ ks : List Int, allI (ks.map fun k => .d (.int k)) = some ks
  | [] => rfl
  | k :: ks => by rw [List.map_cons, allI, allI_map ks]
theorem allI_eq : ∀ {bs : List Dv} {ks : List Int}, allI bs = some ks → bs = (ks.map PyData.int).map Dv.d
  | [], _, h => by cases h; rfl
  | .d (.int k) :: r, _, h => by
    unfold allI at h
    cases q : allI r with
    | none => rw [q] at h; cases h
    | some xs => rw [q] at h; cases h; rw [allI_eq q]; rfl
def dSum : OpN := n1 fun b μ => match items b μ with
  | some bs => match allI bs with
    | some ks => .ok (.d (.int ks.sum)) μ
    | none => .bad
  | none => .bad
theorem ok_sum : OkN G (rSum G.K) dSum := by
  apply ok_n1
  intro W σ w μ H x b Q l r p
  split at p
  · rename_i bs h
    split at p
    · rename_i ks h2
      obtain ⟨a, vs, rfl, g1, g2⟩ := items_ok l r h
      rw [allI_eq h2] at g2
      rw [rv_ints (RpA_of_Rvs g2)] at g1
      exact ⟨a, ks, rfl, g1, p w _ H w.le_refl l (.int _)⟩
    · exact p.elim
  · exact p.elim

def rRepr (K : PySem.W.Frag) : List V → Hp → VK → Prop := fun xs H Q => ∃ x d, xs = [x] ∧ Dp K H x d ∧ d.showable = true ∧ d.hasDict = false ∧ d.depth ≤ 40 ∧ d.shown.length ≤ sizeLine ∧ Q (.str d.shown) H
def dRepr : OpN := n1 fun b μ => match view b μ with
  | some d => if (d.showable && nodict d && !d.hasDict && decide (d.depth ≤ 40) && decide (d.shown.length ≤ sizeLine)) = true then .ok (.d (.str d.shown)) μ else .bad
  | none => .bad
end
end DL

namespace DL
open PySem PySem.Spec PyProof.Rows L2

def signs (z : Str) : List Dv := z.cps.toList.map fun c => .d (.str ⟨#[c]⟩)
/-- a frozen list, a tuple, a text -/
def walkD : Dv → Store → Out (List Dv)
  | .d (.str z), μ => .ok (signs z) μ
  | .d (.list ds), μ => .ok (ds.map .d) μ
  | .d (.tuple ds), μ => .ok (ds.map .d) μ
  | _, _ => .bad
def iSeq (a : ME) : MI := fun ρ μ => (a ρ μ).bind walkD
section
variable {G : GT} {w : Wd}
theorem it_tup {a : Addr} {vs : List V} {bs : List Dv} (hs : SqT G.K w.I a vs) (r : Rvs G w vs bs) : ItR G w (Itt G.K a) bs where
  go := fun i w' μ H hi l lay => ⟨vs, vs[i]'(by rw [Paired.length r]; exact hi), seqT (Same.trans l.1 lay.same) hs, by simp⟩
  yld := fun i b w' μ H x H' e l lay y => by
    obtain ⟨rfl, y⟩ := y
    obtain ⟨v, e1, q⟩ := r.at e
    have := y vs (seqT (Same.trans l.1 lay.same) hs)
    rw [e1] at this
    cases this
    exact ⟨w', w'.le_refl, lay, q.mono l⟩
  stop := fun i w' μ H hi l lay => ⟨vs, seqT (Same.trans l.1 lay.same) hs, by rw [Paired.length r]; exact hi⟩
theorem it_str (z : Str) : ItR G w (Its z) (signs z) where
  go := fun i w' μ H hi l lay => by
    have hi : i < z.cps.toList.length := by simpa [signs] using hi
    show i < z.cps.size
    simpa using hi
  yld := fun i b w' μ H x H' e l lay y => by
    obtain ⟨rfl, c, e1, rfl⟩ := y
    unfold signs at e
    rw [List.getElem?_map, Array.getElem?_toList, e1] at e
    cases e
    exact ⟨w', w'.le_refl, lay, .str _⟩
  stop := fun i w' μ H hi l lay => by
    have hi : z.cps.toList.length ≤ i := by simpa [signs] using hi
    show z.cps.size ≤ i
    simpa using hi
theorem it_range (lo : Int) (n : Nat) : ItR G w (Itr lo n) ((List.range n).map fun (i : Nat) => Dv.d (.int (lo + (i : Int)))) where
  go := fun i w' μ H hi l lay => by
    rw [List.length_map, List.length_range] at hi
    exact hi
  yld := fun i b w' μ H x H' e l lay y => by
    obtain ⟨rfl, rfl⟩ := y
    rw [List.getElem?_map] at e
    cases q : (List.range n)[i]? with
    | none => rw [q] at e; cases e
    | some j =>
      rw [q] at e
      cases e
      obtain ⟨h1, h2⟩ := List.getElem?_eq_some_iff.mp q
      rw [List.getElem_range] at h2
      subst h2
      exact ⟨w', w'.le_refl, lay, .int _⟩
  stop := fun i w' μ H hi l lay => by
    rw [List.length_map, List.length_range] at hi
    exact hi
end
def iAny (K : PySem.W.Frag) (te : TE) : TI := fun σ H R => te σ H fun x H1 => (∃ a, x = .ref a ∧ (∃ xs, SqL K H1 a xs) ∧ R (Itl K a) H1) ∨ (∃ a, x = .ref a ∧ (∃ xs, SqT K H1 a xs) ∧ R (Itt K a) H1) ∨ ∃ z, x = .str z ∧ R (Its z) H1
section
variable {X : Cx} {G : GT} {W : WX} {tg e : Expr} {es : List Expr} {m : ME} {mas : MA} {pos p : Pos}
theorem pi_any {te : TE} (he : PE X e te) : PI X tg e (iAny X.K te) := by
  constructor
  intro pins s σ H R I h
  apply thn (he.run pins s σ H _ I h)
  rintro v s1 ⟨x, H1, I1, r1, ⟨a, rfl, ⟨xs, hq⟩, q⟩ | ⟨a, rfl, ⟨xs, hq⟩, q⟩ | ⟨z, rfl, q⟩⟩
  · cases r1
    obtain ⟨its, rv, pl, _⟩ := I1.list hq
    apply wpAny_pyIter_list pl.isList
    exact pi_one (tk := s1.toks) I1 _ (turn_list a _) ⟨_, Heap.get?_push_size _ rfl, rfl, rfl⟩ q
  · cases r1
    obtain ⟨its, rv, pt, _⟩ := I1.tuple hq
    apply wpAny_pyIter_tuple (show s1.heap.IsTuple a its.toArray from pt)
    exact pi_one (tk := s1.toks) I1 _ (turn_tuple a _) ⟨_, Heap.get?_push_size _ rfl, rfl, rfl⟩ q
  · obtain ⟨t, rfl⟩ := r1
    by_cases ha : z.cps.all (· < 128) = true
    · exact wpAny_pyIter_ascii ha (pi_one (tk := s1.toks) I1 _ (turn_str _ z t "str_ascii_iterator" (Or.inl rfl)) ⟨_, Heap.get?_push_size _ rfl, rfl, rfl⟩ q)
    · exact wpAny_pyIter_wide (by simpa using ha) (pi_one (tk := s1.toks) I1 _ (turn_str _ z t "str_iterator" (Or.inr rfl)) ⟨_, Heap.get?_push_size _ rfl, rfl, rfl⟩ q)
theorem it_listX {w : Wd} {a : Addr} {vs : List V} {bs : List Dv} (hs : SqL G.K w.I a vs) (r : Rvs G w vs bs) : ItR G w (Itl G.K a) bs where
  go := fun i w' μ H hi l lay => ⟨vs, vs[i]'(by rw [Paired.length r]; exact hi), seqL (Same.trans l.1 lay.same) hs, by simp⟩
  yld := fun i b w' μ H x H' e l lay y => by
    obtain ⟨rfl, y⟩ := y
    obtain ⟨v, e1, q⟩ := r.at e
    have := y vs (seqL (Same.trans l.1 lay.same) hs)
    rw [e1] at this
    cases this
    exact ⟨w', w'.le_refl, lay, q.mono l⟩
  stop := fun i w' μ H hi l lay => ⟨vs, seqL (Same.trans l.1 lay.same) hs, by rw [Paired.length r]; exact hi⟩
theorem di_seq (hK : X.K = G.K) (he : DE X G W e m) : DI X G W tg e (iSeq m) := by
  refine PI.imp (pi_any he) ?_
  rintro σ H Q ⟨w, μ, ρ, hl, he, p⟩
  refine tD.seq (k := fun ρ x μ => walkD x μ) hl he p fun w1 μ1 H1 v b l1 lay1 en1 r1 p1 => ?_
  unfold walkD at p1
  split at p1
  · rename_i z
    rw [rv_str r1]
    exact .inr (.inr ⟨z, rfl, p1 w1 _ H1 w1.le_refl lay1 (it_str z)⟩)
  · obtain ⟨a, vs, rfl, g1, g2⟩ := rv_lst r1
    exact .inl ⟨a, rfl, ⟨vs, by rw [hK]; exact seqL lay1.same g1⟩, p1 w1 _ H1 w1.le_refl lay1 (by rw [hK]; exact it_listX g1 (Rvs_of_RpA g2))⟩
  · obtain ⟨a, vs, rfl, g1, g2⟩ := rv_tup r1
    exact .inr (.inl ⟨a, rfl, ⟨vs, by rw [hK]; exact seqT lay1.same g1⟩, p1 w1 _ H1 w1.le_refl lay1 (by rw [hK]; exact it_tup g1 (Rvs_of_RpA g2))⟩)
  · exact p1.elim
def okR (i : Int) : Bool := decide (-(2 ^ 62) ≤ i) && decide (i < 2 ^ 62)
def rng1 : List Dv → Store → Out (List Dv)
  | [.d (.int j)], μ => if okR j = true then .ok ((List.range j.toNat).map fun (i : Nat) => Dv.d (.int i)) μ else .bad
  | _, _ => .bad
def rng2 : List Dv → Store → Out (List Dv)
  | [.d (.int i), .d (.int j)], μ => if (okR i && okR j) = true then .ok ((List.range (j - i).toNat).map fun (k : Nat) => Dv.d (.int (i + k))) μ else .bad
  | _, _ => .bad
def iRng (f : List Dv → Store → Out (List Dv)) (a : MA) : MI := fun ρ μ => (a ρ μ).bind f
theorem di_range1 {a : Expr} (hg : Gl X "range") (hm : X.mg "range" = none) (ha : DA X G W [a] mas) (hs : starEach [a] X.env = [(false, eval a X.env)] := by rfl) : DI X G W tg (.Call (.Name "range" p) [a] [] pos) (iRng rng1 mas) := by
  refine PI.imp (pi_range1 hg hm ha hs) ?_
  rintro σ H Q ⟨w, μ, ρ, hl, he, pp⟩
  refine tD.seq (k := fun ρ xs μ => rng1 xs μ) hl he pp fun w1 μ1 H1 v b l1 lay1 en1 r1 p1 => ?_
  unfold rng1 at p1
  split at p1
  · rename_i j
    split at p1
    · rename_i h
      unfold okR at h
      simp only [Bool.and_eq_true, decide_eq_true_eq] at h
      cases r1 with
      | cons r t =>
        cases t
        rw [rv_int r]
        have z := it_range (G := G) (w := w1) 0 j.toNat
        have : (List.range j.toNat).map (fun (i : Nat) => Dv.d (.int (0 + (i : Int)))) = (List.range j.toNat).map fun (i : Nat) => Dv.d (.int (i : Int)) := by simp only [Int.zero_add]
        rw [this] at z
        exact ⟨j, rfl, h.1, h.2, p1 w1 _ H1 w1.le_refl lay1 z⟩
    · exact p1.elim
  · exact p1.elim
theorem di_range2 {a b : Expr} (hg : Gl X "range") (hm : X.mg "range" = none) (ha : DA X G W [a, b] mas) (hs : starEach [a, b] X.env = [(false, eval a X.env), (false, eval b X.env)] := by rfl) (hs2 : starEach [b] X.env = [(false, eval b X.env)] := by rfl) :
    DI X G W tg (.Call (.Name "range" p) [a, b] [] pos) (iRng rng2 mas) := by
  refine PI.imp (pi_range2 hg hm ha hs hs2) ?_
  rintro σ H Q ⟨w, μ, ρ, hl, he, pp⟩
  refine tD.seq (k := fun ρ xs μ => rng2 xs μ) hl he pp fun w1 μ1 H1 v b l1 lay1 en1 r1 p1 => ?_
  unfold rng2 at p1
  split at p1
  · rename_i i j
    split at p1
    · rename_i h
      unfold okR at h
      simp only [Bool.and_eq_true, decide_eq_true_eq] at h
      cases r1 with
      | cons r t =>
        cases t with
        | cons r' t =>
          cases t
          rw [rv_int r, rv_int r']
          exact ⟨i, j, rfl, ⟨h.1.1, h.1.2, h.2.1, h.2.2⟩, p1 w1 _ H1 w1.le_refl lay1 (it_range i _)⟩
    · exact p1.elim
  · exact p1.elim
end

def dFrz : Op1 := fun x μ => match x with
  | .d y => .ok (.d y) μ
  | .c n => match μ[n]? with
    | some (.lst xs) => match allD xs with
      | some ds => .ok (.d (.list ds)) (μ.set n .dead)
      | none => .bad
    | _ => .bad
  | .f _ => .bad
section
variable {X : Cx} {G : GT} {W : WX} {e : Expr} {m : ME}
end

def m0 (f : Str → Store → Out Dv) : Dv → OpN := fun x bs μ => match x, bs with
  | .d (.str a), [] => f a μ
  | _, _ => .bad
def m1 (f : Str → Dv → Store → Out Dv) : Dv → OpN := fun x bs μ => match x, bs with
  | .d (.str a), [b] => f a b μ
  | _, _ => .bad
def m2 (f : Str → Dv → Dv → Store → Out Dv) : Dv → OpN := fun x bs μ => match x, bs with
  | .d (.str a), [b, c] => f a b c μ
  | _, _ => .bad
section
variable {G : GT}
theorem ok_m1 {r : V → List V → Hp → VK → Prop} {f : Str → Dv → Store → Out Dv} (h : ∀ (W : WX) (σ : L2.St) (w : Wd) (μ : Store) (H : Hp) (a : Str) (y : V) (b : Dv) (Q : VK), Lay G w μ H → Rv G w y b → Pst G W σ (Rv G) w (f a b μ) Q → r (.str a) [y] H Q) : OkM G r (m1 f) := by
  intro W σ w μ H x xs b bs Q l r rr p
  unfold m1 at p
  split at p
  · cases rr with
    | cons r1 t => cases t; rw [rv_str r]; exact h W σ w μ H _ _ _ Q l r1 p
  · exact p.elim
theorem ok_m2 {r : V → List V → Hp → VK → Prop} {f : Str → Dv → Dv → Store → Out Dv} (h : ∀ (W : WX) (σ : L2.St) (w : Wd) (μ : Store) (H : Hp) (a : Str) (y z : V) (b c : Dv) (Q : VK), Lay G w μ H → Rv G w y b → Rv G w z c → Pst G W σ (Rv G) w (f a b c μ) Q → r (.str a) [y, z] H Q) : OkM G r (m2 f) := by
  intro W σ w μ H x xs b bs Q l r rr p
  unfold m2 at p
  split at p
  · cases rr with
    | cons r1 t =>
      cases t with
      | cons r2 t => cases t; rw [rv_str r]; exact h W σ w μ H _ _ _ _ _ Q l r1 r2 p
  · exact p.elim
def dPartition : Dv → OpN := m1 fun a b μ => match b with
  | .d (.str b) => if (b.length == 0) = false ∧ a.length ≤ sizeLine then .ok (.d (.tuple [.str (Txt.partition a b).1, .str (Txt.partition a b).2.1, .str (Txt.partition a b).2.2])) μ else .bad
  | _ => .bad
def dSplit : Dv → OpN := m1 fun a b μ => match b with
  | .d (.str b) => if (b.length == 0) = false ∧ a.length + 2 ≤ sizeLine then .ok (.d (.list ((Txt.split a b).map .str))) μ else .bad
  | _ => .bad
theorem ok_split : OkM G (fun x xs H Q => ∃ a b, x = .str a ∧ xs = [.str b] ∧ (b.length == 0) = false ∧ a.length + 2 ≤ sizeLine ∧ rNewStrs (Txt.split a b) H Q) dSplit := by
  apply ok_m1
  intro W σ w μ H a y b Q l r p
  split at p
  · split at p
    · rename_i h
      rw [rv_str r]
      refine ⟨a, _, rfl, rfl, h.1, h.2, fun q nq => ?_⟩
      obtain ⟨le, l2⟩ := l.new nq (.lst ((Txt.split a _).map V.str))
      exact p _ _ _ le l2 (.lst (SqL.of upd_same) (RpA_strs _))
    · exact p.elim
  · exact p.elim
def allS : List Dv → Option (List Str)
  | [] => some []
  | .d (.str k) :: r => match allS r with
    | some ks => some (k :: ks)
    | none => none
  | _ => none
theorem allS_map : ∀ ks : List Str, allS (ks.map fun k => .d (.str k)) = some ks
  | [] => rfl
  | k :: ks => by rw [List.map_cons, allS, allS_map ks]
theorem allS_eq : ∀ {bs : List Dv} {ks : List Str}, allS bs = some ks → bs = (ks.map PyData.str).map Dv.d
  | [], _, h => by cases h; rfl
  | .d (.str k) :: r, _, h => by
    unfold allS at h
    cases q : allS r with
    | none => rw [q] at h; cases h
    | some xs => rw [q] at h; cases h; rw [allS_eq q]; rfl
def dJoin : Dv → OpN := m1 fun a b μ => match itemsA b μ with
  | some bs => match allS bs with
    | some ys => if (ys.map (·.length)).sum + ys.length * a.length ≤ 16777216 then .ok (.d (.str (Txt.join a ys))) μ else .bad
    | none => .bad
  | none => .bad
theorem ok_join : OkM G (fun x xs H Q => ∃ a p, ∃ ys : List Str, x = .str a ∧ xs = [.ref p] ∧ (SqL G.K H p (ys.map V.str) ∨ SqT G.K H p (ys.map V.str)) ∧ (ys.map (·.length)).sum + ys.length * a.length ≤ 16777216 ∧ Q (.str (Txt.join a ys)) H) dJoin := by
  apply ok_m1
  intro W σ w μ H a y b Q l r p
  split at p
  · rename_i bs h
    split at p
    · rename_i ys h2
      split at p
      · rename_i h3
        obtain ⟨q, vs, rfl, g1, g2⟩ := itemsA_ok l r h
        rw [allS_eq h2] at g2
        rw [rv_strs (RpA_of_Rvs g2)] at g1
        exact ⟨a, q, ys, rfl, rfl, g1, h3, p w _ H w.le_refl l (.str _)⟩
      · exact p.elim
    · exact p.elim
  · exact p.elim
def dIndexS : Dv → OpN := m1 fun a b μ => match b with
  | .d (.str b) => match Builtin.Str.occurrences a b 0 a.length 1 with
    | i :: _ => .ok (.d (.int (i : Nat))) μ
    | [] => .bad
  | _ => .bad
theorem ok_indexS : OkM G (fun x xs H Q => ∃ a b i rest, x = .str a ∧ xs = [.str b] ∧ Builtin.Str.occurrences a b 0 a.length 1 = i :: rest ∧ Q (.int (i : Nat)) H) dIndexS := by
  apply ok_m1
  intro W σ w μ H a y b Q l r p
  split at p
  · split at p
    · rename_i i rest h
      rw [rv_str r]
      exact ⟨a, _, i, rest, rfl, rfl, h, p w _ H w.le_refl l (.int _)⟩
    · exact p.elim
  · exact p.elim
end
def rPadF (f : Str → Int → Nat → Str) : V → List V → Hp → VK → Prop := fun x xs H Q => ∃ (a : Str) (i : Int) (z : Str), x = .str a ∧ xs = [.int i, .str z] ∧ PadOk i = true ∧ z.length = 1 ∧ Q (.str (f a i (z.cps.getD 0 0))) H
theorem mt_ljustF {X : Cx} : MtR X "str.ljust" (rPadF Txt.ljustF) := by
  intro pins s σ H x xs v us Q I rx rs h
  obtain ⟨a, i, z, rfl, rfl, h1, h2, q⟩ := h
  obtain ⟨t, rfl⟩ := rx
  obtain ⟨u1, u2, rfl, ⟨t1, rfl⟩, ⟨t2, rfl⟩⟩ := vals2 rs
  exact ljust_fill h1 h2 fun t' k => ⟨.str _, H, I.tok k, ⟨t', rfl⟩, q⟩
def dPadF (f : Str → Int → Nat → Str) : Dv → OpN := m2 fun a b c μ => match b, c with
  | .d (.int i), .d (.str z) => if PadOk i = true ∧ z.length = 1 then .ok (.d (.str (f a i (z.cps.getD 0 0)))) μ else .bad
  | _, _ => .bad
theorem ok_padF {G : GT} {f : Str → Int → Nat → Str} : OkM G (rPadF f) (dPadF f) := by
  apply ok_m2
  intro W σ w μ H a y z b c Q l r r' p
  split at p
  · split at p
    · rename_i h
      rw [rv_int r, rv_str r']
      exact ⟨a, _, _, rfl, rfl, h.1, h.2, p w _ H w.le_refl l (.str _)⟩
    · exact p.elim
  · exact p.elim

def dMulA : Op2 := fun x y μ => match x, y with
  | .d (.str z), .d (.int i) => if (decide (-(2 ^ 31) ≤ i) && decide (i < 2 ^ 31) && decide (z.length * i.toNat ≤ sizeLine) && decide (i < 1 ∨ (z.length : Int) ≤ (2 ^ 63 - 1) / i)) = true then .ok (.d (.str (Txt.mul z i))) μ else .bad
  | x, y => dMul x y μ
theorem ok_mulA {G : GT} : Ok2 G (fun x y H Q => rI CMulX (fun i j => .int (i * j)) x y H Q ∨ rMulS x y H Q) dMulA := by
  intro W σ w μ H x y b c Q l rx ry p
  unfold dMulA at p
  split at p
  · split at p
    · rename_i z i h
      simp only [Bool.and_eq_true, decide_eq_true_eq] at h
      refine .inr ⟨z, i, rv_str rx, rv_int ry, ⟨?_, fun h1 _ => ?_, fun h1 _ => ?_⟩, p w _ H w.le_refl l (.str _)⟩
      · simp only [Bool.or_eq_false_iff, decide_eq_false_iff_not]
        omega
      · have := h.2
        omega
      · have h2 := h.1.2
        unfold Builtin.Str.tooLong
        exact decide_eq_false (by omega)
    · exact p.elim
  · exact .inl (ok_mul W σ w μ H x y _ _ Q l rx ry p)
theorem op_mulA {X : Cx} : OpR X (binaryOp .Mult) (fun x y H Q => rI CMulX (fun i j => .int (i * j)) x y H Q ∨ rMulS x y H Q) := op_mulX.or op_mulS
end DL

namespace DL
open PySem PySem.Spec PyProof.Rows L2
/-- a text of these signs -/
def T (l : List Nat) : Str := ⟨l.toArray⟩
/-- the def called x: its promise over data, how it is found, how its arguments bind -/
structure Cal (P : Program) (w : World) (G : GT) (mg : Str → Option Value) (base : Heap) (x : Str) (k : Nat) (ps : List Str) (kb : List (List Str × List Nat)) (F : OpN) : Prop where
  ex : ∃ (f : Addr) (fd : FuncData), FnG P w G.K mg base k f fd ps (spD G ps.length F) ∧ mg x = some (.ref f) ∧ PySem.W.keepIn G.K (.ref f) = true ∧ Binds G.K fd ps [] ∧
    ∀ q ∈ kb, ∀ (s : Shared) (ws : List Value), ws.length = q.1.length → BindsTo s fd ⟨[] ++ [], q.1.zip ws⟩ (ps.zip (pickL .none q.2 ws))
section
variable {X : Cx} {G : GT} {W : WX} {e : Expr} {es : List Expr} {kws : List Keyword} {mas mks : MA} {pos p : Pos} {x : Str} {k : Nat} {ps ks : List Str} {kb : List (List Str × List Nat)} {F : OpN} {ix : List Nat} {n m : Nat}
theorem de_calC (hK : X.K = G.K) (C : Cal X.prog X.w G X.mg X.base x k ps kb F) (g : X.A.guards = some []) (hr : Room k X.A) (tk : Takes X W) (hg : Gl X x) (ha : DA X G W (e :: es) mas) (hdb : (x == ("__debug__" : Str)) = false := by decide)
    (he : starEach (e :: es) X.env = (false, eval e X.env) :: starEach es X.env := by rfl) (hpl : (backTo pos (starEach es X.env)).any (·.1) = false := by rfl) (hn : ps.length = n := by rfl) : DE X G W (.Call (.Name x p) (e :: es) [] pos) (eN (fCall n F) mas) := by
  subst hn
  obtain ⟨f, fd, h1, h2, h3, h4, _⟩ := C.ex
  rw [← hK] at h1 h3 h4
  exact de_callG h1 g hr hg h2 h3 h4 tk ha hdb he hpl
theorem de_calK (ks : List Str) (ix : List Nat) (hK : X.K = G.K) (C : Cal X.prog X.w G X.mg X.base x k ps kb F) (g : X.A.guards = some []) (hr : Room k X.A) (tk : Takes X W) (hg : Gl X x) (hkw : DK X G W kws mks) (hm : (ks, ix) ∈ kb)
    (hall : (backToKw pos (keywordEach kws X.env)).all (·.1.isSome) = true := by rfl) (hks : (backToKw pos (keywordEach kws X.env)).filterMap (·.1) = ks := by rfl)
    (hdb : (x == ("__debug__" : Str)) = false := by decide) (hpl : ((backTo pos (starEach [] X.env)).any (·.1) || (backToKw pos (keywordEach kws X.env)).any (·.1.isNone)) = false := by rfl) (hn : ps.length = n := by rfl) (hl : ks.length = m := by rfl) : DE X G W (.Call (.Name x p) [] kws pos) (eCallK n m ix F aNil mks) := by
  subst hn hl
  obtain ⟨f, fd, h1, h2, h3, h4, h5⟩ := C.ex
  rw [← hK] at h1 h3
  exact de_callK0 h1 g hr hg h2 h3 (fun s ws hl => h5 (ks, ix) hm s ws hl) tk hkw hall hks hdb hpl
end
end DL

namespace DL
open PySem PySem.Spec PyProof.Rows L2

theorem T_tl (x : Str) : T x.cps.toList = x := rfl
theorem tl_T (l : List Nat) : (T l).cps.toList = l := rfl
theorem T_len (l : List Nat) : (T l).length = l.length := by simp [T, Str.length]
theorem T_inj {l m : List Nat} : T l = T m ↔ l = m := ⟨fun h => by have := congrArg (fun x : Str => x.cps.toList) h; exact this, fun h => by rw [h]⟩
theorem T_app (l m : List Nat) : T l ++ T m = T (l ++ m) := TL.ext_tl (by rw [TL.tl_append]; rfl)
theorem eqv_T (l m : List Nat) : PyData.eqv (.str (T l)) (.str (T m)) = decide (l = m) := by
  show (T l == T m) = _
  rw [Bool.eq_iff_iff]
  simp [T_inj]
theorem cutS_T (l : List Nat) (lo hi : Option Int) : cutS (T l) lo hi = T (cutL l lo hi) := by
  unfold cutS cutL
  rw [tl_T, T_len]
  rfl
theorem line_big : 16000000 ≤ sizeLine := by rw [sizeLine_eq]; decide
theorem join_T (l : List Nat) (ps : List (List Nat)) : Txt.join (T l) (ps.map T) = T (TL.joinL l ps) := by
  apply TL.ext_tl
  rw [TL.join_eq, TL.tl_join, List.map_map]
  show TL.joinL l (ps.map fun p => (T p).cps.toList) = _
  simp [tl_T]
theorem part_T (l : List Nat) (s : Nat) : Txt.partition (T l) (T [s]) = match TL.par [s] [] l with
    | some (a, b) => (T a, T [s], T b)
    | none => (T l, T [], T []) := by
  rw [TL.partition_par _ _ (by simp [TL.tl, tl_T])]
  show (match TL.par [s] [] l with | some (a, b) => _ | none => _) = _
  cases TL.par [s] [] l <;> rfl
theorem split_T (l : List Nat) (s : Nat) (h : s < 256) : Txt.split (T l) (T [s]) = (TL.spl [s] 0 [] l).map T := by
  apply TL.map_tl_inj
  rw [TL.split_spl _ _ (by simp [TL.tl, tl_T]) (TL.kind_ok (by simp [T, h])), List.map_map]
  show TL.spl [s] 0 [] l = _
  simp [TL.tl, tl_T, Function.comp_def]
/-- a text cut at its first s -/
theorem par_one (s : Nat) (acc l : List Nat) : TL.par [s] acc l = if s ∈ l then some (acc ++ l.takeWhile (· != s), (l.dropWhile (· != s)).drop 1) else none := by
  induction l generalizing acc with
  | nil => rfl
  | cons c r ih =>
    by_cases h : c = s
    · subst h
      rw [TL.par_hit (by simp [TL.pre])]
      simp
    · rw [TL.par_miss (TL.pre_of_head _ _ h), ih]
      have h' : (c != s) = true := by simp [h]
      have hs : (s ∈ c :: r) = (s ∈ r) := by simp [Ne.symm h]
      simp only [hs, List.takeWhile_cons, List.dropWhile_cons, h', if_true]
      split <;> simp
def splitL (s : Nat) : List Nat → List Nat → List (List Nat)
  | acc, [] => [acc]
  | acc, c :: r => if c = s then acc :: splitL s [] r else splitL s (acc ++ [c]) r
theorem spl_one (s : Nat) (acc l : List Nat) : TL.spl [s] 0 acc l = splitL s acc l := by
  induction l generalizing acc with
  | nil => rfl
  | cons c r ih =>
    by_cases h : c = s
    · subst h
      rw [TL.spl_hit (by simp [TL.pre]), splitL, if_pos rfl, ← ih]
      rfl
    · rw [TL.spl_miss (TL.pre_of_head _ _ h), splitL, if_neg h, ih]

def finB : Out Fl → Out Dv
  | .ok (.nx _) μ' => .ok (.d .none) μ'
  | .ok (.rt b) μ' => .ok b μ'
  | .ok _ _ => .bad
  | .ex e μ' => .ex e μ'
  | .bad => .bad
theorem runB_eq (n : Nat) (B : MS) (bs : List Dv) (μ : Store) : runB n B bs μ = finB (B (bs.map some ++ List.replicate (n - bs.length) none) μ) := by
  unfold runB
  cases h : B (bs.map some ++ List.replicate (n - bs.length) none) μ with
  | ok f μ' => cases f <;> rfl
  | ex e μ' => rfl
  | bad => rfl
section
variable {ρ : DEnv} {μ : Store} {b : Dv} {a c : ME} {t u : MS} {i : Nat}
@[simp] theorem finB_nx : finB (.ok (.nx ρ) μ) = .ok (.d .none) μ := id rfl
@[simp] theorem finB_rt : finB (.ok (.rt b) μ) = .ok b μ := id rfl
@[simp] theorem finB_ex {e : Ex} : finB (.ex e μ) = .ex e μ := id rfl
@[simp] theorem finB_bad : finB .bad = .bad := id rfl
@[simp] theorem seqF_nx : seqF u (.nx ρ) μ = u ρ μ := id rfl
@[simp] theorem seqF_rt : seqF u (.rt b) μ = .ok (.rt b) μ := id rfl
@[simp] theorem seqF_bk : seqF u (.bk ρ) μ = .ok (.bk ρ) μ := id rfl
@[simp] theorem seqF_ct : seqF u (.ct ρ) μ = .ok (.ct ρ) μ := id rfl
@[simp] theorem sSeq_r : sSeq t u ρ μ = (t ρ μ).bind (seqF u) := id rfl
@[simp] theorem sNext_r : sNext ρ μ = .ok (.nx ρ) μ := id rfl
@[simp] theorem sBreak_r : sBreak ρ μ = .ok (.bk ρ) μ := id rfl
@[simp] theorem sCont_r : sCont ρ μ = .ok (.ct ρ) μ := id rfl
@[simp] theorem sRetN_r : sRetN ρ μ = .ok (.rt (.d .none)) μ := id rfl
@[simp] theorem sRet_r : sRet a ρ μ = (a ρ μ).bind fun b μ => .ok (.rt b) μ := id rfl
@[simp] theorem sDrop_r : sDrop a ρ μ = (a ρ μ).bind fun _ μ => .ok (.nx ρ) μ := id rfl
@[simp] theorem sSet_r : sSet i a ρ μ = (a ρ μ).bind fun b μ => .ok (.nx (ρ.set i (some b))) μ := id rfl
@[simp] theorem sIf_r {k : MT} : sIf k t u ρ μ = (k ρ μ).bind fun x μ => if x = true then t ρ μ else u ρ μ := id rfl
@[simp] theorem sPar_r {j : Nat} {m : MA} : sPar i j m ρ μ = (m ρ μ).bind (parF i j ρ) := id rfl
@[simp] theorem parF_r {j : Nat} {d : Dv} : parF i j ρ [b, d] μ = .ok (.nx ((ρ.set i (some b)).set j (some d))) μ := id rfl
@[simp] theorem sAsg_r {g : MG} : sAsg a g ρ μ = (a ρ μ).bind fun b μ => (g b ρ μ).gb fun ρ μ => .ok (.nx ρ) μ := id rfl
@[simp] theorem sSetIx_r {o j : ME} : sSetIx a o j ρ μ = (a ρ μ).bind fun v μ => (o ρ μ).bind fun x μ => (j ρ μ).bind fun i μ => optN (dSetIx x i v μ) ρ := id rfl
@[simp] theorem optN_r : optN (some μ) ρ = .ok (.nx ρ) μ := id rfl
@[simp] theorem sFor_r {mi : MI} {g : MG} {mb : MS} : sFor mi g mb ρ μ = (mi ρ μ).bind fun bs μ => forL g mb bs ρ μ := id rfl
@[simp] theorem gN_r : gN i b ρ μ = .ok (ρ.set i (some b)) μ := id rfl
@[simp] theorem gT_r {n : Nat} {g : MGs} {ds : List D} : gT n g (.d (.tuple ds)) ρ μ = if ds.length = n then g (ds.map .d) ρ μ else .bad := id rfl
@[simp] theorem gsNil_r : gsNil [] ρ μ = .ok ρ μ := id rfl
@[simp] theorem gsCons_r {g : MG} {r : MGs} {bs : List Dv} : gsCons g r (b :: bs) ρ μ = (g b ρ μ).bind fun ρ μ => r bs ρ μ := id rfl
@[simp] theorem gStar_r {n : Nat} {g : MGs} {ds : List D} : gStar n g (.d (.tuple ds)) ρ μ = if n ≤ ds.length ∧ ds.length ≤ 16384 then g ((ds.take n).map .d ++ [.d (.list (ds.drop n))]) ρ μ else .bad := id rfl
@[simp] theorem eVar_r : eVar i ρ μ = match ρ[i]? with
  | some (some b) => .ok b μ
  | _ => .bad := id rfl
@[simp] theorem eC_r : eC b ρ μ = .ok b μ := id rfl
@[simp] theorem e1_r {f : Op1} : e1 f a ρ μ = (a ρ μ).bind fun x μ => f x μ := id rfl
@[simp] theorem e2_r {f : Op2} : e2 f a c ρ μ = (a ρ μ).bind fun x μ => (c ρ μ).bind fun y μ => f x y μ := id rfl
@[simp] theorem tV_r : tV a ρ μ = (a ρ μ).bind asBool := id rfl
@[simp] theorem asBool_r {k : Bool} : asBool (.d (.bool k)) μ = .ok k μ := id rfl
@[simp] theorem bind_asBool {k : Bool} : (Out.ok (Dv.d (.bool k)) μ).bind asBool = .ok k μ := id rfl
@[simp] theorem tAndM_r {x y : MT} : tAndM x y ρ μ = (x ρ μ).bind fun k μ => if k = true then y ρ μ else .ok false μ := id rfl
@[simp] theorem tOrM_r {x y : MT} : tOrM x y ρ μ = (x ρ μ).bind fun k μ => if k = true then .ok true μ else y ρ μ := id rfl
@[simp] theorem tNotM_r {x : MT} : tNotM x ρ μ = (x ρ μ).bind fun k μ => .ok (!k) μ := id rfl
@[simp] theorem eAnd_r : eAnd a c ρ μ = (a ρ μ).bind fun x μ => (asBool x μ).bind fun k μ => if k = true then c ρ μ else .ok (.d (.bool false)) μ := id rfl
@[simp] theorem eOr_r : eOr a c ρ μ = (a ρ μ).bind fun x μ => (asBool x μ).bind fun k μ => if k = true then .ok (.d (.bool true)) μ else c ρ μ := id rfl
@[simp] theorem eNot_r : eNot a ρ μ = (a ρ μ).bind fun x μ => (asBool x μ).bind fun k μ => .ok (.d (.bool (!k))) μ := id rfl
@[simp] theorem eIf_r {k : MT} : eIf k a c ρ μ = (k ρ μ).bind fun x μ => if x = true then a ρ μ else c ρ μ := id rfl
@[simp] theorem eChain_r {f g : Op2} {d : ME} : eChain f g a c d ρ μ = (a ρ μ).bind fun x μ => (c ρ μ).bind fun y μ => (f x y μ).bind fun z μ => (asBool z μ).bind fun k μ => if k = true then (d ρ μ).bind fun u μ => g y u μ else .ok (.d (.bool false)) μ := id rfl
@[simp] theorem aNil_r : aNil ρ μ = .ok [] μ := id rfl
@[simp] theorem aCons_r {r : MA} : aCons a r ρ μ = (a ρ μ).bind fun x μ => (r ρ μ).bind fun xs μ => .ok (x :: xs) μ := id rfl
@[simp] theorem eN_r {f : OpN} {m : MA} : eN f m ρ μ = (m ρ μ).bind fun xs μ => f xs μ := id rfl
@[simp] theorem fCall_r {n : Nat} {F : OpN} {bs : List Dv} : fCall n F bs μ = if bs.length = n then F bs μ else .bad := id rfl
@[simp] theorem eCallK_r {n m : Nat} {ix : List Nat} {F : OpN} {x y : MA} : eCallK n m ix F x y ρ μ = (x ρ μ).bind fun bs μ => (y ρ μ).bind fun cs μ => if cs.length = m then fCall n F (pickL (.d .none) ix (bs ++ cs)) μ else .bad := id rfl
@[simp] theorem eM_r {k : Dv → Store → Bool} {f : Dv → OpN} {m : MA} : eM k f a m ρ μ = (a ρ μ).bind fun x μ => if k x μ = true then (m ρ μ).bind fun xs μ => f x xs μ else .bad := id rfl
@[simp] theorem isStr_r {z : Str} : isStr (.d (.str z)) μ = true := id rfl
@[simp] theorem eSl_r {l h : MO} : eSl a l h ρ μ = (a ρ μ).bind fun x μ => (l ρ μ).bind fun i μ => (h ρ μ).bind fun j μ => dSl x i j μ := id rfl
@[simp] theorem oNone_r : oNone ρ μ = .ok none μ := id rfl
@[simp] theorem oSome_r : oSome a ρ μ = (a ρ μ).bind asInt := id rfl
@[simp] theorem asInt_r {k : Int} : asInt (.d (.int k)) μ = .ok (some k) μ := id rfl
@[simp] theorem bind_asInt {k : Int} : (Out.ok (Dv.d (.int k)) μ).bind asInt = .ok (some k) μ := id rfl
@[simp] theorem eIsN_r {n : Bool} : eIsN n a ρ μ = (a ρ μ).bind fun x μ => dIsN n x (.d .none) μ := id rfl
@[simp] theorem dIsN_r {n : Bool} {x : D} {y : Dv} : dIsN n (.d x) y μ = .ok (.d (.bool (if n then !isNone x else isNone x))) μ := id rfl
@[simp] theorem eLc_r {f : OpN} {mi : MI} {g : MG} {tt : MT} {vs : List Nat} : eLc f mi g tt a vs ρ μ = (mi ρ μ).bind fun bs μ => lcF f g tt a vs ρ bs μ := id rfl
@[simp] theorem iSeq_r : iSeq a ρ μ = (a ρ μ).bind walkD := id rfl
@[simp] theorem bind_walkD {x : Dv} : (Out.ok x μ).bind walkD = walkD x μ := id rfl
@[simp] theorem iRng_r {f : List Dv → Store → Out (List Dv)} {m : MA} : iRng f m ρ μ = (m ρ μ).bind f := id rfl
-- operations
@[simp] theorem dAdd_ii {x y : Int} : dAdd (.d (.int x)) (.d (.int y)) μ = .ok (.d (.int (x + y))) μ := id rfl
@[simp] theorem dSub_ii {x y : Int} : dInt2 (fun i j => .int (i - j)) (.d (.int x)) (.d (.int y)) μ = .ok (.d (.int (x - y))) μ := id rfl
@[simp] theorem dNum_ii {C : Int → Int → Bool} {g : Int → Int → Int} {x y : Int} (h : C x y = true) : dNum C g (.d (.int x)) (.d (.int y)) μ = .ok (.d (.int (g x y))) μ := by
  show (if C x y = true then _ else _) = _
  rw [if_pos h]
@[simp] theorem dMulA_ii {x y : Int} (h : cMul x y = true) : dMulA (.d (.int x)) (.d (.int y)) μ = .ok (.d (.int (x * y))) μ := by
  show (if cMul x y = true then _ else _) = _
  rw [if_pos h]
@[simp] theorem dNeg_i {x : Int} : dNeg (.d (.int x)) μ = .ok (.d (.int (-x))) μ := id rfl
@[simp] theorem dCmp_ii {g : Int → Int → Bool} {h : List Nat → List Nat → Bool} {x y : Int} : dCmp g h (.d (.int x)) (.d (.int y)) μ = .ok (.d (.bool (g x y))) μ := id rfl
@[simp] theorem dAdd_ss {l m : List Nat} (h : l.length + m.length ≤ 16000000) : dAdd (.d (.str (T l))) (.d (.str (T m))) μ = .ok (.d (.str (T (l ++ m)))) μ := by
  show (if (T l).length + (T m).length ≤ sizeLine then _ else _) = _
  rw [T_len, T_len, T_app, if_pos (Nat.le_trans h line_big)]
theorem dEq_dd {n : Bool} {x y : D} (h : (scalD x y || (SeqAt.shaped x && SeqAt.shaped y)) = true) : dEq n (.d x) (.d y) μ = .ok (.d (.bool (if n then !PyData.eqv x y else PyData.eqv x y))) μ := by
  unfold dEq
  show (match eqD x y with | some k => _ | none => _) = _
  have : eqD x y = some (PyData.eqv x y) := by
    unfold eqD
    by_cases h1 : scalD x y = true
    · rw [if_pos h1]
    · rw [if_neg h1]
      simp only [h1, Bool.false_or] at h
      rw [if_pos h]
  rw [this]
@[simp] theorem dEq_ii {n : Bool} {x y : Int} : dEq n (.d (.int x)) (.d (.int y)) μ = .ok (.d (.bool (if n then !decide (x = y) else decide (x = y)))) μ := by
  rw [dEq_dd rfl]
  have : PyData.eqv (.int x) (.int y) = decide (x = y) := by
    show (x == y) = _
    rw [Bool.eq_iff_iff]; simp
  rw [this]
@[simp] theorem dEq_ss {n : Bool} {x y : List Nat} : dEq n (.d (.str (T x))) (.d (.str (T y))) μ = .ok (.d (.bool (if n then !decide (x = y) else decide (x = y)))) μ := by
  rw [dEq_dd rfl, eqv_T]
@[simp] theorem dIn_ss {n : Bool} {x : Nat} {y : List Nat} : dIn n (.d (.str (T [x]))) (.d (.str (T y))) μ = .ok (.d (.bool (if n then !decide (x ∈ y) else decide (x ∈ y)))) μ := id rfl
@[simp] theorem items_l {ds : List D} : items (.d (.list ds)) μ = some (ds.map .d) := id rfl
@[simp] theorem itemsA_l {ds : List D} : itemsA (.d (.list ds)) μ = some (ds.map .d) := id rfl
@[simp] theorem itemsA_t {ds : List D} : itemsA (.d (.tuple ds)) μ = some (ds.map .d) := id rfl
theorem dIx_l {ds : List D} {k : Int} {x : D} (h : L2.atI ds k = some x) : dIx (.d (.list ds)) (.d (.int k)) μ = .ok (.d x) μ := by
  have : L2.atI (ds.map Dv.d) k = some (.d x) := by
    unfold L2.atI at h ⊢
    rw [List.length_map]
    cases q : ixN ds.length k with
    | none => rw [q] at h; cases h
    | some j =>
      rw [q] at h
      show (ds.map Dv.d)[j]? = _
      have h : ds[j]? = some x := h
      rw [List.getElem?_map, h]
      rfl
  show (match L2.atI (ds.map Dv.d) k with | some b => Out.ok b μ | none => Out.bad) = _
  rw [this]
theorem dIx_t {ds : List D} {k : Int} {x : D} (h : L2.atI ds k = some x) : dIx (.d (.tuple ds)) (.d (.int k)) μ = .ok (.d x) μ := dIx_l h
theorem dIx_s {l : List Nat} {k : Int} {c : Nat} (hl : l.length ≤ 16000000) (h : L2.atI l k = some c) : dIx (.d (.str (T l))) (.d (.int k)) μ = .ok (.d (.str (T [c]))) μ := by
  show (if (T l).length ≤ sizeLine then (match L2.atI (T l).cps.toList k with | some c => _ | none => _) else _) = _
  rw [T_len, if_pos (Nat.le_trans hl line_big), tl_T, h]
  rfl
theorem dIx_c {n : Nat} {xs : List Dv} {k : Int} {x : Dv} (e : μ[n]? = some (.lst xs)) (h : L2.atI xs k = some x) : dIx (.c n) (.d (.int k)) μ = .ok x μ := by
  have : itemsA (.c n) μ = some xs := by
    unfold itemsA itemsT items
    simp only [e]
  show (match itemsA (.c n) μ with | some bs => (match L2.atI bs k with | some b => Out.ok b μ | none => Out.bad) | none => Out.bad) = _
  rw [this]
  show (match L2.atI xs k with | some b => Out.ok b μ | none => Out.bad) = _
  rw [h]
theorem atI_nn {α : Type} {xs : List α} {k : Nat} {x : α} (h : xs[k]? = some x) : L2.atI xs (k : Int) = some x := by
  have hl := (List.getElem?_eq_some_iff.mp h).1
  unfold L2.atI L2.ixN
  rw [if_pos (by omega), if_pos (by omega)]
  simpa using h
theorem dSetIx_c {n : Nat} {xs : List Dv} {k : Int} {j : Nat} {x : Dv} (e : μ[n]? = some (.lst xs)) (h : L2.ixN xs.length k = some j) : dSetIx (.c n) (.d (.int k)) x μ = some (μ.set n (.lst (xs.set j x))) := by
  unfold dSetIx
  simp only [e, h]
@[simp] theorem dLen_s {l : List Nat} (h : l.length ≤ 16000000) : dLen [.d (.str (T l))] μ = .ok (.d (.int l.length)) μ := by
  show (if (T l).length ≤ sizeLine then _ else _) = _
  rw [T_len, if_pos (Nat.le_trans h line_big)]
@[simp] theorem dLen_l {ds : List D} : dLen [.d (.list ds)] μ = .ok (.d (.int ds.length)) μ := by
  show Out.ok (Dv.d (.int ((ds.map Dv.d).length : Nat))) μ = _
  rw [List.length_map]
@[simp] theorem dLen_t {ds : List D} : dLen [.d (.tuple ds)] μ = .ok (.d (.int ds.length)) μ := by
  show Out.ok (Dv.d (.int ((ds.map Dv.d).length : Nat))) μ = _
  rw [List.length_map]
@[simp] theorem allD_cons {x : D} {r : List Dv} : allD (.d x :: r) = (allD r).map (x :: ·) := by
  show (match allD r with | some xs => _ | none => _) = _
  cases allD r <;> rfl
@[simp] theorem allD_nil : allD [] = some [] := id rfl
theorem dList_d {ds : List D} (h : ds.length ≤ sizeLine) : dList (ds.map .d) μ = .ok (.d (.list ds)) μ := by
  unfold dList
  rw [allD_map]
  show (if ds.length ≤ sizeLine then _ else _) = _
  rw [if_pos h]
@[simp] theorem dTup_l {ds : List D} (h : ds.length ≤ 16000000) : dTup (ds.map .d) μ = .ok (.d (.tuple ds)) μ := by
  unfold dTup
  rw [allD_map]
  show (if ds.length ≤ sizeLine then _ else _) = _
  rw [if_pos (Nat.le_trans h line_big)]
@[simp] theorem dList_1 {a : D} : dList [.d a] μ = .ok (.d (.list [a])) μ := dList_d (ds := [a]) (Nat.le_trans (by show 1 ≤ 16000000; decide) line_big)
@[simp] theorem dList_2 {a b : D} : dList [.d a, .d b] μ = .ok (.d (.list [a, b])) μ := dList_d (ds := [a, b]) (Nat.le_trans (by show 2 ≤ 16000000; decide) line_big)
@[simp] theorem dTup_1 {a : D} : dTup [.d a] μ = .ok (.d (.tuple [a])) μ := dTup_l (ds := [a]) (by show 1 ≤ 16000000; decide)
@[simp] theorem dTup_2 {a b : D} : dTup [.d a, .d b] μ = .ok (.d (.tuple [a, b])) μ := dTup_l (ds := [a, b]) (by show 2 ≤ 16000000; decide)
@[simp] theorem dTup_3 {a b c : D} : dTup [.d a, .d b, .d c] μ = .ok (.d (.tuple [a, b, c])) μ := dTup_l (ds := [a, b, c]) (by show 3 ≤ 16000000; decide)
@[simp] theorem dTup_4 {a b c d : D} : dTup [.d a, .d b, .d c, .d d] μ = .ok (.d (.tuple [a, b, c, d])) μ := dTup_l (ds := [a, b, c, d]) (by show 4 ≤ 16000000; decide)
theorem dTup_d {ds : List D} (h : ds.length ≤ sizeLine) : dTup (ds.map .d) μ = .ok (.d (.tuple ds)) μ := by
  unfold dTup
  rw [allD_map]
  show (if ds.length ≤ sizeLine then _ else _) = _
  rw [if_pos h]
@[simp] theorem dSl_s {l : List Nat} {i j : Option Int} (h : l.length ≤ 16000000) : dSl (.d (.str (T l))) i j μ = .ok (.d (.str (T (cutL l i j)))) μ := by
  show (if (T l).length ≤ sizeLine then Out.ok (Dv.d (.str (cutS (T l) i j))) μ else _) = _
  rw [T_len, cutS_T, if_pos (Nat.le_trans h line_big)]
@[simp] theorem dSl_t {ds : List D} {i j : Option Int} : dSl (.d (.tuple ds)) i j μ = .ok (.d (.tuple (cutL ds i j))) μ := id rfl
theorem allS_T (ls : List (List Nat)) : allS ((ls.map fun l => PyData.str (T l)).map Dv.d) = some (ls.map T) := by
  have := allS_map (ls.map T)
  rw [List.map_map] at this
  rw [List.map_map]
  exact this
/-- texts joined -/
theorem dJoin_s {l : List Nat} {ls : List (List Nat)} (h : (ls.map (·.length)).sum + ls.length * l.length ≤ 16777216) : dJoin (.d (.str (T l))) [.d (.list (ls.map fun l => PyData.str (T l)))] μ = .ok (.d (.str (T (TL.joinL l ls)))) μ := by
  show (match allS ((ls.map fun l => PyData.str (T l)).map Dv.d) with | some (ys : List Str) => (if (ys.map Str.length).sum + ys.length * (T l).length ≤ 16777216 then Out.ok (Dv.d (.str (Txt.join (T l) ys))) μ else Out.bad) | none => Out.bad) = _
  rw [allS_T]
  show (if ((ls.map T).map Str.length).sum + (ls.map T).length * (T l).length ≤ 16777216 then _ else _) = _
  have e : (ls.map T).map Str.length = ls.map (·.length) := by
    rw [List.map_map]
    apply List.map_congr_left
    intro x _
    exact T_len x
  rw [e, List.length_map, T_len, if_pos h, join_T]
end
/-- a cell of three numbers, in bounds; m: how many draws at most so far -/
def Hnd (h m : Nat) (μ : Store) : Prop := ∃ a b c : Int, μ[h]? = some (.lst [.d (.int a), .d (.int b), .d (.int c)]) ∧ 0 ≤ a ∧ a.natAbs < 2 ^ 700 ∧ 0 ≤ b ∧ b < 2 ^ 62 ∧ 0 ≤ c ∧ c ≤ m
theorem Hnd.mono {h m n : Nat} {μ : Store} (x : Hnd h m μ) (l : m ≤ n) : Hnd h n μ := by
  obtain ⟨a, b, c, e, h1, h2, h3, h4, h5, h6⟩ := x
  exact ⟨a, b, c, e, h1, h2, h3, h4, h5, by omega⟩
/-- nothing but the cell h is otherwise -/
def Oth (h : Nat) (μ μ' : Store) : Prop := μ'.length = μ.length ∧ ∀ i, i ≠ h → μ'[i]? = μ[i]?
theorem Oth.refl (h : Nat) (μ : Store) : Oth h μ μ := ⟨rfl, fun _ _ => rfl⟩
theorem Oth.trans {h : Nat} {a b c : Store} (x : Oth h a b) (y : Oth h b c) : Oth h a c := ⟨y.1.trans x.1, fun i hi => (y.2 i hi).trans (x.2 i hi)⟩
theorem Oth.set (h : Nat) (μ : Store) (c : Cell) : Oth h μ (μ.set h c) := ⟨List.length_set, fun i hi => List.getElem?_set_ne (Ne.symm hi)⟩
theorem lt_of_get {h : Nat} {μ : Store} {c : Cell} (e : μ[h]? = some c) : h < μ.length := (List.getElem?_eq_some_iff.mp e).1
theorem log2_lt {i : Int} {n : Nat} (h : i.natAbs < 2 ^ n) (hn : 0 < n) : i.natAbs.log2 < n := PySem.Flt.log2_lt_of hn h
theorem cMul_ok {i j : Int} {a b : Nat} (ha : i.natAbs < 2 ^ a) (hb : j.natAbs < 2 ^ b) (h0 : 0 < a) (h1 : 0 < b) (h : a + b ≤ 1000000) : cMul i j = true := by
  unfold cMul
  exact decide_eq_true (mulx_ok ha hb (by omega))
theorem cMod_of {x k : Int} (h : 0 < k) : cMod x k = true := decide_eq_true h
end DL

namespace DL
open PySem PySem.Spec PyProof.Rows L2
/-- a comprehension whose turn changes nothing and gives f of its item -/
theorem lcM_map {g : MG} {te : ME} {ρ : DEnv} {μ : Store} {f : Dv → Dv} : ∀ {bs : List Dv}, (∀ b ∈ bs, ∃ ρ', g b ρ μ = .ok ρ' μ ∧ te ρ' μ = .ok (f b) μ) → lcM g tYesM te ρ bs μ = .ok (bs.map f) μ
  | [], _ => rfl
  | b :: bs, h => by
    obtain ⟨ρ', h1, h2⟩ := h b List.mem_cons_self
    have ih := lcM_map (g := g) (te := te) (ρ := ρ) (μ := μ) (f := f) (bs := bs) fun x hx => h x (List.mem_cons_of_mem _ hx)
    unfold lcM
    rw [h1]
    simp only [gb_ok, tYesM, if_true]
    rw [h2]
    simp only [gb_ok]
    rw [ih]
    rfl
/-- .. with a test -/
theorem lcM_filter {g : MG} {tt : MT} {te : ME} {ρ : DEnv} {μ : Store} {p : Dv → Bool} {f : Dv → Dv} : ∀ {bs : List Dv}, (∀ b ∈ bs, ∃ ρ', g b ρ μ = .ok ρ' μ ∧ tt ρ' μ = .ok (p b) μ ∧ (p b = true → te ρ' μ = .ok (f b) μ)) → lcM g tt te ρ bs μ = .ok ((bs.filter p).map f) μ
  | [], _ => rfl
  | b :: bs, h => by
    obtain ⟨ρ', h1, h2, h3⟩ := h b List.mem_cons_self
    have ih := lcM_filter (g := g) (tt := tt) (te := te) (ρ := ρ) (μ := μ) (p := p) (f := f) (bs := bs) fun x hx => h x (List.mem_cons_of_mem _ hx)
    unfold lcM
    rw [h1]
    simp only [gb_ok]
    rw [h2]
    simp only [gb_ok]
    by_cases hp : p b = true
    · rw [if_pos hp, h3 hp, List.filter_cons_of_pos hp]
      simp only [gb_ok]
      rw [ih]
      rfl
    · rw [if_neg hp, ih, List.filter_cons_of_neg hp]
theorem lcF_list {g : MG} {tt : MT} {te : ME} {vs : List Nat} {ρ : DEnv} {bs : List Dv} {μ μ' : Store} {ds : List D} (h : lcM g tt te (wipeD ρ vs) bs μ = .ok (ds.map .d) μ') (hb : bs.length ≤ sizeLine) (hd : ds.length ≤ sizeLine) : lcF dList g tt te vs ρ bs μ = .ok (.d (.list ds)) μ' := by
  unfold lcF
  rw [if_pos hb, h]
  exact dList_d hd
/-- a for that goes on -/
theorem forL_cons {g : MG} {mb : MS} {b : Dv} {bs : List Dv} {ρ ρ1 ρ2 : DEnv} {μ μ1 μ2 : Store} (h1 : g b ρ μ = .ok ρ1 μ1) (h2 : mb ρ1 μ1 = .ok (.nx ρ2) μ2) : forL g mb (b :: bs) ρ μ = forL g mb bs ρ2 μ2 := by
  conv => lhs; unfold forL
  rw [h1]
  simp only [gb_ok]
  rw [h2]
  rfl
theorem cut_to {α : Type} (l : List α) {k : Int} (h : 0 ≤ k) : cutL l none (some k) = l.take k.toNat := by
  have e : HT.sIx l.length l.length (some k) = min k.toNat l.length := by
    show (if k < 0 then _ else _) = _
    rw [if_neg (by omega)]
  unfold cutL
  rw [e]
  show (l.drop 0).take (min k.toNat l.length - 0) = _
  rw [List.drop_zero, Nat.sub_zero, List.take_eq_take_iff]
  omega
theorem cut_from {α : Type} (l : List α) {k : Int} (h : 0 ≤ k) : cutL l (some k) none = l.drop k.toNat := by
  have e : HT.sIx l.length 0 (some k) = min k.toNat l.length := by
    show (if k < 0 then _ else _) = _
    rw [if_neg (by omega)]
  unfold cutL
  rw [e]
  show (l.drop (min k.toNat l.length)).take (l.length - min k.toNat l.length) = _
  rw [List.take_of_length_le (by rw [List.length_drop]; omega)]
  by_cases hk : k.toNat ≤ l.length
  · rw [Nat.min_eq_left hk]
  · rw [Nat.min_eq_right (by omega), List.drop_of_length_le (Nat.le_refl _), List.drop_of_length_le (by omega)]
end DL

namespace DL
open PySem PySem.Spec PyProof.Rows L2
section
variable {μ : Store} {ρ : DEnv}
@[simp] theorem walkD_s {z : List Nat} : walkD (.d (.str (T z))) μ = .ok (z.map fun c => .d (.str (T [c]))) μ := id rfl
@[simp] theorem walkD_l {ds : List D} : walkD (.d (.list ds)) μ = .ok (ds.map .d) μ := id rfl
@[simp] theorem walkD_t {ds : List D} : walkD (.d (.tuple ds)) μ = .ok (ds.map .d) μ := id rfl
@[simp] theorem rng1_r {j : Int} (h : okR j = true) : rng1 [.d (.int j)] μ = .ok ((List.range j.toNat).map fun (i : Nat) => Dv.d (.int i)) μ := by
  show (if okR j = true then _ else _) = _
  rw [if_pos h]
@[simp] theorem dAll_b {f : List Bool → Bool} {ks : List Bool} : dAll f [.d (.list (ks.map PyData.bool))] μ = .ok (.d (.bool (f ks))) μ := by
  show (match allB ((ks.map PyData.bool).map Dv.d) with | some ks => Out.ok (Dv.d (.bool (f ks))) μ | none => Out.bad) = _
  have := allB_map ks
  rw [List.map_map]
  have e : (Dv.d ∘ PyData.bool) = fun k => Dv.d (.bool k) := rfl
  rw [e, this]
@[simp] theorem dAbs_i {i : Int} : dAbs [.d (.int i)] μ = .ok (.d (.int (if i < 0 then -i else i))) μ := id rfl
@[simp] theorem dMax_i {i j : Int} : dMax [.d (.int i), .d (.int j)] μ = .ok (.d (.int (if j > i then j else i))) μ := id rfl
@[simp] theorem dMin_i {i j : Int} : dMin [.d (.int i), .d (.int j)] μ = .ok (.d (.int (if j < i then j else i))) μ := id rfl
@[simp] theorem dInt_b {k : Bool} : dInt [.d (.bool k)] μ = .ok (.d (.int (if k then 1 else 0))) μ := id rfl
@[simp] theorem dInt_i {k : Int} : dInt [.d (.int k)] μ = .ok (.d (.int k)) μ := id rfl
def isDig (c : Nat) : Bool := decide (48 ≤ c ∧ c ≤ 57)
theorem isDig_iff {c : Nat} : isDig c = true ↔ 48 ≤ c ∧ c ≤ 57 := by simp [isDig]
theorem dig_mem (c : Nat) : (c ∈ [48, 49, 50, 51, 52, 53, 54, 55, 56, 57]) = (isDig c = true) := by
  unfold isDig
  simp only [List.mem_cons, List.not_mem_nil, or_false, decide_eq_true_eq, eq_iff_iff]
  omega
def dval (l : List Nat) : Nat := NumText.digitsVal l
theorem dval_app (l m : List Nat) (k : Nat) : dval (l ++ m) = m.foldl (fun acc c => acc * 10 + (c - 48)) (dval l) := by
  unfold dval NumText.digitsVal
  rw [List.foldl_append]
theorem all_dig {l : List Nat} (h : l.all isDig = true) : NumText.AllDigits l := fun c hc => by
  have := List.all_eq_true.mp h c hc
  exact isDig_iff.mp this
theorem dInt_s {l : List Nat} (h : l.all isDig = true) (h0 : l ≠ []) (h1 : l.length ≤ 640) : dInt [.d (.str (T l))] μ = .ok (.d (.int (dval l))) μ := by
  have e := intText_digits (x := T l) (by rw [tl_T]; exact all_dig h) (by rw [tl_T]; exact h0) (by rw [T_len]; omega)
  rw [tl_T] at e
  show (match PySem.intText? (T l) with | some n => if (T l).length ≤ 640 then Out.ok (Dv.d (.int n)) μ else .bad | none => .bad) = _
  rw [e, T_len]
  show (if l.length ≤ 640 then _ else _) = _
  rw [if_pos h1]
  rfl
def showI (i : Int) : List Nat := if i < 0 then 45 :: TL.numL i.natAbs else TL.numL i.natAbs
theorem toString_neg (n : Nat) (h : 0 < n) : toString (-(n : Int)) = "-" ++ toString (n : Int) := by
  obtain ⟨m, rfl⟩ : ∃ m, n = m + 1 := ⟨n - 1, by omega⟩
  rfl
@[simp] theorem dIn_t2 {n : Bool} {x a b : List Nat} : dIn n (.d (.str (T x))) (.d (.tuple [.str (T a), .str (T b)])) μ = .ok (.d (.bool (if n then !(decide (a = x) || decide (b = x)) else (decide (a = x) || decide (b = x))))) μ := by
  show (match allFlat ([PyData.str (T a), PyData.str (T b)].map Dv.d) with
      | some (ds : List D) => (if flatD (.str (T x)) = true then Out.ok (Dv.d (PyData.bool (if n then !(ds.any fun y => PyData.eqv y (.str (T x))) else ds.any fun y => PyData.eqv y (.str (T x))))) μ else Out.bad)
      | none => .bad) = _
  rw [allFlat_map (by intro d hd; simp at hd; rcases hd with rfl | rfl <;> rfl)]
  show Out.ok (Dv.d (PyData.bool (if n then !([PyData.str (T a), PyData.str (T b)].any fun y => PyData.eqv y (.str (T x))) else [PyData.str (T a), PyData.str (T b)].any fun y => PyData.eqv y (.str (T x))))) μ = _
  simp [eqv_T]
theorem ljustF_T (l : List Nat) (n c : Nat) : Txt.ljustF (T l) (n : Int) c = T (l ++ List.replicate (n - l.length) c) := by
  unfold Txt.ljustF
  rw [T_len]
  split
  · rename_i h
    have : n - l.length = 0 := by omega
    rw [this]
    show T l = T (l ++ [])
    rw [List.append_nil]
  · apply TL.ext_tl
    show (Array.replicate 0 c ++ (T l).cps ++ Array.replicate ((n : Int).toNat - l.length) c).toList = (T _).cps.toList
    rw [tl_T, Array.toList_append, Array.toList_append, tl_T, Array.toList_replicate, Array.toList_replicate]
    rfl
theorem padOk {k : Nat} (h : k ≤ 16000000) : PadOk (k : Int) = true := by
  have hb := line_big
  unfold PadOk fitsSsize Builtin.Str.tooLong
  simp
  omega
theorem dLjust {l : List Nat} {k c : Nat} (h : k ≤ 16000000) : dPadF Txt.ljustF (.d (.str (T l))) [.d (.int k), .d (.str (T [c]))] μ = .ok (.d (.str (T (l ++ List.replicate (k - l.length) c)))) μ := by
  show (if PadOk (k : Int) = true ∧ (T [c]).length = 1 then Out.ok (Dv.d (.str (Txt.ljustF (T l) k c))) μ else Out.bad) = _
  rw [if_pos ⟨padOk h, rfl⟩, ljustF_T]
theorem tw_self {s : Nat} : ∀ {l : List Nat}, s ∉ l → l.takeWhile (· != s) = l
  | [], _ => rfl
  | c :: l, h => by
    have h1 : (c != s) = true := by simp; exact fun q => h (q ▸ List.mem_cons_self)
    rw [List.takeWhile_cons, h1, if_pos rfl, tw_self fun q => h (List.mem_cons_of_mem _ q)]
theorem dw_nil {s : Nat} : ∀ {l : List Nat}, s ∉ l → l.dropWhile (· != s) = []
  | [], _ => rfl
  | c :: l, h => by
    have h1 : (c != s) = true := by simp; exact fun q => h (q ▸ List.mem_cons_self)
    rw [List.dropWhile_cons, h1, if_pos rfl, dw_nil fun q => h (List.mem_cons_of_mem _ q)]
def zs (n : Nat) : List Nat := List.replicate n 48
theorem dAdd_ll {xs ys : List D} (h : xs.length + ys.length ≤ 16000000) : dAdd (.d (.list xs)) (.d (.list ys)) μ = .ok (.d (.list (xs ++ ys))) μ := by
  show dList (xs.map Dv.d ++ ys.map Dv.d) μ = _
  rw [← List.map_append]
  exact dList_d (by rw [List.length_append]; exact Nat.le_trans h line_big)
theorem dSplit_one {l : List Nat} {s : Nat} (hs : s < 256) (h : l.length ≤ 15000000) : dSplit (.d (.str (T l))) [.d (.str (T [s]))] μ = .ok (.d (.list ((splitL s [] l).map fun p => .str (T p)))) μ := by
  have hb := line_big
  show (if ((T [s]).length == 0) = false ∧ (T l).length + 2 ≤ sizeLine then Out.ok (Dv.d (.list ((Txt.split (T l) (T [s])).map .str))) μ else Out.bad) = _
  rw [if_pos ⟨rfl, by rw [T_len]; omega⟩, split_T _ _ hs, spl_one, List.map_map]
  rfl
theorem splitL_no {s : Nat} : ∀ {l acc : List Nat}, s ∉ l → splitL s acc l = [acc ++ l]
  | [], acc, _ => by rw [List.append_nil]; rfl
  | c :: l, acc, h => by
    have h1 : ¬ c = s := fun q => h (q ▸ List.mem_cons_self)
    rw [splitL, if_neg h1, splitL_no fun q => h (List.mem_cons_of_mem _ q)]
    simp
theorem splitL_app {s : Nat} : ∀ {a acc r : List Nat}, s ∉ a → splitL s acc (a ++ s :: r) = (acc ++ a) :: splitL s [] r
  | [], acc, r, _ => by
    rw [List.nil_append, splitL, if_pos rfl, List.append_nil]
  | c :: a, acc, r, h => by
    have h1 : ¬ c = s := fun q => h (q ▸ List.mem_cons_self)
    rw [List.cons_append, splitL, if_neg h1, splitL_app fun q => h (List.mem_cons_of_mem _ q)]
    simp
theorem splitL_ne {s : Nat} : ∀ {l acc : List Nat}, splitL s acc l ≠ []
  | [], acc => by unfold splitL; simp
  | c :: l, acc => by
    unfold splitL
    split
    · simp
    · exact splitL_ne
theorem cut_at {s : Nat} : ∀ {l : List Nat}, s ∈ l → ∃ a r, l = a ++ s :: r ∧ s ∉ a
  | c :: l, h => by
    by_cases hc : c = s
    · exact ⟨[], l, by rw [hc]; rfl, by simp⟩
    · obtain ⟨a, r, e, n⟩ := cut_at (l := l) (by
        rcases List.mem_cons.mp h with h | h
        · exact absurd h.symm hc
        · exact h)
      exact ⟨c :: a, r, by rw [e]; rfl, by simp; exact ⟨fun q => hc q.symm, n⟩⟩
theorem tw_app {s : Nat} : ∀ {a r : List Nat}, s ∉ a → (a ++ s :: r).takeWhile (· != s) = a
  | [], r, _ => by simp
  | c :: a, r, h => by
    have h1 : (c != s) = true := by simp; exact fun q => h (q ▸ List.mem_cons_self)
    rw [List.cons_append, List.takeWhile_cons, h1, if_pos rfl, tw_app fun q => h (List.mem_cons_of_mem _ q)]
theorem dw_app {s : Nat} : ∀ {a r : List Nat}, s ∉ a → ((a ++ s :: r).dropWhile (· != s)).drop 1 = r
  | [], r, _ => by simp
  | c :: a, r, h => by
    have h1 : (c != s) = true := by simp; exact fun q => h (q ▸ List.mem_cons_self)
    rw [List.cons_append, List.dropWhile_cons, h1, if_pos rfl, dw_app fun q => h (List.mem_cons_of_mem _ q)]
/-- a comprehension over the signs of a text -/
theorem lcF_signs {i : Nat} {te : ME} {vs : List Nat} {l : List Nat} {f : Nat → D} (hl : l.length ≤ 16000000) (h : ∀ c ∈ l, te ((wipeD ρ vs).set i (some (.d (.str (T [c]))))) μ = .ok (.d (f c)) μ) :
    lcF dList (gN i) tYesM te vs ρ (l.map fun c => .d (.str (T [c]))) μ = .ok (.d (.list (l.map f))) μ := by
  have hb := line_big
  refine lcF_list ?_ (by rw [List.length_map]; omega) (by rw [List.length_map]; omega)
  have := lcM_map (g := gN i) (te := te) (ρ := wipeD ρ vs) (μ := μ) (f := fun b => match b with | .d (.str z) => .d (f (z.cps.toList.headD 0)) | b => b) (bs := l.map fun c => .d (.str (T [c]))) (by
    intro b hb
    obtain ⟨c, hc, rfl⟩ := List.mem_map.mp hb
    exact ⟨_, rfl, h c hc⟩)
  rw [this, List.map_map, List.map_map]
  rfl
end
end DL

namespace DL
open PySem PySem.Spec PyProof.Rows L2
section
variable {μ : Store} {ρ : DEnv}
theorem str_len_app (x y : Str) : (x ++ y).length = x.length + y.length := by
  rw [← T_tl x, ← T_tl y, T_app, T_len, T_len, T_len, List.length_append]
theorem dMulA_s1 {z : List Nat} (h : z.length ≤ 1000) : dMulA (.d (.str (T z))) (.d (.int 1)) μ = .ok (.d (.str (T z))) μ := by
  have hb := line_big
  show (if (decide (-(2 ^ 31) ≤ (1 : Int)) && decide ((1 : Int) < 2 ^ 31) && decide ((T z).length * (1 : Int).toNat ≤ sizeLine) && decide ((1 : Int) < 1 ∨ ((T z).length : Int) ≤ (2 ^ 63 - 1) / 1)) = true then Out.ok (Dv.d (.str (Txt.mul (T z) 1))) μ else .bad) = _
  rw [if_pos (by
    rw [T_len]
    simp only [Bool.and_eq_true, decide_eq_true_eq]
    refine ⟨⟨⟨by decide, by decide⟩, ?_⟩, .inr ?_⟩
    · show z.length * 1 ≤ _; omega
    · omega)]
  rfl
theorem dMulA_s0 {z : List Nat} : dMulA (.d (.str (T z))) (.d (.int 0)) μ = .ok (.d (.str (T []))) μ := by
  show (if (decide (-(2 ^ 31) ≤ (0 : Int)) && decide ((0 : Int) < 2 ^ 31) && decide ((T z).length * (0 : Int).toNat ≤ sizeLine) && decide ((0 : Int) < 1 ∨ ((T z).length : Int) ≤ (2 ^ 63 - 1) / 0)) = true then Out.ok (Dv.d (.str (Txt.mul (T z) 0))) μ else .bad) = _
  rw [if_pos (by
    simp only [Bool.and_eq_true, decide_eq_true_eq]
    refine ⟨⟨⟨by decide, by decide⟩, ?_⟩, .inl (by decide)⟩
    show (T z).length * 0 ≤ _; omega)]
  rfl
/-- none or a number of at most 40 figures -/
def smallD : D → Bool
  | .none => true
  | .int i => decide (i.natAbs < 10 ^ 40)
  | _ => false
theorem small_len {x : D} (h : smallD x = true) : x.shown.length ≤ 41 := by
  cases x with
  | none => show Str.length "None" ≤ 41; decide +kernel
  | int i =>
    have h : i.natAbs < 10 ^ 40 := of_decide_eq_true h
    show Str.length (Str.ofString (toString i)) ≤ 41
    rcases Int.le_total 0 i with hi | hi
    · obtain ⟨n, rfl⟩ := Int.eq_ofNat_of_zero_le hi
      have e : Str.ofString (toString (n : Int)) = T (TL.numL n) := TL.ext_tl (by rw [TL.tl_num n]; rfl)
      rw [e, T_len]
      exact Nat.le_trans (TL.numL_len (by decide) (k := 40) (by simpa using h)) (by decide)
    · obtain ⟨n, hn⟩ := Int.eq_ofNat_of_zero_le (a := -i) (by omega)
      have : i = -(n : Int) := by omega
      subst this
      by_cases h0 : 0 < n
      · rw [toString_neg n h0]
        have e : Str.ofString ("-" ++ toString (n : Int)) = T (45 :: TL.numL n) := TL.ext_tl (by
          rw [TL.tl_ofString, String.toList_append, List.map_append]
          have e2 := TL.tl_ofString (toString (n : Int))
          rw [TL.tl_num n] at e2
          rw [← e2]
          rfl)
        rw [e, T_len, List.length_cons]
        have := TL.numL_len (n := n) (by decide) (k := 40) (by simpa using h)
        omega
      · have : n = 0 := by omega
        subst this
        decide +kernel
  | bool b => cases h
  | str z => cases h
  | list ds => cases h
  | tuple ds => cases h
  | dict ds => cases h
theorem small_show {x : D} (h : smallD x = true) : x.showable = true ∧ nodict x = true ∧ x.hasDict = false ∧ x.depth = 0 := by
  cases x with
  | none => exact ⟨rfl, rfl, rfl, rfl⟩
  | int i =>
    refine ⟨?_, rfl, rfl, rfl⟩
    have h : i.natAbs < 10 ^ 40 := of_decide_eq_true h
    show decide (i.natAbs.log2 < 1920) = true
    have h2 : i.natAbs < 2 ^ 200 := Nat.lt_trans h (by decide)
    have := log2_lt (i := i) (n := 200) h2 (by decide)
    exact decide_eq_true (by omega)
  | bool b => cases h
  | str z => cases h
  | list ds => cases h
  | tuple ds => cases h
  | dict ds => cases h
end
end DL

namespace DL
open PySem PySem.Spec PyProof.Rows L2

inductive Sc where
  | li (a : Addr) | tu (a : Addr) | tx (z : Str)
def Sc.v : Sc → V
  | .li a => .ref a
  | .tu a => .ref a
  | .tx z => .str z
def Sc.at (K : PySem.W.Frag) (H : Hp) : Sc → List V → Prop
  | .li a, xs => SqL K H a xs
  | .tu a, xs => SqT K H a xs
  | .tx z, xs => xs = z.cps.toList.map fun c => V.str ⟨#[c]⟩
def Sc.st (it : Addr) (i : Nat) (h : Heap) : Sc → Prop
  | .li a => h.IsListIter it a i
  | .tu a => h.IsTupleIter it a i
  | .tx z => ∃ t, h.IsStrIter it (strIterType z) z t i
def Sc.fp (it : Addr) : Sc → List Addr
  | .li a => [it, a]
  | .tu a => [it, a]
  | .tx _ => [it]
def Sc.apart (it : Addr) : Sc → Prop
  | .li a => a ≠ it
  | .tu a => a ≠ it
  | .tx _ => True
section
variable {X : Cx} {pins : List (Addr × Obj)} {σ : L2.St} {H : Hp} {s : Shared}
theorem Sc.draws (I : Inv X pins σ H s) (hh : X.A.handled = none) {it : Addr} {i : Nat} : ∀ {c : Sc} {xs : List V}, c.at X.K H xs → c.apart it → c.st it i s.heap →
    ∃ (P : Nat → Value → Prop) (St : Nat → Heap → Prop), Draws X.prog X.w X.A.in1 it (c.fp it) xs.length P St ∧ (∀ j h', St j h' → c.st it j h') ∧ St i s.heap ∧ ∀ j v, P j v → ∃ x, xs[j]? = some x ∧ RelV x v
  | .li a, xs, h, hn, st => by
    obtain ⟨its, rv, pl, _⟩ := I.list h
    have D := Draws.list (prog := X.prog) (w := X.w) (A := X.A.in1) hh it a hn its.toArray
    have hl : its.toArray.size = xs.length := by rw [List.size_toArray]; exact rv.length.symm
    rw [hl] at D
    refine ⟨_, _, D, fun j h' q => q.1, ⟨st, pl.isList⟩, fun j v q => ?_⟩
    have q : its[j]? = some v := by simpa using q
    have hj : j < xs.length := by rw [← hl, List.size_toArray]; exact (List.getElem?_eq_some_iff.mp q).1
    obtain ⟨u, h1, h2⟩ := rv.get (show xs[j]? = some xs[j] by simp [hj])
    rw [q] at h1
    cases h1
    exact ⟨_, by simp [hj], h2⟩
  | .tu a, xs, h, hn, st => by
    obtain ⟨its, rv, pl, _⟩ := I.tuple h
    have D := Draws.tuple (prog := X.prog) (w := X.w) (A := X.A.in1) hh it a hn its.toArray
    have hl : its.toArray.size = xs.length := by rw [List.size_toArray]; exact rv.length.symm
    rw [hl] at D
    refine ⟨_, _, D, fun j h' q => q.1, ⟨st, pl⟩, fun j v q => ?_⟩
    have q : its[j]? = some v := by simpa using q
    have hj : j < xs.length := by rw [← hl, List.size_toArray]; exact (List.getElem?_eq_some_iff.mp q).1
    obtain ⟨u, h1, h2⟩ := rv.get (show xs[j]? = some xs[j] by simp [hj])
    rw [q] at h1
    cases h1
    exact ⟨_, by simp [hj], h2⟩
  | .tx z, xs, h, hn, st => by
    obtain ⟨t, st⟩ := st
    have D := Draws.text (prog := X.prog) (w := X.w) (A := X.A.in1) hh it z t
    have h : xs = z.cps.toList.map fun c => V.str ⟨#[c]⟩ := h
    subst h
    have hl : z.cps.size = (z.cps.toList.map fun c => V.str ⟨#[c]⟩).length := by simp
    rw [hl] at D
    refine ⟨_, _, D, fun j h' q => ⟨t, q⟩, st, fun j v q => ?_⟩
    obtain ⟨c, u, q, rfl⟩ := q
    refine ⟨.str ⟨#[c]⟩, ?_, ⟨u, rfl⟩⟩
    rw [List.getElem?_map, Array.getElem?_toList, q]
    rfl
end
def ItzX (K : PySem.W.Frag) (c1 c2 : Sc) (xs ys : List V) : It :=
  ⟨fun i H => c1.at K H xs ∧ c2.at K H ys ∧ i < xs.length ∧ i < ys.length,
    fun i H v H' => ∃ T x y its, v = .ref T ∧ H T = none ∧ H' = upd H T (frT its [x, y]) ∧ xs[i]? = some x ∧ ys[i]? = some y,
    fun i H => c1.at K H xs ∧ c2.at K H ys ∧ min xs.length ys.length ≤ i⟩
theorem Sc.keep {it : Addr} {i : Nat} {h h' : Heap} : ∀ {c : Sc}, c.st it i h → (∀ o, h.get? it = some o → h'.get? it = some o) → c.st it i h'
  | .li a, st, k => st.at fun o e => k o e
  | .tu a, st, k => st.at fun o e => k o e
  | .tx z, ⟨t, o, e, r⟩, k => ⟨t, o, k o e, r⟩
theorem Sc.objs {it : Addr} {i : Nat} {h : Heap} : ∀ {c : Sc}, c.st it i h → ∃ o, h.get? it = some o ∧ ∀ v, o.data ≠ .cell v
  | .li a, ⟨o, e, _, d⟩ => ⟨o, e, fun v q => by rw [d] at q; cases q⟩
  | .tu a, ⟨o, e, _, d⟩ => ⟨o, e, fun v q => by rw [d] at q; cases q⟩
  | .tx z, ⟨t, o, e, _, d⟩ => ⟨o, e, fun v q => by rw [d] at q; cases q⟩
theorem turn_zipX {P : Program} {w : World} {K : PySem.W.Frag} {elts : List Expr} {kk : Nat} {tpos : Pos} {z TI TO i1 i2 : Addr} {c1 c2 : Sc} {xs ys : List V} (S : ZipSep2 z TI TO i1 i2 (c1.fp i1) (c2.fp i2)) (h12 : i1 ≠ i2) (n1 : c1.apart i1) (n2 : c2.apart i2) :
    Turn P w K (.Tuple elts kk tpos) (ItzX K c1 c2 xs ys) [z, TI, TO, i1, i2] z (fun i h => (IsZip h z TI TO .none ∧ IsTupOf2 h TI (.ref i1) (.ref i2) ∧ (∃ x y, IsTupOf2 h TO x y) ∧ c1.st i1 i h ∧ c2.st i2 i h) ∧ i ≤ min xs.length ys.length) where
  mem := by simp
  obj := fun i h st c hc => by
    obtain ⟨⟨hz, hTI, ⟨x, y, hTO⟩, s1, s2⟩, _⟩ := st
    have e' : c = z ∨ c = TI ∨ c = TO ∨ c = i1 ∨ c = i2 := by simpa using hc
    rcases e' with q | q | q | q | q
    · rw [q]; exact ⟨_, hz, fun v q => nomatch q⟩
    · rw [q]; exact ⟨_, hTI, fun v q => nomatch q⟩
    · rw [q]; exact ⟨_, hTO, fun v q => nomatch q⟩
    · rw [q]; exact Sc.objs s1
    · rw [q]; exact Sc.objs s2
  keep := fun i h h' st k => by
    obtain ⟨⟨hz, hTI, ⟨x, y, hTO⟩, s1, s2⟩, hi⟩ := st
    exact ⟨⟨k z (by simp) _ hz, k TI (by simp) _ hTI, ⟨x, y, k TO (by simp) _ hTO⟩, Sc.keep s1 fun o q => k i1 (by simp) o q, Sc.keep s2 fun o q => k i2 (by simp) o q⟩, hi⟩
  item := by
    intro X hP hw hK hc i pins s σ H E I hf st hg
    subst hP hw hK
    obtain ⟨⟨hz, hTI, ⟨x0, y0, hTO⟩, s1, s2⟩, _⟩ := st
    obtain ⟨a1, a2, l1, l2⟩ := hg
    obtain ⟨P1, St1, D1, k1, t1, r1⟩ := Sc.draws I (I.ok.hd hc) a1 n1 s1
    obtain ⟨P2, St2, D2, k2, t2, r2⟩ := Sc.draws I (I.ok.hd hc) a2 n2 s2
    have hzl : z < s.heap.objs.size := Heap.lt_size hz
    have hTIl : TI < s.heap.objs.size := Heap.lt_size hTI
    have hTOl : TO < s.heap.objs.size := Heap.lt_size hTO
    have hi1l : i1 < s.heap.objs.size := by obtain ⟨_, e, _⟩ := Sc.objs s1; exact Heap.lt_size e
    have hi2l : i2 < s.heap.objs.size := by obtain ⟨_, e, _⟩ := Sc.objs s2; exact Heap.lt_size e
    refine wpAny_pyNext_zipD2_item S D1 D2 hz hTI hTO t1 t2 l1 l2 fun u u2 h' tk p1 p2 z' TO' s1' s2' hT hsz hk => ?_
    obtain ⟨x, hx, ru⟩ := r1 _ _ p1
    obtain ⟨y, hy, ru2⟩ := r2 _ _ p2
    refine ⟨_, rfl, wpAny_letOwnedTupleGo_zip (s := { s with heap := h', toks := tk }) z' fun h'' z'' sb => ?_⟩
    have hT2 : h''.get? s.heap.objs.size = some { cls := .type "tuple", data := .seq #[u, u2] } := (sb.2 _ (Nat.ne_of_gt hzl)).trans hT
    have new : ObjOk X.prog X.w (upd H s.heap.objs.size (frT #[u, u2] [x, y])) h'' s.heap.objs.size (frT #[u, u2] [x, y]) :=
      frT_ok (its := [u, u2]) (by show 2 ≤ sizeLine; decide) (.cons ru (.cons ru2 .nil)) hT2
    have I1 : Inv X pins σ (upd H s.heap.objs.size (frT #[u, u2] [x, y])) { s with heap := h'', toks := tk } :=
      I.turnedNew (t' := tk) (ch := [z, TI, TO, i1, i2]) (fun c o hb q => (sb.2 c (fun q' => hb (by simp [q']))).trans (hk c o (fun q' => hb (by simp [q'])) (fun q' => hb (by simp [q'])) (fun q' => hb (by simp [q'])) (fun q' => hb (by simp [q'])) q)) hf (Nat.le_refl _) new
    refine ⟨.ref s.heap.objs.size, _, I1, rfl, ⟨_, x, y, _, rfl, I.hok.fresh (Nat.le_refl _), rfl, hx, hy⟩, ⟨⟨z'', ?_, ⟨u, u2, ?_⟩, ?_, ?_⟩, by omega⟩, fun c hcm => ?_⟩
    · exact (sb.2 _ S.TIz).trans (hk _ _ S.TIz S.TITO S.TIi1 S.TIi2 hTI)
    · exact (sb.2 _ S.TOz).trans TO'
    · exact Sc.keep (k1 _ _ s1') fun o q => (sb.2 _ S.zi1.symm).trans q
    · exact Sc.keep (k2 _ _ s2') fun o q => (sb.2 _ S.zi2.symm).trans q
    · have hlt : c < s.heap.objs.size := by
        have e' : c = z ∨ c = TI ∨ c = TO ∨ c = i1 ∨ c = i2 := by simpa using hcm
        rcases e' with q | q | q | q | q <;> rw [q] <;> assumption
      rw [upd_ne (Nat.ne_of_lt hlt)]
      exact (hf c hcm).1
  done := by
    intro X hP hw hK hc i pins s σ H E I hf st hg
    subst hP hw hK
    obtain ⟨⟨hz, hTI, ⟨x0, y0, hTO⟩, s1, s2⟩, hi⟩ := st
    obtain ⟨a1, a2, hend⟩ := hg
    obtain ⟨P1, St1, D1, k1, t1, r1⟩ := Sc.draws I (I.ok.hd hc) a1 n1 s1
    obtain ⟨P2, St2, D2, k2, t2, r2⟩ := Sc.draws I (I.ok.hd hc) a2 n2 s2
    exact wpAny_pyNext_zipD2_end S D1 D2 hz hTI hTO t1 t2 (by omega) (by omega) (by omega) fun h' tk hk => ⟨rfl, I.turnedL (t' := tk) (ch := [z, TI, TO, i1, i2]) (fun c o hb q =>
      hk c o (fun q' => hb (by simp [q'])) (fun q' => hb (by simp [q'])) (fun q' => hb (by simp [q'])) (fun q' => hb (by simp [q'])) q) hf⟩
  self := fun A i s Q E st h => wpAny_pyIter_zip st.1.1 h
theorem Sc.begins {X : Cx} {pins : List (Addr × Obj)} {σ : L2.St} {H : Hp} {s : Shared} (I : Inv X pins σ H s) : ∀ {c : Sc} {xs : List V} {u : Value}, c.at X.K H xs → RelV c.v u → ∃ (o : Obj) (H1 : Heap → Prop), Begins u o H1 ∧ H1 s.heap ∧ (∀ h it, h.get? it = some o → c.st it 0 h) ∧ ∀ b ∈ c.fp s.heap.objs.size, b < s.heap.objs.size ∨ b = s.heap.objs.size
  | .li a, xs, u, h, r => by
    cases r
    obtain ⟨its, rv, pl, _⟩ := I.list h
    refine ⟨_, _, begins_list a its.toArray, pl.isList, fun h it e => ⟨_, e, rfl, rfl⟩, fun b hb => ?_⟩
    have hb : b = s.heap.objs.size ∨ b = a := by simpa [Sc.fp] using hb
    rcases hb with hb | hb
    · exact .inr hb
    · exact .inl (by rw [hb]; exact pl.lt)
  | .tu a, xs, u, h, r => by
    cases r
    obtain ⟨its, rv, pl, _⟩ := I.tuple h
    refine ⟨_, _, begins_tuple a its.toArray, pl, fun h it e => ⟨_, e, rfl, rfl⟩, fun b hb => ?_⟩
    have hb : b = s.heap.objs.size ∨ b = a := by simpa [Sc.fp] using hb
    rcases hb with hb | hb
    · exact .inr hb
    · obtain ⟨o, e, _⟩ := pl
      exact .inl (by rw [hb]; exact Heap.lt_size e)
  | .tx z, xs, u, h, r => by
    obtain ⟨t, rfl⟩ := r
    refine ⟨_, _, begins_text z t, trivial, fun h it e => ⟨t, _, e, rfl, rfl⟩, fun b hb => ?_⟩
    have hb : b = s.heap.objs.size := by simpa [Sc.fp] using hb
    exact .inr hb
def Sc.src : Sc → Option Addr
  | .li a => some a
  | .tu a => some a
  | .tx _ => none
theorem Sc.fp_mem {c : Sc} {it b : Addr} (h : b ∈ c.fp it) : b = it ∨ c.src = some b := by
  cases c with
  | li a =>
    have hb : b = it ∨ b = a := by simpa [Sc.fp] using h
    rcases hb with h | h
    · exact .inl h
    · exact .inr (by rw [h]; rfl)
  | tu a =>
    have hb : b = it ∨ b = a := by simpa [Sc.fp] using h
    rcases hb with h | h
    · exact .inl h
    · exact .inr (by rw [h]; rfl)
  | tx z => exact .inl (by simpa [Sc.fp] using h)
theorem Sc.mem_fp {c : Sc} {it : Addr} : it ∈ c.fp it := by cases c <;> simp [Sc.fp]
theorem Sc.apart_of {c : Sc} {it : Addr} (h : ∀ a, c.src = some a → a ≠ it) : c.apart it := by
  cases c with
  | li a => exact h a rfl
  | tu a => exact h a rfl
  | tx z => trivial
theorem Sc.src_lt {X : Cx} {pins : List (Addr × Obj)} {σ : L2.St} {H : Hp} {s : Shared} (I : Inv X pins σ H s) : ∀ {c : Sc} {xs : List V} {a : Addr}, c.at X.K H xs → c.src = some a → a < s.heap.objs.size
  | .li a, xs, b, h, e => by
    cases e
    obtain ⟨its, rv, pl, _⟩ := I.list h
    exact pl.lt
  | .tu a, xs, b, h, e => by
    cases e
    obtain ⟨its, rv, ⟨o, e, _⟩, _⟩ := I.tuple h
    exact Heap.lt_size e
  | .tx z, xs, b, h, e => by cases e
def iZipX (K : PySem.W.Frag) (ta : TA) : TI := fun σ H R => ta σ H fun vs H1 => ∃ c1 c2 xs ys, vs = [Sc.v c1, Sc.v c2] ∧ c1.at K H1 xs ∧ c2.at K H1 ys ∧ R (ItzX K c1 c2 xs ys) H1
theorem pi_zipX {X : Cx} {e e2 : Expr} {ta : TA} {p pos tpos : Pos} {elts : List Expr} {kk : Nat} (hg : Gl X "zip") (hm : X.mg "zip" = none) (ha : PA X [e, e2] ta)
    (hs : starEach [e, e2] X.env = (false, eval e X.env) :: starEach [e2] X.env := by rfl) (hpl : (backTo pos (starEach [e2] X.env)).any (·.1) = false := by rfl) :
    PI X (.Tuple elts kk tpos) (.Call (.Name "zip" p) [e, e2] [] pos) (iZipX X.K ta) := by
  refine ⟨fun pins s σ H R I h => ?_⟩
  refine Call_ (ld_blt I hg hm PyProof.Rows.boot_zip (PyProof.Rows.callWith_type1 (thn (ha.run pos pins s σ H _ I h) fun us s1 ⟨vs, H1, I1, r1, q1⟩ => ?_) hs hpl))
  obtain ⟨c1, c2, xs, ys, ex, a1, a2, q⟩ := q1
  subst ex
  cases r1 with
  | cons r rr =>
    cases rr with
    | cons r' rr =>
      cases rr
      obtain ⟨o1, H1', B1, b1, k1, _⟩ := Sc.begins I1 a1 r
      obtain ⟨o2, H2', B2, b2, k2, _⟩ := Sc.begins I1 a2 r'
      have fresh5 : ∀ c, c ∈ [s1.heap.objs.size + 4, s1.heap.objs.size + 2, s1.heap.objs.size + 3, s1.heap.objs.size, s1.heap.objs.size + 1] → FpOk X pins H1 c := fun c hcm => by
        have e' : c = s1.heap.objs.size + 4 ∨ c = s1.heap.objs.size + 2 ∨ c = s1.heap.objs.size + 3 ∨ c = s1.heap.objs.size ∨ c = s1.heap.objs.size + 1 := by simpa using hcm
        have hle : s1.heap.objs.size ≤ c := by
          rcases e' with z | z | z | z | z
          · rw [z]; exact Nat.le_add_right _ _
          · rw [z]; exact Nat.le_add_right _ _
          · rw [z]; exact Nat.le_add_right _ _
          · rw [z]; exact Nat.le_refl _
          · rw [z]; exact Nat.le_add_right _ _
        exact I1.fpOk hle (I1.hok.fresh hle)
      have lt1 : ∀ a, c1.src = some a → a < s1.heap.objs.size := fun a e => Sc.src_lt I1 a1 e
      have lt2 : ∀ a, c2.src = some a → a < s1.heap.objs.size := fun a e => Sc.src_lt I1 a2 e
      refine zip_begins2 B1 B2 b1 b2 fun h' hz hTI hTO h1 h2 hsz hk => wpAny_pyIter_zip hz ?_
      have I2 : Inv X pins σ H1 { s1 with heap := h' } := I1.kept (t' := s1.toks) hk
      have g1 : ∀ b, s1.heap.objs.size < b → b ∉ c1.fp s1.heap.objs.size := fun b hb hm => by
        rcases Sc.fp_mem hm with e | e
        · exact absurd e (Nat.ne_of_gt hb)
        · exact absurd (lt1 b e) (Nat.not_lt_of_gt hb)
      have g2 : ∀ b, s1.heap.objs.size ≤ b → b ≠ s1.heap.objs.size + 1 → b ∉ c2.fp (s1.heap.objs.size + 1) := fun b hb hne hm => by
        rcases Sc.fp_mem hm with e | e
        · exact absurd e hne
        · exact absurd (lt2 b e) (Nat.not_lt_of_ge hb)
      have S : ZipSep2 (s1.heap.objs.size + 4) (s1.heap.objs.size + 2) (s1.heap.objs.size + 3) s1.heap.objs.size (s1.heap.objs.size + 1) (c1.fp s1.heap.objs.size) (c2.fp (s1.heap.objs.size + 1)) := by
        generalize s1.heap.objs.size = n at *
        exact ⟨by simp, by simp, by simp, by simp, Sc.mem_fp, g1 _ (by omega), g1 _ (by omega), by simp, Sc.mem_fp, g2 _ (by omega) (by simp), g2 _ (by omega) (by simp), g2 _ (Nat.le_refl _) (by simp), g1 _ (by omega)⟩
      exact ⟨s1.heap.objs.size + 4, [s1.heap.objs.size + 4, s1.heap.objs.size + 2, s1.heap.objs.size + 3, s1.heap.objs.size, s1.heap.objs.size + 1], _, _, H1, rfl, I2,
        turn_zipX S (by simp) (Sc.apart_of fun a e => Nat.ne_of_lt (lt1 a e)) (Sc.apart_of fun a e => Nat.ne_of_lt (Nat.lt_succ_of_lt (lt2 a e))), ⟨⟨hz, hTI, ⟨_, _, hTO⟩, k1 _ _ h1, k2 _ _ h2⟩, Nat.zero_le _⟩, fresh5, q⟩

def srcD : Dv → Option (List D)
  | .d (.list ds) => some ds
  | .d (.tuple ds) => some ds
  | .d (.str z) => some (z.cps.toList.map fun c => .str ⟨#[c]⟩)
  | _ => none
def zipD : List Dv → Store → Out (List Dv)
  | [x, y], μ => match srcD x, srcD y with
    | some ds, some es => .ok ((ds.zip es).map fun p => .d (.tuple [p.1, p.2])) μ
    | _, _ => .bad
  | _, _ => .bad
section
variable {G : GT} {w : Wd}
theorem RpA_signs {K : PySem.W.Frag} {I : Hp} : ∀ l : List Nat, RpA K I (l.map fun c => V.str ⟨#[c]⟩) (l.map fun c => PyData.str ⟨#[c]⟩)
  | [] => .nil
  | c :: l => .cons (.str _) (RpA_signs l)
theorem src_ok {v : V} {b : Dv} {ds : List D} (r : Rv G w v b) (h : srcD b = some ds) : ∃ c xs, v = Sc.v c ∧ c.at G.K w.I xs ∧ RpA G.K w.I xs ds := by
  unfold srcD at h
  split at h
  · cases h
    obtain ⟨a, xs, rfl, h1, h2⟩ := rv_lst r
    exact ⟨.li a, xs, rfl, h1, h2⟩
  · cases h
    obtain ⟨a, xs, rfl, h1, h2⟩ := rv_tup r
    exact ⟨.tu a, xs, rfl, h1, h2⟩
  · rename_i z
    cases h
    rw [rv_str r]
    exact ⟨.tx z, _, rfl, rfl, RpA_signs _⟩
  · cases h
theorem Sc.mono {K : PySem.W.Frag} {H H' : Hp} (e : Same H H') : ∀ {c : Sc} {xs : List V}, c.at K H xs → c.at K H' xs
  | .li a, _, h => seqL e h
  | .tu a, _, h => seqT e h
  | .tx z, _, h => h
theorem it_zip {c1 c2 : Sc} {xs ys : List V} {ds es : List D} (h1 : c1.at G.K w.I xs) (h2 : c2.at G.K w.I ys) (r1 : RpA G.K w.I xs ds) (r2 : RpA G.K w.I ys es) :
    ItR G w (ItzX G.K c1 c2 xs ys) ((ds.zip es).map fun p => .d (.tuple [p.1, p.2])) where
  go := fun i w' μ H hi l lay => by
    rw [List.length_map, List.length_zip] at hi
    have a := r1.length
    have b := r2.length
    exact ⟨Sc.mono (Same.trans l.1 lay.same) h1, Sc.mono (Same.trans l.1 lay.same) h2, by omega, by omega⟩
  yld := fun i b w' μ H x H' e l lay y => by
    obtain ⟨T, u, v, its, rfl, hT, rfl, hx, hy⟩ := y
    obtain ⟨d, hd, rd⟩ := r1.get hx
    obtain ⟨f, hf, rf⟩ := r2.get hy
    rw [List.getElem?_map] at e
    have ez : (ds.zip es)[i]? = some (d, f) := by rw [List.getElem?_zip_eq_some]; exact ⟨hd, hf⟩
    rw [ez] at e
    cases e
    obtain ⟨le, l2⟩ := lay.new hT (frT its [u, v])
    refine ⟨_, le, l2, ?_⟩
    exact .tup (SqS.of upd_same) (RpA.mono (Same.trans l.1 le.1) _ _ (.cons rd (.cons rf .nil)))
  stop := fun i w' μ H hi l lay => by
    rw [List.length_map, List.length_zip] at hi
    have a := r1.length
    have b := r2.length
    exact ⟨Sc.mono (Same.trans l.1 lay.same) h1, Sc.mono (Same.trans l.1 lay.same) h2, by omega⟩
end
theorem di_zip {X : Cx} {G : GT} {W : WX} {mas : MA} {a b : Expr} {p pos tpos : Pos} {elts : List Expr} {kk : Nat} (hK : X.K = G.K) (hg : Gl X "zip") (hm : X.mg "zip" = none) (ha : DA X G W [a, b] mas)
    (hs : starEach [a, b] X.env = (false, eval a X.env) :: starEach [b] X.env := by rfl) (hpl : (backTo pos (starEach [b] X.env)).any (·.1) = false := by rfl) :
    DI X G W (.Tuple elts kk tpos) (.Call (.Name "zip" p) [a, b] [] pos) (iRng zipD mas) := by
  refine PI.imp (pi_zipX hg hm ha hs hpl) ?_
  rintro σ H Q ⟨w, μ, ρ, hl, he, pp⟩
  refine tD.seq (k := fun ρ xs μ => zipD xs μ) hl he pp fun w1 μ1 H1 v bs l1 lay1 en1 r1 p1 => ?_
  unfold zipD at p1
  split at p1
  · split at p1
    · rename_i e1 e2
      cases r1 with
      | cons r t =>
        cases t with
        | cons r' t =>
          cases t
          obtain ⟨c1, xs, rfl, h1, q1⟩ := src_ok r e1
          obtain ⟨c2, ys, rfl, h2, q2⟩ := src_ok r' e2
          refine ⟨c1, c2, xs, ys, rfl, ?_, ?_, ?_⟩
          · rw [hK]; exact Sc.mono lay1.same h1
          · rw [hK]; exact Sc.mono lay1.same h2
          · rw [hK]; exact p1 w1 _ H1 w1.le_refl lay1 (it_zip h1 h2 q1 q2)
    · exact p1.elim
  · exact p1.elim
end DL

namespace DL
open PySem PySem.Spec PyProof.Rows L2

def keyOf : D → Option Key
  | .int i => some (.inl i)
  | .str z => some (.inr z)
  | _ => none
theorem keyOf_eq {d : D} {k : Key} (h : keyOf d = some k) : d = kD k := by
  cases d <;> first | (cases h; rfl) | cases h
theorem keyOf_kD (k : Key) : keyOf (kD k) = some k := by cases k <;> rfl
theorem rp_key {K : PySem.W.Frag} {I : Hp} {v : V} {k : Key} (r : Rp K I v (kD k)) : v = kV k := by
  cases k with
  | inl i => cases r; rfl
  | inr z => cases r; rfl
abbrev ML := List (ME × ME)
def prsM : ML → DEnv → Store → Out (List (Dv × Dv))
  | [], _, μ => .ok [] μ
  | (a, b) :: r, ρ, μ => (a ρ μ).bind fun x μ => (b ρ μ).bind fun y μ => (prsM r ρ μ).bind fun ps μ => .ok ((x, y) :: ps) μ
/-- the pairs as keys and data -/
def allP : List (Dv × Dv) → Option (List (Key × D))
  | [] => some []
  | (.d k, .d x) :: r => match keyOf k, allP r with
    | some k, some ps => some ((k, x) :: ps)
    | _, _ => none
  | _ :: _ => none
def dicOf (ps : List (Key × D)) : D := .dict (ps.map fun p => (kD p.1, p.2))
def dDicF (ps : List (Dv × Dv)) (μ : Store) : Out Dv := match allP ps with
  | some kvs => if (kvs.map Prod.fst).Nodup ∧ kvs.length ≤ 15 then .ok (.d (dicOf kvs)) μ else .bad
  | none => .bad
def eDic (l : ML) : ME := fun ρ μ => (prsM l ρ μ).bind dDicF
abbrev Rpp (G : GT) (w : Wd) : List (V × V) → List (Dv × Dv) → Prop := Paired fun p q => Rv G w p.1 q.1 ∧ Rv G w p.2 q.2
theorem Rpp.mono {G : GT} {w w' : Wd} (l : w.le w') {a : List (V × V)} {b : List (Dv × Dv)} (r : Rpp G w a b) : Rpp G w' a b := Paired.imp (fun _ _ z => ⟨z.1.mono l, z.2.mono l⟩) r
theorem Lay.stayO {G : GT} {w : Wd} {μ : Store} {H : Hp} {a : Addr} {o : HO} (l : Lay G w μ H) (h1 : w.I a = none) (h2 : a ∉ w.α) (h3 : w.F a = none) (e : H a = some o) : w.le (w.put a o) ∧ Lay G (w.put a o) μ H := by
  refine ⟨⟨same_upd h1, List.prefix_refl _, Same.refl _⟩, fun b u q => ?_, l.len, l.nd, l.lv, l.fr, l.fd, fun b u q => ?_, fun n c b q1 q2 => ?_⟩
  · by_cases z : b = a
    · subst z; have q : upd w.I b o b = some u := q; rw [upd_same] at q; rw [← q]; exact e
    · have q : upd w.I a o b = some u := q; rw [upd_ne z] at q; exact l.same b u q
  · have : b ≠ a := fun z => by rw [z, h3] at q; cases q
    show upd w.I a _ b = none
    rw [upd_ne this]; exact l.di b u q
  · have ap : b ≠ a := ne_get q2 h2
    exact CellAt.cong (w' := w.put a o) (fun z => by show upd w.I a _ b = none; rw [upd_ne ap]; exact z) ⟨same_upd h1, List.prefix_refl _⟩ rfl (l.at_ n c b q1 q2)
section
variable {G : GT} {W : WX}
theorem prs_imp : ∀ (l : ML) σ H Q, tD G W (Rpp G) (prsM l) σ H Q → tPairs (l.map fun p => (tE G W p.1, tE G W p.2)) σ H Q
  | [], σ, H, Q, ⟨w, μ, ρ, hl, he, p⟩ => p w [] H w.le_refl hl .nil
  | (a, b) :: r, σ, H, Q, ⟨w, μ, ρ, hl, he, p⟩ => by
    refine tD.seq (k := fun ρ x μ => (b ρ μ).bind fun y μ => (prsM r ρ μ).bind fun ps μ => .ok ((x, y) :: ps) μ) hl he p fun w1 μ1 H1 v x l1 lay1 en1 r1 p1 => ?_
    refine tD.seq (k := fun ρ y μ => (prsM r ρ μ).bind fun ps μ => .ok ((x, y) :: ps) μ) lay1 en1 p1 fun w2 μ2 H2 u y l2 lay2 en2 r2 p2 => ?_
    refine prs_imp r σ H2 _ (tD.seq (k := fun ρ ps μ => .ok ((x, y) :: ps) μ) lay2 en2 p2 fun w3 μ3 H3 vs ps l3 lay3 en3 r3 p3 => ?_)
    exact p3 w3 _ H3 w3.le_refl lay3 (.cons ⟨r1.mono (l2.trans l3), r2.mono l3⟩ r3)
theorem allP_ok {w : Wd} : ∀ {bs : List (Dv × Dv)} {kvs : List (Key × D)} {vs : List (V × V)}, allP bs = some kvs → Rpp G w vs bs → ∃ xs : List V, vs = (((kvs.map Prod.fst).zip xs).map fun kv => (kV kv.1, kv.2)) ∧ xs.length = kvs.length ∧ RpA G.K w.I xs (kvs.map Prod.snd)
  | [], _, _, h, r => by cases h; cases r; exact ⟨[], rfl, rfl, .nil⟩
  | (.d k, .d x) :: bs, kvs, _, h, r => by
    unfold allP at h
    cases hk : keyOf k with
    | none => rw [hk] at h; cases h
    | some k' =>
      cases hr : allP bs with
      | none => rw [hk, hr] at h; cases h
      | some ps =>
        rw [hk, hr] at h
        cases h
        cases r with
        | @cons v _ vs _ a t =>
          obtain ⟨xs, e, hl, ra⟩ := allP_ok hr t
          obtain ⟨v1, v2⟩ := v
          have a1 : Rp G.K w.I v1 k := a.1
          rw [keyOf_eq hk] at a1
          have := rp_key a1
          subst this
          refine ⟨v2 :: xs, by rw [e]; rfl, by simp [hl], .cons a.2 ra⟩
  | (.c _, _) :: _, _, _, h, _ => by cases h
  | (.f _, _) :: _, _, _, h, _ => by cases h
  | (.d _, .c _) :: _, _, _, h, _ => by cases h
  | (.d _, .f _) :: _, _, _, h, _ => by cases h
theorem mergeK_new : ∀ (more kvs : List (Key × V)), ((kvs ++ more).map Prod.fst).Nodup → mergeK kvs more = kvs ++ more
  | [], kvs, _ => by rw [List.append_nil]; rfl
  | p :: r, kvs, h => by
    have hn : (kvs.any fun kv => decide (kv.1 = p.1)) = false := by
      rw [List.any_eq_false]
      intro q hq
      simp only [decide_eq_true_eq]
      intro e
      rw [List.map_append, List.nodup_append] at h
      exact h.2.2 _ (List.mem_map_of_mem hq) _ (by rw [List.map_cons]; exact List.mem_cons_self) e
    have : putK kvs p.1 p.2 = kvs ++ [p] := by
      unfold putK
      rw [if_neg (by rw [hn]; simp)]
    show mergeK (putK kvs p.1 p.2) r = _
    rw [this, mergeK_new r (kvs ++ [p]) (by rw [List.append_assoc]; exact h), List.append_assoc]
    rfl
theorem RpK_of {K : PySem.W.Frag} {I : Hp} : ∀ {kvs : List (Key × D)} {xs : List V}, RpA K I xs (kvs.map Prod.snd) → RpK K I ((kvs.map Prod.fst).zip xs) (kvs.map fun p => (kD p.1, p.2))
  | [], _, h => by cases h; exact .nil
  | p :: kvs, _, h => by
    cases h with
    | cons a t => exact .cons a (RpK_of t)
theorem dic_imp {l : ML} : ∀ σ H Q, tE G W (eDic l) σ H Q → tDisp (l.map fun p => (tE G W p.1, tE G W p.2)) σ H Q := by
  rintro σ H Q ⟨w, μ, ρ, hl, he, p⟩
  intro a na
  obtain ⟨n1, n2, n3⟩ := hl.na na
  have lay0 := hl.other n1 n2 n3 (.dK [])
  obtain ⟨lp, layp⟩ := lay0.priv n1 n2 n3 upd_same
  refine prs_imp l σ _ _ ⟨w.priv a (.dK []), μ, ρ, layp, he.mono lp, ?_⟩
  unfold eDic at p
  cases e : prsM l ρ μ with
  | bad => rw [e] at p; exact p.elim
  | ex x μ1 => rw [e] at p; exact fun w' c d H' l' lay' r' => p w' c d H' (lp.trans l') lay' r'
  | ok ps μ1 =>
    rw [e] at p
    intro w1 vs H1 l1 lay1 r1
    have p : Pst G W σ (Rv G) w (dDicF ps μ1) Q := p
    unfold dDicF at p
    cases ea : allP ps with
    | none => rw [ea] at p; exact p.elim
    | some kvs =>
      rw [ea] at p
      have p : Pst G W σ (Rv G) w (if (kvs.map Prod.fst).Nodup ∧ kvs.length ≤ 15 then .ok (.d (dicOf kvs)) μ1 else .bad) Q := p
      by_cases hz : (kvs.map Prod.fst).Nodup ∧ kvs.length ≤ 15
      · rw [if_pos hz] at p
        obtain ⟨xs, ev, hlx, ra⟩ := allP_ok ea r1
        have hm : mergeK [] ((kvs.map Prod.fst).zip xs) = (kvs.map Prod.fst).zip xs := by
          refine mergeK_new _ [] ?_
          rw [List.nil_append, List.map_fst_zip (by rw [List.length_map]; omega)]
          exact hz.1
        obtain ⟨le2, lay2, e2, i2, a2⟩ := lay1.unp l1 n3 (.dK (mergeK [] ((kvs.map Prod.fst).zip xs)))
        obtain ⟨le3, lay3⟩ := lay2.stayO i2 a2 (if_pos rfl) upd_same
        refine ⟨e2, (kvs.map Prod.fst).zip xs, ev, by rw [List.length_zip, List.length_map]; omega, ?_⟩
        refine p _ (.ref a) _ (le2.trans le3) lay3 ?_
        refine .dic (kvs := (kvs.map Prod.fst).zip xs) ?_ (RpK.mono le3.1 _ _ (RpK_of ra))
        rw [hm]
        exact upd_same
      · rw [if_neg hz] at p; exact p.elim
end
/-- the written dict's parts -/
abbrev DPs (X : Cx) (G : GT) (W : WX) (pos : Pos) (ks : List (Option Expr)) (vs : List Expr) (l : ML) : Prop := PPs X pos ks vs (l.map fun p => (tE G W p.1, tE G W p.2))
section
variable {X : Cx} {G : GT} {W : WX} {pos : Pos}
theorem dp_nil : DPs X G W pos [] [] [] := pps_nil
theorem dp_cons {k v : Expr} {ks : List (Option Expr)} {vs : List Expr} {mk mv : ME} {l : ML} (hk : DE X G W k mk) (hv : DE X G W v mv) (hr : DPs X G W pos ks vs l) : DPs X G W pos (some k :: ks) (v :: vs) ((mk, mv) :: l) := pps_cons hk hv hr
theorem de_dic {ks : List (Option Expr)} {vs : List Expr} {l : ML} (h : DPs X G W pos ks vs l) (hall : ks.all (·.isSome) = true := by rfl) (hl : ks.length = vs.length := by rfl) (h0 : ks ≠ [] := by intro z; cases z) (h15 : ks.length ≤ 15 := by decide) : DE X G W (.Dict ks vs pos) (eDic l) := PE.imp (pe_disp h hall hl h0 h15) dic_imp
end
def findD : List (D × D) → Key → Option D
  | [], _ => none
  | (a, v) :: r, k => if keyOf a = some k then some v else findD r k
def dDGet : Op2 := fun x y μ => match x, y with
  | .d (.dict ps), .d k => match keyOf k with
    | some k => match findD ps k with
      | some v => .ok (.d v) μ
      | none => .bad
    | none => .bad
  | _, _ => .bad
end DL

namespace DL
open PySem PySem.Spec PyProof.Rows L2
def dcM (g : MG) (tt : MT) (tk tv : ME) (ρ : DEnv) : List (Key × D) → List Dv → Store → Out (List (Key × D))
  | acc, [], μ => .ok acc μ
  | acc, b :: bs, μ => (g b ρ μ).gb fun ρ' μ => (tt ρ' μ).gb fun k μ => if k = true then (tk ρ' μ).gb fun x μ => (tv ρ' μ).gb fun y μ => match x, y with
      | .d xk, .d y => match keyOf xk with
        | some k => if (acc.any fun p => decide (p.1 = k)) = true then .bad else dcM g tt tk tv ρ (acc ++ [(k, y)]) bs μ
        | none => .bad
      | _, _ => .bad
    else dcM g tt tk tv ρ acc bs μ
def eDc (mi : MI) (g : MG) (tt : MT) (tk tv : ME) (vs : List Nat) : ME := fun ρ μ => (mi ρ μ).bind fun bs μ => if bs.length ≤ sizeLine then (dcM g tt tk tv (wipeD ρ vs) [] bs μ).gb fun kvs μ => .ok (.d (dicOf kvs)) μ else .bad
def zK (acc : List (Key × D)) (us : List V) : List (Key × V) := (acc.map Prod.fst).zip us
theorem putK_zK {acc : List (Key × D)} {us : List V} {k : Key} {d : D} {v : V} (hl : us.length = acc.length) (hn : k ∉ acc.map Prod.fst) : putK (zK acc us) k v = zK (acc ++ [(k, d)]) (us ++ [v]) := by
  have hn' : ((zK acc us).any fun kv => decide (kv.1 = k)) = false := by
    rw [List.any_eq_false]
    intro q hq
    simp only [decide_eq_true_eq]
    intro e
    have := (List.of_mem_zip (a := q.1) (b := q.2) hq).1
    rw [e] at this
    exact hn this
  unfold putK
  rw [if_neg (by rw [hn']; simp)]
  unfold zK
  rw [List.map_append, List.zip_append (by rw [List.length_map]; exact hl.symm)]
  rfl
theorem RpA_snoc {K : PySem.W.Frag} {I : Hp} {v : V} {d : D} : ∀ {us : List V} {ds : List D}, RpA K I us ds → Rp K I v d → RpA K I (us ++ [v]) (ds ++ [d])
  | _, _, .nil, r => .cons r .nil
  | _, _, .cons a t, r => .cons a (RpA_snoc t r)
section
variable {X : Cx} {G : GT} {W : WX} {mi : MI} {g : MG} {tt : MT} {tk tv : ME} {S vs : List Nat}
theorem dc_imp (hS : ∀ i ∈ S, i ∈ vs) : ∀ σ H Q, tE G W (eDc mi g tt tk tv vs) σ H Q → tDc (tI G W mi) (tG G S g) (tT G W0 tt) (tE G W0 tk) (tE G W0 tv) vs σ H Q := by
  rintro σ H Q ⟨w, μ, ρ, hl, he, p⟩
  refine tD.seq (k := fun ρ bs μ => if bs.length ≤ sizeLine then (dcM g tt tk tv (wipeD ρ vs) [] bs μ).gb fun kvs μ => Out.ok (Dv.d (dicOf kvs)) μ else .bad) hl he p fun w1 μ1 H1 J bs l1 lay1 en1 it p1 => ?_
  intro a na
  by_cases hz : bs.length ≤ sizeLine
  case neg => rw [if_neg hz] at p1; exact p1.elim
  rw [if_pos hz] at p1
  obtain ⟨n1, n2, n3⟩ := lay1.na na
  refine ⟨fun i m H => m = bs.length - i ∧ i ≤ bs.length ∧ ∃ w2 μ2 us acc, w1.le w2 ∧ Lay G w2 μ2 H ∧ H a = some (.dK (zK acc us)) ∧ w2.I a = none ∧ a ∉ w2.α ∧ w2.F a = none ∧ us.length = acc.length ∧ RpA G.K w2.I us (acc.map Prod.snd) ∧ acc.length ≤ i ∧
    Pst G W σ (Rv G) w2 ((dcM g tt tk tv (wipeD ρ vs) acc (bs.drop i) μ2).gb fun kvs μ => Out.ok (Dv.d (dicOf kvs)) μ) Q, ⟨bs.length, by simp, Nat.zero_le _, w1, μ1, [], [], w1.le_refl, lay1.other n1 n2 n3 _, upd_same, n1, n2, n3, rfl, .nil, Nat.le_refl _, p1⟩, ?_⟩
  rintro i m H2 ⟨rfl, hi, w2, μ2, us, acc, l2, lay2, e2, i2, a2, f2, hu, r2, hacc, p2⟩
  by_cases hlt : i < bs.length
  · refine .inr ⟨it.go i w2 μ2 H2 hlt l2 lay2, fun H => ∃ w2 μ2 us acc, w1.le w2 ∧ Lay G w2 μ2 H ∧ H a = some (.dK (zK acc us)) ∧ w2.I a = none ∧ a ∉ w2.α ∧ w2.F a = none ∧ us.length = acc.length ∧ RpA G.K w2.I us (acc.map Prod.snd) ∧ acc.length ≤ i + 1 ∧
      Pst G W σ (Rv G) w2 ((dcM g tt tk tv (wipeD ρ vs) acc (bs.drop (i + 1)) μ2).gb fun kvs μ => Out.ok (Dv.d (dicOf kvs)) μ) Q, fun H' q => ⟨bs.length - (i + 1), by omega, rfl, hlt, q⟩, fun x H' y => ?_⟩
    have eb : bs[i]? = some bs[i] := by simp [hlt]
    obtain ⟨lp, layp⟩ := lay2.priv i2 a2 f2 e2
    obtain ⟨w3, l3, lay3, r3⟩ := it.yld i _ _ μ2 H2 x H' eb (l2.trans lp) layp y
    have en3 : EnvR G w3 (wipe σ vs) (wipeD ρ vs) := (en1.wipe vs).mono ((l2.trans lp).trans l3)
    refine ⟨w3, μ2, wipeD ρ vs, bs[i], lay3, en3, r3, ?_⟩
    rw [List.drop_eq_getElem_cons hlt] at p2
    unfold dcM at p2
    cases q : g bs[i] (wipeD ρ vs) μ2 with
    | bad => rw [q] at p2; exact p2.elim
    | ex _ _ => rw [q] at p2; exact p2.elim
    | ok ρ4 μ4 =>
      rw [q] at p2
      intro w4 σ4 H4 l4 lay4 en4 ag
      refine ⟨wipe_agr ag hS, w4, μ4, ρ4, lay4, en4, ?_⟩
      cases q5 : tt ρ4 μ4 with
      | bad => simp only [gb_ok, q5] at p2; exact p2.elim
      | ex _ _ => simp only [gb_ok, q5] at p2; exact p2.elim
      | ok k μ5 =>
        simp only [gb_ok, q5] at p2
        intro w5 v5 H5 l5 lay5 r5
        have r5 : v5 = k := r5
        subst r5
        have lw5 : (w2.priv a (.dK (zK acc us))).le w5 := (l3.trans l4).trans l5
        cases v5 with
        | false =>
          simp only [Bool.false_eq_true, if_false] at p2
          obtain ⟨le6, lay6, e6, i6, a6⟩ := lay5.unp lw5 f2 (.dK (zK acc us))
          have hH : upd H5 a (.dK (zK acc us)) = H5 := by
            funext b
            by_cases z : b = a
            · subst z; rw [upd_same, e6]
            · rw [upd_ne z]
          rw [hH] at lay6
          exact ⟨w5.unp a, μ5, us, acc, l2.trans le6, lay6, e6, i6, a6, if_pos rfl, hu, RpA.mono le6.1 _ _ r2, by omega, Pst.mono le6 p2⟩
        | true =>
          simp only [if_true] at p2
          refine ⟨w5, μ5, ρ4, lay5, en4.mono l5, ?_⟩
          cases q6 : tk ρ4 μ5 with
          | bad => rw [q6] at p2; exact p2.elim
          | ex _ _ => rw [q6] at p2; exact p2.elim
          | ok y μ6 =>
            rw [q6] at p2
            intro w6 v6 H6 l6 lay6 r6
            refine ⟨w6, μ6, ρ4, lay6, (en4.mono l5).mono l6, ?_⟩
            cases q7 : tv ρ4 μ6 with
            | bad => simp only [gb_ok, q7] at p2; exact p2.elim
            | ex _ _ => simp only [gb_ok, q7] at p2; exact p2.elim
            | ok y2 μ7 =>
              simp only [gb_ok, q7] at p2
              intro w7 v7 H7 l7 lay7 r7
              split at p2
              · rename_i xk y3
                cases hk : keyOf xk with
                | none => simp only [hk] at p2; exact p2.elim
                | some kk =>
                  simp only [hk] at p2
                  by_cases hn' : (acc.any fun p => decide (p.1 = kk)) = true
                  · rw [if_pos hn'] at p2; exact p2.elim
                  · rw [if_neg hn'] at p2
                    have hn : kk ∉ acc.map Prod.fst := fun hm => hn' (by
                      obtain ⟨q, hq, e⟩ := List.mem_map.mp hm
                      exact List.any_eq_true.mpr ⟨q, hq, decide_eq_true e⟩)
                    have r6 : Rp G.K w6.I v6 xk := r6
                    rw [keyOf_eq hk] at r6
                    obtain ⟨le8, lay8, e8, i8, a8⟩ := lay7.unp ((lw5.trans l6).trans l7) f2 (.dK (zK (acc ++ [(kk, y3)]) (us ++ [v7])))
                    refine ⟨zK acc us, kk, rp_key r6, e8, ?_, w7.unp a, μ7, us ++ [v7], acc ++ [(kk, y3)], l2.trans le8, ?_, ?_, i8, a8, if_pos rfl, by simp [hu], ?_, by simp; omega, Pst.mono le8 p2⟩
                    · unfold zK
                      rw [List.length_zip, List.length_map]
                      omega
                    · rw [putK_zK hu hn (d := y3)]; exact lay8
                    · rw [putK_zK hu hn (d := y3)]; exact upd_same
                    · rw [List.map_append]
                      exact RpA_snoc (RpA.mono le8.1 _ _ r2) r7
              · exact p2.elim
  · refine .inl ⟨it.stop i w2 μ2 H2 (by omega) l2 lay2, ?_⟩
    rw [List.drop_of_length_le (by omega)] at p2
    simp only [dcM, gb_ok] at p2
    obtain ⟨le3, lay3⟩ := lay2.stayO i2 a2 f2 e2
    exact p2 _ (.ref a) _ le3 lay3 (.dic (kvs := zK acc us) upd_same (RpK.mono le3.1 _ _ (RpK_of r2)))
theorem de_dc {kx vx tg iter : Expr} {ifs : List Expr} {scope : Scope} (own : List (Str × Nat)) {pos : Pos} (hc : X.calm = true) (hN : X.N.Nodup) (hi : DI X G W tg iter mi) (ok : BlkOk X.N X.env.scope scope own)
    (hg : ∀ (s : Shared) (H : Hp) (C : Addr) (cl : List (Str × Addr)) (fp : List Addr), DG (X.blk s H scope (compEnvC scope cl C X.env) fp) G S tg g) (ht : ∀ (s : Shared) (H : Hp) (C : Addr) (cl : List (Str × Addr)) (fp : List Addr), PTs (X.blk s H scope (compEnvC scope cl C X.env) fp) ifs (tT G W0 tt))
    (hk : ∀ (s : Shared) (H : Hp) (C : Addr) (cl : List (Str × Addr)) (fp : List Addr), DE (X.blk s H scope (compEnvC scope cl C X.env) fp) G W0 kx tk)
    (he : ∀ (s : Shared) (H : Hp) (C : Addr) (cl : List (Str × Addr)) (fp : List Addr), DE (X.blk s H scope (compEnvC scope cl C X.env) fp) G W0 vx tv) (hS : ∀ i ∈ S, i ∈ own.map (·.2) := by decide) (hs : ∀ x, foldedSetIterable iter X.env x = pure x := by intro _; rfl) :
    DE X G W (.DictComp kx vx [⟨tg, iter, ifs, 0⟩] scope pos) (eDc mi g tt tk tv (own.map (·.2))) := PE.imp (pe_dc hc hN hi ok hg ht hk he hs) (dc_imp hS)
end
end DL

namespace DL
open PySem PySem.Spec PyProof.Rows L2
/-- numbers, texts -/
def dIpAdd : Op2 := fun x y μ => match x, y with
  | .d (.int i), .d (.int j) => .ok (.d (.int (i + j))) μ
  | .d (.str a), .d (.str b) => if a.length + b.length ≤ sizeLine then .ok (.d (.str (a ++ b))) μ else .bad
  | _, _ => .bad
def rIpAdd : TIp := fun x y H Q => ipI (fun i j => i + j) x y H Q ∨ rAddS x y H Q
section
variable {X : Cx} {G : GT}
end
@[simp] theorem sAug_r {i : Nat} {f : Op2} {m : ME} {ρ : DEnv} {μ : Store} : sAug i m f ρ μ = match ρ[i]? with
  | some (some b) => (m ρ μ).bind fun y μ => (f b y μ).bind fun z μ => .ok (.nx (ρ.set i (some z))) μ
  | _ => .bad := id rfl
@[simp] theorem dIpAdd_ii {x y : Int} {μ : Store} : dIpAdd (.d (.int x)) (.d (.int y)) μ = .ok (.d (.int (x + y))) μ := id rfl

end DL

namespace DL
open PySem PySem.Spec PyProof.Rows L2
def isLst : Dv → Store → Bool
  | .c n, μ => match μ[n]? with
    | some (.lst _) => true
    | _ => false
  | _, _ => false
section
variable {G : GT}
theorem cell_lst {w : Wd} {μ : Store} {H : Hp} {n : Nat} {xs : List Dv} {v : V} (l : Lay G w μ H) (r : Rv G w v (.c n)) (e : μ[n]? = some (.lst xs)) : ∃ a vs, v = .ref a ∧ w.α[n]? = some a ∧ w.I a = none ∧ H a = some (.lst vs) ∧ Rvs G w vs xs := by
  obtain ⟨a, ha, rfl⟩ := r
  obtain ⟨h1, vs, h2, h3⟩ := l.at_ n _ a e ha
  exact ⟨a, vs, rfl, ha, h1, h2, h3⟩
theorem ty_lst : OkT G "list" isLst := by
  intro w μ H x b l r h
  unfold isLst at h
  split at h
  · rename_i n
    split at h
    · rename_i xs e
      obtain ⟨a, vs, rfl, _, _, h2, _⟩ := cell_lst l r e
      exact .inl ⟨rfl, vs, SqL.of h2⟩
    · cases h
  · cases h
theorem Rvs_app {w : Wd} : ∀ {vs us : List V} {bs cs : List Dv}, Rvs G w vs bs → Rvs G w us cs → Rvs G w (vs ++ us) (bs ++ cs)
  | _, _, _, _, .nil, h => h
  | _, _, _, _, .cons r t, h => .cons r (Rvs_app t h)
def dAppend : Dv → OpN := fun x bs μ => match x, bs with
  | .c n, [b] => match μ[n]? with
    | some (.lst xs) => if xs.length < sizeLine then .ok (.d .none) (μ.set n (.lst (xs ++ [b]))) else .bad
    | _ => .bad
  | _, _ => .bad
theorem ok_append : OkM G rAppend dAppend := by
  intro W σ w μ H x xs b bs Q l r rr p
  unfold dAppend at p
  split at p
  · rename_i n y
    split at p
    · rename_i ys e
      split at p
      · rename_i hz
        obtain ⟨a, vs, rfl, ha, hI, h2, h3⟩ := cell_lst l r e
        cases rr with
        | @cons u _ us _ ru t =>
          cases t
          refine ⟨a, vs, _, rfl, rfl, h2, by rw [Paired.length h3]; exact hz, ?_⟩
          refine p w _ _ w.le_refl (l.write ha hI fun H' e' => ⟨hI, _, e', Rvs_app h3 (.cons ru .nil)⟩) .non
      · exact p.elim
    · exact p.elim
  · exact p.elim
def dPop : Dv → OpN := fun x bs μ => match x, bs with
  | .c n, [] => match μ[n]? with
    | some (.lst xs) => match xs[xs.length - 1]? with
      | some b => .ok b (μ.set n (.lst xs.dropLast))
      | none => .bad
    | _ => .bad
  | _, _ => .bad
def dExtend : Dv → OpN := fun x bs μ => match x, bs with
  | .c n, [.c m] => match μ[n]?, μ[m]? with
    | some (.lst xs), some (.lst ys) => if xs.length + ys.length ≤ sizeLine then .ok (.d .none) (μ.set n (.lst (xs ++ ys))) else .bad
    | _, _ => .bad
  | _, _ => .bad
end
end DL

namespace DL
open PySem PySem.Spec PyProof.Rows L2
def forC (g : MG) (mb : MS) (n : Nat) : Nat → Nat → DEnv → Store → Out Fl
  | 0, _, _, _ => .bad
  | k + 1, i, ρ, μ => match μ[n]? with
    | some (.lst xs) => match xs[i]? with
      | none => .ok (.nx ρ) μ
      | some b => (g b ρ μ).gb fun ρ μ => (mb ρ μ).bind fun f μ => match f with
        | .nx ρ => forC g mb n k (i + 1) ρ μ
        | .ct ρ => forC g mb n k (i + 1) ρ μ
        | .bk ρ => .ok (.nx ρ) μ
        | .rt v => .ok (.rt v) μ
    | _ => .bad
def forCb (g : MG) (mb : MS) (k : Nat) (b : Dv) (ρ : DEnv) (μ : Store) : Out Fl := match b with
  | .c n => forC g mb n k 0 ρ μ
  | _ => .bad
def sForC (mo : ME) (g : MG) (mb : MS) (k : Nat) : MS := fun ρ μ => (mo ρ μ).bind fun b μ => forCb g mb k b ρ μ
section
variable {X : Cx} {G : GT} {W : WX} {tg e : Expr} {body : List Stmt} {mo : ME} {g : MG} {mb : MS} {S : List Nat} {pos : Pos}
end
end DL

namespace DL
open PySem PySem.Spec PyProof.Rows L2
def lcC (g : MG) (tt : MT) (te : ME) (ρ : DEnv) (n : Nat) : Nat → Nat → Store → Out (List Dv)
  | 0, _, _ => .bad
  | k + 1, i, μ => match μ[n]? with
    | some (.lst xs) => match xs[i]? with
      | none => .ok [] μ
      | some b => (g b ρ μ).gb fun ρ' μ => (tt ρ' μ).gb fun t μ => if t = true then (te ρ' μ).gb fun y μ => (lcC g tt te ρ n k (i + 1) μ).gb fun ys μ => .ok (y :: ys) μ else lcC g tt te ρ n k (i + 1) μ
    | _ => .bad
def lcCb (fin : OpN) (g : MG) (tt : MT) (te : ME) (vs : List Nat) (k : Nat) (ρ : DEnv) (b : Dv) (μ : Store) : Out Dv := match b with
  | .c n => if k ≤ sizeLine then (lcC g tt te (wipeD ρ vs) n k 0 μ).gb fin else .bad
  | _ => .bad
def eLcC (fin : OpN) (mo : ME) (g : MG) (tt : MT) (te : ME) (vs : List Nat) (k : Nat) : ME := fun ρ μ => (mo ρ μ).bind fun b μ => lcCb fin g tt te vs k ρ b μ
section
variable {X : Cx} {G : GT} {W : WX} {mo : ME} {g : MG} {tt : MT} {te : ME} {S vs : List Nat} {fin : OpN}
/-- what a comprehension's walk asks -/
def LCK (G : GT) (S : List Nat) (g : MG) (tt : MT) (te : ME) (vs : List Nat) (σ : L2.St) (Q : VK) (J : It) (H1 : Hp) : Prop := ∀ D, H1 D = none → ∃ W : Nat → Nat → Hp → Prop, (∃ m, W 0 m (upd H1 D (.lst []))) ∧ ∀ i m H, W i m H → (J.stop i H ∧ Q (.ref D) H) ∨ (J.go i H ∧ ∃ Nx : Hp → Prop, (∀ H', Nx H' → ∃ m', m' < m ∧ W (i + 1) m' H') ∧
      ∀ x H', J.yld i H x H' → tG G S g x (L2.wipe σ vs) H' fun σ2 H2 => L2.wipe σ2 vs = L2.wipe σ vs ∧ tT G W0 tt σ2 H2 fun b H3 => if b = true then tE G W0 te σ2 H3 fun y H4 => ∃ acc, H4 D = some (.lst acc) ∧ acc.length < sizeLine ∧ Nx (upd H4 D (.lst (acc ++ [y]))) else Nx H3)
end
end DL

namespace DL
open PySem PySem.Spec PyProof.Rows L2
def dToTup : Op1 := fun x μ => match itemsT x with
  | some _ => .ok x μ
  | none => match items x μ with
    | some bs => dTup bs μ
    | none => .bad
def dToList (fin : OpN) : OpN := n1 fun b μ => match itemsA b μ with
  | some bs => fin bs μ
  | none => .bad
section
variable {X : Cx} {G : GT} {W : WX} {a : Expr} {m : ME} {p pos : Pos}
def kTupS (K : PySem.W.Frag) (x : V) (H : Hp) (Q : VK) : Prop :=
  (∃ p xs, x = .ref p ∧ SqL K H p xs ∧ ∀ q its, H q = none → Q (.ref q) (upd H q (frT its xs))) ∨ (∃ p xs, x = .ref p ∧ SqT K H p xs ∧ Q (.ref p) H)
theorem rl_tupleS (pins : List (Addr × Obj)) (s : Shared) (σ : L2.St) (H : Hp) (x : V) (v : Value) (Q : VK) (I : Inv X pins σ H s) (r : RelV x v) (h : kTupS X.K x H Q) :
    wpAny (model X.prog X.w) X.A (call (.type "tuple") [v]) (EP X pins σ Q) X.xe s := by
  rcases h with ⟨p, xs, rfl, hs, q⟩ | h
  · obtain rfl : v = .ref p := r
    obtain ⟨its, rv, pl, hz⟩ := I.list hs
    refine call_tuple_list pl.isList (fun h' hk => ?_) (by rw [List.size_toArray, ← rv.length]; exact hz)
    have I1 : Inv X pins σ H { s with heap := h' } := I.kept (t' := s.toks) hk
    have I2 : Inv X pins σ (upd H h'.objs.size (frT its.toArray xs)) { s with heap := h'.push { cls := .type "tuple", data := .seq its.toArray } } :=
      I1.laid (t' := s.toks) (fun b o e => Heap.get?_push_of_some _ e) (Nat.le_refl _) (frT_ok hz rv (Heap.get?_push_size _ rfl))
    exact ⟨.ref h'.objs.size, _, I2, rfl, q _ _ (I1.hok.fresh (Nat.le_refl _))⟩
  · exact rl_tuple pins s σ H x v Q I r (.inr h)
theorem pe_tupleOfS {a : Expr} {ta : TE} {p pos : Pos} (hg : Gl X "tuple") (hm : X.mg "tuple" = none) (ha : PE X a ta) (na : starEach [a] X.env = (false, eval a X.env) :: starEach [] X.env := by rfl) :
    PE X (.Call (.Name "tuple" p) [a] [] pos) (tThen ta (kTupS X.K)) := by
  refine ⟨fun pins s σ H Q I h => ?_⟩
  exact Call_ (ld_blt I hg hm boot_tuple (PyProof.Rows.callWith_type1 (one_arg ha I h (fun v s2 x H2 I2 r q => rl_tupleS pins s2 σ H2 x v Q I2 r q) na) na))
theorem de_tupleOf (hK : X.K = G.K) (hg : Gl X "tuple") (hm : X.mg "tuple" = none) (ha : DE X G W a m) (na : starEach [a] X.env = (false, eval a X.env) :: starEach [] X.env := by rfl) : DE X G W (.Call (.Name "tuple" p) [a] [] pos) (e1 dToTup m) := by
  refine PE.imp (pe_tupleOfS hg hm ha na) ?_
  rintro σ H Q ⟨w, μ, ρ, hl, he, pp⟩
  refine tD.seq (k := fun ρ x μ => dToTup x μ) hl he pp fun w1 μ1 H1 v b l1 lay1 en1 r1 p1 => ?_
  unfold dToTup at p1
  split at p1
  · rename_i bs e
    unfold itemsT at e
    split at e
    · rename_i ds
      cases e
      obtain ⟨c, vs, rfl, h1, h2⟩ := rv_tup r1
      exact .inr ⟨c, vs, rfl, by rw [hK]; exact seqT lay1.same h1, p1 w1 _ H1 w1.le_refl lay1 r1⟩
    · cases e
  · split at p1
    · rename_i bs e
      obtain ⟨c, vs, rfl, h1, h2⟩ := items_ok lay1 r1 e
      obtain ⟨_, q⟩ := tup_new lay1 h2 p1
      exact .inl ⟨c, vs, rfl, by rw [hK]; exact h1, q⟩
    · exact p1.elim
def rListOf (K : PySem.W.Frag) : List V → Hp → VK → Prop := fun xs H Q => ∃ p ys, xs = [.ref p] ∧ (SqL K H p ys ∨ SqT K H p ys) ∧ ∀ l, H l = none → Q (.ref l) (upd H l (.lst ys))
end
end DL

namespace DL
open PySem PySem.Spec PyProof.Rows L2
def forE (g : MG) (mb : MS) (n : Nat) : Nat → Nat → DEnv → Store → Out Fl
  | 0, _, _, _ => .bad
  | k + 1, i, ρ, μ => match μ[n]? with
    | some (.lst xs) => match xs[i]? with
      | none => .ok (.nx ρ) μ
      | some (.d x) => (g (.d (.tuple [.int i, x])) ρ μ).gb fun ρ μ => (mb ρ μ).bind fun f μ => match f with
        | .nx ρ => forE g mb n k (i + 1) ρ μ
        | .ct ρ => forE g mb n k (i + 1) ρ μ
        | .bk ρ => .ok (.nx ρ) μ
        | .rt v => .ok (.rt v) μ
      | some _ => .bad
    | _ => .bad
def forEb (g : MG) (mb : MS) (k : Nat) (b : Dv) (ρ : DEnv) (μ : Store) : Out Fl := match b with
  | .c n => forE g mb n k 0 ρ μ
  | _ => .bad
def sForE (mo : ME) (g : MG) (mb : MS) (k : Nat) : MS := fun ρ μ => (mo ρ μ).bind fun b μ => forEb g mb k b ρ μ
end DL

namespace DL
open PySem PySem.Spec PyProof.Rows L2
theorem Lay.adopt {G : GT} {w : Wd} {μ : Store} {H : Hp} (l : Lay G w μ H) {p : Addr} (h1 : w.I p = none) (h2 : p ∉ w.α) (h3 : w.F p = none) {o : HO} {c : Cell} (e0 : H p = some o) (hc : ∀ H', H' p = some o → CellAt G (w.ext p) H' p c) : w.le (w.ext p) ∧ Lay G (w.ext p) (μ ++ [c]) H := by
  have l2 := l
  refine ⟨⟨Same.refl _, List.prefix_append _ _, Same.refl _⟩, l2.same, by simp [l2.len], ?_, fun a ha => ?_, l2.fr, fun a ha => ?_, l2.di, fun n c' a e q => ?_⟩
  · refine List.nodup_append.mpr ⟨l.nd, by simp, fun a ha b hb => ?_⟩
    simp at hb
    subst hb
    exact ne_mem ha h2
  · rcases List.mem_append.mp ha with ha | ha
    · exact l2.lv a ha
    · simp at ha; subst ha; exact ⟨o, e0⟩
  · rcases List.mem_append.mp ha with ha | ha
    · exact l2.fd a ha
    · simp at ha; subst ha; exact h3
  · by_cases hn : n < μ.length
    · rw [List.getElem?_append_left hn] at e
      have q : (w.α ++ [p])[n]? = some a := q
      rw [List.getElem?_append_left (by rw [l.len]; exact hn)] at q
      exact CellAt.cong (w := w) (w' := w.ext p) (fun z => z) ⟨Same.refl _, List.prefix_append _ _⟩ rfl (l2.at_ n c' a e q)
    · have hn' : n = μ.length := by
        have := (List.getElem?_eq_some_iff.mp e).1
        simp at this
        omega
      subst hn'
      have q : (w.α ++ [p])[μ.length]? = some a := q
      rw [← l.len, List.getElem?_append_right (Nat.le_refl _)] at q
      rw [List.getElem?_append_right (Nat.le_refl _)] at e
      simp at q e
      subst q e
      exact hc _ e0
end DL

namespace DL
open PySem PySem.Spec PyProof.Rows L2
open PySem.W (EachIs AllAlike Sortable dataLe alike)
abbrev srt (ds : List D) : List D := ds.mergeSort (dataLe false id)
abbrev srtZ (zs : List (V × D)) : List (V × D) := zs.mergeSort (dataLe false Prod.snd)
def tupD : D → Bool
  | .tuple (_ :: _) => true
  | _ => false
def soloD : D → Bool
  | .tuple _ => false
  | .none => false
  | _ => true
/-- such a list can be sorted -/
def canSort (ds : List D) : Bool := (ds.all fun d => ds.all fun e => alike d e) && (ds.all tupD || ds.all soloD) && (ds.all fun d => decide (d.depth ≤ 40)) && nodicts ds
def rSortD (K : PySem.W.Frag) : List V → Hp → VK → Prop := fun vs H Q => ∃ (a : Addr) (zs : List (V × D)), vs = [V.ref a] ∧ SqL K H a (zs.map Prod.fst) ∧ DpAll K H (zs.map Prod.fst) (zs.map Prod.snd) ∧ canSort (zs.map Prod.snd) = true ∧
  ∀ p : Addr, H p = none → Q (.ref p) (upd H p (.lst ((srtZ zs).map Prod.fst)))
theorem each_rel : ∀ {zs : List (V × D)} {us : List Value}, Vals (zs.map Prod.fst) us → EachIs (fun u (z : V × D) => RelV z.1 u) us zs
  | [], _, h => by cases h; exact .nil
  | z :: zs, _, h => by
    cases h with
    | cons r t => exact .cons r (each_rel t)
theorem rel_each : ∀ {us : List Value} {zs : List (V × D)}, EachIs (fun u (z : V × D) => RelV z.1 u) us zs → Vals (zs.map Prod.fst) us
  | _, _, .nil => .nil
  | _, _, .cons r t => .cons r (rel_each t)
section
variable {X : Cx}
end
/-- sorted(xs) -/
def dSort : OpN := n1 fun b μ => match items b μ with
  | some bs => match allD bs with
    | some ds => if canSort ds = true then dList ((srt ds).map .d) μ else .bad
    | none => .bad
  | none => .bad
theorem RpA_zip {K : PySem.W.Frag} {I : Hp} : ∀ {vs : List V} {ds : List D}, RpA K I vs ds → (vs.zip ds).map Prod.fst = vs ∧ (vs.zip ds).map Prod.snd = ds ∧ ∀ z ∈ vs.zip ds, Rp K I z.1 z.2
  | _, _, .nil => ⟨rfl, rfl, fun z h => by simp at h⟩
  | _, _, .cons (v := v) (d := d) r t => by
    obtain ⟨h1, h2, h3⟩ := RpA_zip t
    refine ⟨?_, ?_, fun z h => ?_⟩
    · rw [List.zip_cons_cons, List.map_cons, h1]
    · rw [List.zip_cons_cons, List.map_cons, h2]
    · rw [List.zip_cons_cons] at h
      rcases List.mem_cons.mp h with e | h
      · rw [e]; exact r
      · exact h3 z h
theorem RpA_of_zip {K : PySem.W.Frag} {I : Hp} : ∀ {zs : List (V × D)}, (∀ z ∈ zs, Rp K I z.1 z.2) → RpA K I (zs.map Prod.fst) (zs.map Prod.snd)
  | [], _ => .nil
  | z :: zs, h => .cons (h z List.mem_cons_self) (RpA_of_zip fun y m => h y (List.mem_cons_of_mem _ m))
section
variable {G : GT}
end
end DL

noncomputable section
namespace DL
open PySem PySem.Spec PyProof.Rows L2 PySem.Froz
def kOf : Value → Key
  | .int i _ => .inl i
  | .str x _ => .inr x
  | _ => .inl 0
theorem kOf_is {k : Key} {v : Value} (h : keyIs k v = true) : kOf v = k := by
  rcases keyIs_shape h with ⟨i, t, rfl, rfl⟩ | ⟨x, t, rfl, rfl⟩ <;> rfl
theorem scan_key {k : Key} {v : Value} (h : keyIs k v = true) : v.scannable = true := by
  rcases keyIs_shape h with ⟨i, t, rfl, rfl⟩ | ⟨x, t, rfl, rfl⟩ <;> rfl
/-- the payload holds these keys, in some order, and can be walked -/
structure KsOk (P : Program) (w : World) (D : SD) (ks : List Key) : Prop where
  el : ElemsOf (mixKind P w) D.1.toList
  pm : (D.1.toList.map fun e => kOf e.2).Perm ks
  fit : D.2.2.fits D.1.size = true
  ris : Ris D.2.2.place.toList
  led : w.params.followText "set-order" = true ∨ D.2.2.led = true
section
variable {P : Program} {w : World} {A : Around} {E : Value → Shared → Prop} {s : Shared} {D : SD} {ks : List Key} {k : Key} {v : Value}
theorem KsOk.size (F : KsOk P w D ks) : D.1.size = ks.length := by
  have q := F.pm.length_eq
  rw [List.length_map, Array.length_toList] at q
  exact q
theorem KsOk.has (F : KsOk P w D ks) (k : Key) : (∃ e ∈ D.1.toList, keyIs k e.2 = true) ↔ k ∈ ks := by
  rw [← F.pm.mem_iff, List.mem_map]
  constructor
  · rintro ⟨e, he, q⟩
    exact ⟨e, he, kOf_is q⟩
  · rintro ⟨e, he, q⟩
    obtain ⟨⟨k', q', _⟩, _⟩ := F.el e he
    have q2 : keyIs k' e.2 = true := q'
    rw [kOf_is q2] at q
    exact ⟨e, he, by rw [← q]; exact q2⟩
theorem KsOk.start (w : World) : KsOk P w (#[], 0, .fresh 0 0 (!w.params.followText "set-order")) [] := by
  refine ⟨fun e he => by simp at he, .nil, rfl, List.Pairwise.nil, ?_⟩
  show _ ∨ (!w.params.followText "set-order") = true
  cases w.params.followText "set-order" <;> simp
/-- the payload behind an add of a new key -/
def addKx (h : Int) (v : Value) (D : SD) : SD :=
  tailTx D.2.1 (layNew D.2.2 D.1 h v).1 (if (layNew D.2.2 D.1 h v).2.1.plain = true then (if plainKind v = true then (layNew D.2.2 D.1 h v).2.1 else { (layNew D.2.2 D.1 h v).2.1 with plain := false }) else (layNew D.2.2 D.1 h v).2.1) (layNew D.2.2 D.1 h v).2.2.1
theorem KsOk.cons (F : KsOk P w D ks) (hv : keyIs k v = true) : KsOk P w (addKx (keyH w k) v D) (k :: ks) := by
  obtain ⟨es, ep, t⟩ := D
  obtain ⟨f1, f2, f3, f4, f5⟩ := F
  have a1 := layNew_perm t es (keyH w k) v
  have a2 := layNew_fits t es (keyH w k) v
  have a3 := layNew_ris t es (keyH w k) v f4
  have a4 := layNew_led t es (keyH w k) v
  unfold addKx
  generalize layNew t es (keyH w k) v = L at a1 a2 a3 a4 ⊢
  obtain ⟨es1, t1, wd, gv⟩ := L
  dsimp only at a1 a2 a3 a4 ⊢
  rw [Array.toList_push] at a1
  have el1 : ElemsOf (mixKind P w) es1.toList := fun e he => by
    rcases List.mem_append.mp (a1.mem_iff.mp he) with he | he
    · exact f1 e he
    · rw [List.mem_singleton.mp he]
      exact ⟨⟨k, hv, rfl⟩, scan_key hv⟩
  have pm1 : (es1.toList.map fun e => kOf e.2).Perm (k :: ks) := by
    refine (a1.map _).trans ?_
    rw [List.map_append, List.map_cons, List.map_nil, kOf_is hv]
    exact (List.perm_append_singleton _ _).trans (List.Perm.cons _ f2)
  have z : ∀ t2 : SetTable, t2.fits es1.size = true → Ris t2.place.toList → t2.led = t.led → KsOk P w (tailTx ep es1 t2 wd) (k :: ks) := fun t2 b1 b2 b3 => by
    unfold tailTx
    split
    · have c1 := relayAll_perm t2 es1 (SetTable.grown es1.size)
      have c2 := relayAll_fits t2 es1 (SetTable.grown es1.size)
      have c3 := relayAll_ris t2 es1 (SetTable.grown es1.size)
      have c4 := relayAll_led t2 es1 (SetTable.grown es1.size)
      exact ⟨fun e he => el1 e (c1.mem_iff.mp he), (c1.map _).trans pm1, c2, c3, f5.imp id fun y => c4.trans (b3.trans y)⟩
    · exact ⟨el1, pm1, b1, b2, f5.imp id fun y => b3.trans y⟩
  split
  · split
    · exact z _ a2 a3 a4
    · exact z _ (SetTable.fits_plain_off a2) a3 a4
  · exact z _ a2 a3 a4
variable {a : Addr} {Q : Bool → Shared → Prop}
end
/-- the keys of a list, each once -/
def memK (k : Key) (l : List Key) : Bool := l.any fun j => decide (j = k)
def ddS (acc : List Key) (k : Key) : List Key := if memK k acc = true then acc else k :: acc
def ddK (ks : List Key) : List Key := ks.foldl ddS []
section
variable {P : Program} {w : World} {A : Around} {E : Value → Shared → Prop} {s : Shared}
end
end DL

end 
noncomputable section
namespace DL
open PySem PySem.Spec PyProof.Rows L2 PySem.Froz
/-- the set as it is made -/
abbrev newS (w : World) : Obj := sObj "set" (#[], 0, .fresh 0 0 (!w.params.followText "set-order"))
section
variable {P : Program} {w : World} {A : Around} {E : Value → Shared → Prop} {s : Shared}
end
end DL

end 
noncomputable section
namespace DL
open PySem PySem.Spec PyProof.Rows L2 PySem.Froz
section
namespace DL
open PySem PySem.Spec PyProof.Rows L2 PySem.Froz
/-- the set as it is made -/
abbrev newS (w : World) : Obj := sObj "set" (#[], 0, .fresh 0 0 (!w.params.followText "set-order"))
section
variable {P : Program} {w : World} {A : Around} {E : Value → Shared → Prop} {s : Shared}
end
end DL

end 
end DL
end 
noncomputable section
namespace DL
open PySem PySem.Spec PyProof.Rows L2 PySem.Froz
open PySem.W (EachIs AllAlike Sortable dataLe alike)
def keyD : D → Option Key
  | .int i => some (.inl i)
  | .str x => some (.inr x)
  | _ => none
def keysD : List D → Option (List Key)
  | [] => some []
  | d :: ds => match keyD d, keysD ds with
    | some k, some ks => some (k :: ks)
    | _, _ => none
/-- the members of a list, each once -/
def setD (ds : List D) : Option (List D) := match keysD ds with
  | some ks => some ((ddK ks).map kD)
  | none => none
section
variable {X : Cx} {pins : List (Addr × Obj)} {σ : L2.St} {H : Hp} {s : Shared}
end
abbrev srtK (ks : List Key) : List Key := ks.mergeSort (dataLe false kD)
section
variable {P : Program} {w : World} {A : Around} {E : Value → Shared → Prop} {s : Shared}
end
end DL

end 
namespace DL
open PySem PySem.Spec PyProof.Rows L2 PySem.Froz
def tSortSet (K : PySem.W.Frag) (ta : TE) : TE := fun σ H Q => ta σ H fun x H1 => ∃ (l : Addr) (ks : List Key), x = .ref l ∧ SqL K H1 l (ks.map kV) ∧ ks.length ≤ 1000 ∧ canSort ((ddK ks).map kD) = true ∧
  ∀ p : Addr, H1 p = none → Q (.ref p) (upd H1 p (.lst ((srtK (ddK ks)).map kV)))
def tLenSet (K : PySem.W.Frag) (ta : TE) : TE := fun σ H Q => ta σ H fun x H1 => ∃ (l : Addr) (ks : List Key), x = .ref l ∧ SqL K H1 l (ks.map kV) ∧ ks.length ≤ 1000 ∧ Q (.int (ddK ks).length) H1
section
variable {X : Cx} {a : Expr} {ta : TE} {p p2 q pos : Pos}
end
/-- sorted(set(x)), len(set(x)) -/
def dSortSet : Op1 := fun x μ => match items x μ with
  | some bs => match allD bs with
    | some ds => match keysD ds with
      | some ks => if decide (ks.length ≤ 1000) && canSort ((ddK ks).map kD) then .ok (.d (.list ((srtK (ddK ks)).map kD))) μ else .bad
      | none => .bad
    | none => .bad
  | none => .bad
def dLenSet : Op1 := fun x μ => match items x μ with
  | some bs => match allD bs with
    | some ds => match keysD ds with
      | some ks => if ks.length ≤ 1000 then .ok (.d (.int (ddK ks).length)) μ else .bad
      | none => .bad
    | none => .bad
  | none => .bad
section
variable {X : Cx} {G : GT} {W : WX} {a : Expr} {m : ME} {p p2 q pos : Pos}
end
end DL

namespace DL
open PySem PySem.Spec PyProof.Rows L2
def sAsgT (n : Nat) (ma : MA) (gs : MGs) : MS := fun ρ μ => (ma ρ μ).bind fun bs μ => if bs.length = n ∧ bs.length ≤ 1000 then (gs bs ρ μ).gb fun ρ μ => .ok (.nx ρ) μ else .bad
section
variable {X : Cx} {G : GT} {W : WX} {es tgs : List Expr} {mas : MA} {gs : MGs} {S : List Nat} {k k2 n : Nat} {pos tpos epos : Pos}
end
end DL

namespace DL
open PySem PySem.Spec PyProof.Rows L2
/-- what type a value is of -/
def tyD : Dv → Store → Option String
  | .d .none, _ => some "NoneType"
  | .d (.bool _), _ => some "bool"
  | .d (.int _), _ => some "int"
  | .d (.str _), _ => some "str"
  | .d (.list _), _ => some "list"
  | .d (.tuple _), _ => some "tuple"
  | .d (.dict _), _ => some "dict"
  | .c n, μ => match μ[n]? with
    | some (.lst _) => some "list"
    | _ => none
  | _, _ => none
/-- kitB's answers for the types that stand here, as a table -/
def isiT (a T : String) : Bool := decide (a = T) || (decide (a = "bool") && decide (T = "int"))
def dIsi (T : String) : Op1 := fun x μ => match tyD x μ with
  | some a => .ok (.d (.bool (isiT a T))) μ
  | none => .bad
theorem kitB_all : (["NoneType", "bool", "int", "str", "list", "tuple", "dict"].all fun a => ["bool", "int", "str", "list", "tuple", "dict"].all fun b => kitB a b == some (isiT a b)) = true := by decide +kernel
theorem kitB_of {a b : String} (ha : a ∈ ["NoneType", "bool", "int", "str", "list", "tuple", "dict"]) (hb : b ∈ ["bool", "int", "str", "list", "tuple", "dict"]) : kitB a b = some (isiT a b) := by
  have := List.all_eq_true.mp (List.all_eq_true.mp kitB_all a ha) b hb
  exact eq_of_beq this
section
variable {X : Cx} {G : GT} {W : WX} {e : Expr} {m : ME} {p p2 pos : Pos} {T : String}
theorem tyx_list {K : PySem.W.Frag} {H : Hp} {a : Addr} {xs : List V} (h : SqL K H a xs) : TyX K H (.ref a) (.type "list") := by
  rcases h with (h | ⟨o, h⟩) | ⟨o, its, n, h1, h2, _⟩
  · exact .base (.lst h)
  · exact .base (.frz h)
  · exact .kList h1 h2
theorem tyx_tup {K : PySem.W.Frag} {H : Hp} {a : Addr} {xs : List V} (h : SqT K H a xs) : TyX K H (.ref a) (.type "tuple") := by
  rcases h with (h | ⟨o, h⟩) | ⟨o, its, n, h1, h2, _⟩
  · exact .base (.tup h)
  · exact .fTuple h
  · exact .kTuple h1 h2
theorem tyD_ok {w : Wd} {v : V} {μ : Store} {H : Hp} {b : Dv} {a : String} (l : Lay G w μ H) (r : Rv G w v b) (h : tyD b μ = some a) : TyX G.K H v (.type a) ∧ a ∈ ["NoneType", "bool", "int", "str", "list", "tuple", "dict"] := by
  cases b with
  | d x =>
    have r : Rp G.K H v x := Rp.inH l r
    cases r with
    | non => cases h; exact ⟨.base .non, by simp⟩
    | bl b => cases h; exact ⟨.base (.bl b), by simp⟩
    | int i => cases h; exact ⟨.base (.int i), by simp⟩
    | str x => cases h; exact ⟨.base (.str x), by simp⟩
    | lst hs ha => cases h; exact ⟨tyx_list hs, by simp⟩
    | tup hs ha => cases h; exact ⟨tyx_tup hs.t, by simp⟩
    | dic hs ha => cases h; exact ⟨.base (.dK hs), by simp⟩
  | c n =>
    unfold tyD at h
    simp only at h
    split at h
    · rename_i xs e
      cases h
      obtain ⟨a, ha, rfl⟩ := r
      obtain ⟨_, vs, e2, _⟩ := l.at_ n _ a e ha
      exact ⟨.base (.lst e2), by simp⟩
    · cases h
  | f n => cases h
theorem de_isi (hK : X.K = G.K) (hT : T ∈ ["bool", "int", "str", "list", "tuple", "dict"]) (hg : Gl X "isinstance") (hm : X.mg "isinstance" = none) (hg2 : Gl X (Str.ofString T)) (hm2 : X.mg (Str.ofString T) = none) (hv : bootBuiltins (Str.ofString T) = some (.type T)) (ha : DE X G W e m)
    (hn : Str.ofString T ≠ "__name__" := by decide) (hd : (Str.ofString T == ("__debug__" : Str)) = false := by decide) (h1 : starEach [e, .Name (Str.ofString T) p2] X.env = (false, eval e X.env) :: starEach [.Name (Str.ofString T) p2] X.env := by rfl)
    (h2 : starEach [.Name (Str.ofString T) p2] X.env = (false, eval (.Name (Str.ofString T) p2) X.env) :: starEach [] X.env := by rfl) (hpl : (backTo pos (starEach [.Name (Str.ofString T) p2] X.env)).any (·.1) = false := by rfl) :
    DE X G W (.Call (.Name "isinstance" p) [e, .Name (Str.ofString T) p2] [] pos) (e1 (dIsi T) m) := by
  have b1 : bootBuiltins "isinstance" = some (.builtin "isinstance") := by decide +kernel
  refine PE.imp (pe_callB call_isi hg hm b1 (pa_cons ha (pa_cons (pe_bltn hg2 hm2 hv (v := .ty T) rfl hn hd) pa_nil h2) h1) (by decide) (by decide) h1 hpl) ?_
  rintro σ H Q ⟨w, μ, ρ, hl, he, pp⟩
  refine tD.seq (k := fun ρ x μ => dIsi T x μ) hl he pp fun w1 μ1 H1 v b l1 lay1 en1 r1 p1 => ?_
  unfold dIsi at p1
  split at p1
  · rename_i a ea
    obtain ⟨t1, t2⟩ := tyD_ok lay1 r1 ea
    refine ⟨v, .ty T, .type a, .type T, isiT a T, rfl, .ty T, by rw [hK]; exact t1, kit_ty (kitB_of t2 hT), p1 w1 _ H1 w1.le_refl lay1 (.bl _)⟩
  · exact p1.elim
end
end DL

namespace DL
open PySem PySem.Spec PyProof.Rows L2
def eDic0 : ME := fun _ μ => .ok (.d (.dict [])) μ
theorem de_dic0 {X : Cx} {G : GT} {W : WX} {pos : Pos} : DE X G W (.Dict [] [] pos) eDic0 := by
  refine PE.imp pe_dnewK ?_
  rintro σ H Q ⟨w, μ, ρ, hl, he, p⟩
  intro a na
  obtain ⟨le, lay⟩ := hl.new na (.dK [])
  exact p _ (.ref a) _ le lay (.dic (kvs := []) upd_same .nil)
mutual
def dic0 : D → Bool
  | .list ds => dic0s ds
  | .tuple ds => dic0s ds
  | .dict ps => ps.isEmpty
  | _ => true
def dic0s : List D → Bool
  | [] => true
  | d :: ds => dic0 d && dic0s ds
end
section
variable {X : Cx} {pins : List (Addr × Obj)} {σ : L2.St} {H : Hp} {s : Shared}
mutual
theorem reprE (I : Inv X pins σ H s) : ∀ (d : D) (v : V) (u : Value), Rp X.K H v d → dic0 d = true → RelV v u → d.showable = true → d.shown.length ≤ sizeLine →
    ∃ as bs, Reads s.heap u d as ∧ ReadAtMost s.heap d.depth bs ∧ ReprK X.prog X.w bs s.heap d.depth u d.shown
  | .none, _, _, h, _, r, _, _ => by
    cases h
    cases r
    exact ⟨_, [], .none, (fun _ h => nomatch h), by simp only [PyData.shown]; exact .of_is ReprIs.none _ _ _⟩
  | .bool b, _, _, h, _, r, _, _ => by
    cases h
    cases r
    exact ⟨_, [], .bool b, (fun _ h => nomatch h), by simp only [PyData.shown]; exact .of_is (ReprIs.bool b) _ _ _⟩
  | .int i, _, _, h, _, r, hs, _ => by
    cases h
    obtain ⟨t, rfl⟩ := r
    exact ⟨_, [], .int i t, (fun _ h => nomatch h), by simp only [PyData.shown]; exact .of_is (ReprIs.int t (by simpa [PyData.showable] using hs)) _ _ _⟩
  | .str x, _, _, h, _, r, _, hz => by
    cases h
    obtain ⟨t, rfl⟩ := r
    exact ⟨_, [], .str x t, (fun _ h => nomatch h), by simp only [PyData.shown]; exact .of_is (ReprIs.str x t (by simpa only [PyData.shown] using hz)) _ _ _⟩
  | .list ds, _, _, h, e, r, hs, hz => by
    cases h with
    | @lst a _ _ hs' ha =>
      cases r
      obtain ⟨its, rv, ⟨o, n, ho, hc, _, hd⟩, _⟩ := I.list hs'
      have hz' : (listText (PyData.shownAll ds)).length ≤ sizeLine := by simpa only [PyData.shown] using hz
      obtain ⟨as, bs, hr, hb, hk⟩ := reprEs I ds _ its ha (by simpa only [dic0] using e) rv (by simpa [PyData.showable] using hs) (fun t ht => Nat.le_trans (listText_mem_le ht) hz')
      have r : Reads s.heap (.ref a) (.list ds) _ := .list ho hc hd hr
      have hna : a ∉ bs := not_mem_of_deeper r (by simp only [PyData.depth]; omega) hb
      refine ⟨_, a :: bs, r, ReadAtMost.cons r (by simp only [PyData.depth]; omega) hb, ?_⟩
      simp only [PyData.depth, PyData.shown]
      cases its with
      | nil =>
        cases hr
        simp only [PyData.shownAll, listText_nil]
        exact ReprK.listEmpty ho hc hd
      | cons x l => exact ReprK.list ho hc hd hna (by simpa using hk.length_eq) (fun i y e => hk.item i y (by simpa using e))
  | .tuple ds, _, _, h, e, r, hs, hz => by
    cases h with
    | @tup a _ _ hs' ha =>
      cases r
      obtain ⟨its, rv, ⟨o, ho, hc, n, hd⟩, _⟩ := I.tuple hs'.t
      have hz' : (tupleText (PyData.shownAll ds)).length ≤ sizeLine := by simpa only [PyData.shown] using hz
      obtain ⟨as, bs, hr, hb, hk⟩ := reprEs I ds _ its ha (by simpa only [dic0] using e) rv (by simpa [PyData.showable] using hs) (fun t ht => Nat.le_trans (tupleText_mem_le ht) hz')
      have r : Reads s.heap (.ref a) (.tuple ds) _ := .tuple ho hc hd hr
      have hna : a ∉ bs := not_mem_of_deeper r (by simp only [PyData.depth]; omega) hb
      refine ⟨_, a :: bs, r, ReadAtMost.cons r (by simp only [PyData.depth]; omega) hb, ?_⟩
      simp only [PyData.depth, PyData.shown]
      exact ReprK.tuple ho hc hd hna hk
  | .dict ps, _, _, h, e, r, hs, hz => by
    cases ps with
    | cons _ _ => simp [dic0] at e
    | nil =>
      cases h with
      | @dic a kvs _ hd ha =>
        cases ha
        cases r
        obtain ⟨_, hsys, vs, kv, o, es, ep, ho, hx, hdt, _, pr, _⟩ := dk_of I.hok hd
        cases kv
        obtain ⟨es⟩ := es
        cases pr
        have r : Reads s.heap (.ref a) (.dict []) _ := .dict ho hx.1 hdt .nil .nil
        refine ⟨_, [a], r, ReadAtMost.cons (n := 0) r (by simp) (fun _ h => nomatch h), ?_⟩
        have := ReprK.dict (prog := X.prog) (w := X.w) (as := []) (d := 0) ho hx.1 hdt hsys (by simp) .nil
        exact this
theorem reprEs (I : Inv X pins σ H s) : ∀ (ds : List D) (vs : List V) (us : List Value), RpA X.K H vs ds → dic0s ds = true → Vals vs us → PyData.showableAll ds = true → (∀ t ∈ PyData.shownAll ds, t.length ≤ sizeLine) →
    ∃ as bs, ReadsAll s.heap us ds as ∧ ReadAtMost s.heap (PyData.depthAll ds) bs ∧ ReprAllK X.prog X.w bs s.heap (PyData.depthAll ds) us (PyData.shownAll ds)
  | [], _, _, h, _, r, _, _ => by
    cases h
    cases r
    exact ⟨_, [], .nil, (fun _ h => nomatch h), by simp only [PyData.shownAll]; exact .nil⟩
  | d :: ds, _, _, h, e, r, hs, hz => by
    cases h with
    | cons h1 h2 =>
      cases r with
      | cons r1 r2 =>
        simp only [dic0s, Bool.and_eq_true] at e
        have hs' : d.showable = true ∧ PyData.showableAll ds = true := by simpa [PyData.showableAll] using hs
        obtain ⟨a1, b1, q1, hb1, k1⟩ := reprE I d _ _ h1 e.1 r1 hs'.1 (hz _ (by simp only [PyData.shownAll]; exact List.mem_cons_self ..))
        obtain ⟨a2, b2, q2, hb2, k2⟩ := reprEs I ds _ _ h2 e.2 r2 hs'.2 (fun t ht => hz t (by simp only [PyData.shownAll]; exact List.mem_cons_of_mem _ ht))
        refine ⟨_, b1 ++ b2, .cons q1 q2, ?_, ?_⟩
        · simp only [PyData.depthAll]
          exact (hb1.mono (Nat.le_max_left _ _)).append (hb2.mono (Nat.le_max_right _ _))
        · simp only [PyData.depthAll, PyData.shownAll]
          exact .cons ((k1.more fun b hb => List.mem_append_left _ hb).level_le (Nat.le_max_left _ _)) (k2.more_le (fun b hb => List.mem_append_right _ hb) (Nat.le_max_right _ _))
end
end
def rReprE (K : PySem.W.Frag) : List V → Hp → VK → Prop := fun xs H Q => ∃ x d, xs = [x] ∧ Rp K H x d ∧ d.showable = true ∧ dic0 d = true ∧ d.depth ≤ 40 ∧ d.shown.length ≤ sizeLine ∧ Q (.str d.shown) H
/-- repr of data in which dicts are empty -/
def dReprE : OpN := n1 fun b μ => match view b μ with
  | some d => if (d.showable && dic0 d && decide (d.depth ≤ 40) && decide (d.shown.length ≤ sizeLine)) = true then .ok (.d (.str d.shown)) μ else .bad
  | none => .bad
end DL

namespace DL
open PySem PySem.Spec PyProof.Rows L2
open PySem.SeqAt (EqAt RcAt RcNeAt)
section
variable {A : Around} {s : Shared}
end
def lenEq : D → D → Option Bool
  | .tuple [], .tuple (_ :: _) => some false
  | .tuple (_ :: _), .tuple [] => some false
  | .list a, .list b => if a.length = b.length then none else some false
  | _, _ => none
def rEqL (K : PySem.W.Frag) (neg : Bool) : R2 := fun x y H Q => ∃ a b k, Rp K H x a ∧ Rp K H y b ∧ lenEq a b = some k ∧ Q (.bl (if neg then !k else k)) H
section
variable {X : Cx}
end
def rEqX (K : PySem.W.Frag) : R2 := fun x y H Q => rEqA K x y H Q ∨ rEqL K false x y H Q
def rNeX (K : PySem.W.Frag) : R2 := fun x y H Q => rNeA K x y H Q ∨ rEqL K true x y H Q
/-- == of data, of sequences of unlike lengths whatever stands in them -/
def dEqX (neg : Bool) : Op2 := fun x y μ => match view x μ, view y μ with
  | some a, some b => match lenEq a b with
    | some k => .ok (.d (.bool (if neg then !k else k))) μ
    | none => dEq neg x y μ
  | _, _ => dEq neg x y μ
section
variable {G : GT}
end
def bigD : D → Bool
  | .list _ => true | .tuple _ => true | .dict [] => true
  | _ => false
def allStr : List D → Bool
  | [] => true
  | .str _ :: r => allStr r
  | _ :: _ => false
def rInX (K : PySem.W.Frag) (neg : Bool) : R2 := fun x y H Q => ∃ p xs ds d, y = .ref p ∧ (SqL K H p xs ∨ SqT K H p xs) ∧ RpA K H xs ds ∧ allStr ds = true ∧ Rp K H x d ∧ bigD d = true ∧ Q (.bl neg) H
section
variable {X : Cx}
def rInZ (K : PySem.W.Frag) : R2 := fun x y H Q => rInA K false x y H Q ∨ rInX K false x y H Q
end
def allDD : List Dv → Option (List D)
  | [] => some []
  | .d x :: r => match allDD r with
    | some xs => some (x :: xs)
    | none => none
  | _ :: _ => none
/-- x in y, y's items texts where x is a list, a tuple, a dict -/
def dInX : Op2 := fun x y μ => match x with
  | .d a => if bigD a = true then match itemsA y μ with
      | some bs => match allDD bs with
        | some ds => if allStr ds = true then .ok (.d (.bool false)) μ else .bad
        | none => .bad
      | none => .bad
    else dIn false x y μ
  | _ => dIn false x y μ
end DL

namespace DL
open PySem PySem.Spec PyProof.Rows L2 PySem.SeqAt PySem.W PySem.Calls
/-- Python can say which tuple is less -/
def lexAl : List D → List D → Bool
  | x :: xs, y :: ys => alike x y && (!PyData.eqv x y || lexAl xs ys)
  | _, _ => true
def keyAl : D → D → Bool
  | .tuple xs, .tuple ys => lexAl xs ys
  | _, _ => false
def intKey : D → Bool
  | .tuple (.int _ :: _) => true
  | _ => false
section
variable {prog : Program} {w : World} {A : Around} {s : Shared}
end
section
variable {prog : Program} {w : World} {A : Around} {s : Shared} {β : Type}
end
end DL

namespace DL
open PySem PySem.Spec PyProof.Rows L2
open PySem.W (EachIs alike dataLe KeyPure)
/-- what such an f gives -/
def rkD : D → D
  | .none => .tuple [.int 0, .int 0]
  | d => .tuple [.int 1, d]
inductive AtomR : V → D → Prop
  | non : AtomR .non .none
  | int (i : Int) : AtomR (.int i) (.int i)
  | str (x : Str) : AtomR (.str x) (.str x)
theorem AtomR.rp {K : PySem.W.Frag} {I : Hp} {v : V} {d : D} (h : AtomR v d) : Rp K I v d := by
  cases h <;> constructor
def atomD : D → Bool
  | .none => true | .int _ => true | .str _ => true
  | _ => false
theorem AtomR.reads {v : V} {d : D} {u : Value} (h : AtomR v d) (r : RelV v u) (hp : Heap) : Reads hp u d [] := by
  cases h with
  | non => cases r; exact .none
  | int i => obtain ⟨t, rfl⟩ := r; exact .int i t
  | str x => obtain ⟨t, rfl⟩ := r; exact .str x t
structure KeyFn (P : Program) (w : World) (K : PySem.W.Frag) (mg : Str → Option Value) (x : Str) (f : Addr) : Prop where
  mg : mg x = some (.ref f)
  run : ∀ (A : Around) (s : Shared) (E : Value → Shared → Prop) (v : V) (u : Value) (d : D), K.In s.heap → s.heap.NoLimit → A.depth < recursionLimit → AtomR v d → RelV v u → wpAny (model P w) A (call (.ref f) [u]) (KeyPure (rkD d) s) E s
def KeyF (P : Program) (w : World) (K : PySem.W.Frag) (mg : Str → Option Value) (x : Str) : Prop := ∃ f, KeyFn P w K mg x f
abbrev srtR (ds : List D) : List D := ds.mergeSort (dataLe false rkD)
abbrev srtRZ (zs : List (V × D)) : List (V × D) := zs.mergeSort (dataLe false fun z => rkD z.2)
def canKey (ds : List D) : Bool := (ds.all fun d => ds.all fun e => keyAl (rkD d) (rkD e)) && ds.all atomD
def rSortK (K : PySem.W.Frag) (f : Addr) : List V → List V → Hp → VK → Prop := fun vs ks H Q => ∃ (a : Addr) (zs : List (V × D)), vs = [V.ref a] ∧ ks = [V.ref f] ∧ SqL K H a (zs.map Prod.fst) ∧ (∀ z ∈ zs, AtomR z.1 z.2) ∧ canKey (zs.map Prod.snd) = true ∧
  ∀ p : Addr, H p = none → Q (.ref p) (upd H p (.lst ((srtRZ zs).map Prod.fst)))
section
variable {X : Cx}
theorem Inv.deep {pins : List (Addr × Obj)} {σ : L2.St} {H : Hp} {s : Shared} (I : Inv X pins σ H s) : X.K.In s.heap ∧ s.heap.NoLimit := ⟨I.kIn, I.nolimit⟩
theorem pe_glob {x : Str} {f : Addr} {p : Pos} (hg : Gl X x) (hm : X.mg x = some (.ref f)) (hd : (x == ("__debug__" : Str)) = false) : PE X (.Name x p) (tC (.ref f)) := ⟨fun pins s σ H Q I h => ld_glob I hg hm ⟨.ref f, H, I, rfl, h⟩ hd⟩
end
/-- sorted(xs, key=rank) -/
def dSortK : Op1 := fun x μ => match items x μ with
  | some bs => match allD bs with
    | some ds => if canKey ds = true then dList ((srtR ds).map .d) μ else .bad
    | none => .bad
  | none => .bad
section
variable {X : Cx} {G : GT} {W : WX} {e : Expr} {m : ME} {p p2 pos : Pos} {x : Str} {kp : Pos}
end
end DL

namespace DL
open PySem PySem.Spec PyProof.Rows L2
def TyN (X : Cx) (T : String) (x : V) (H : Hp) : Prop := ∀ (pins : List (Addr × Obj)) (σ : L2.St) (s : Shared) (v : Value), Inv X pins σ H s → RelV x v → s.TypeIs v T ∧ ∀ a, v = .ref a → ∃ ob, s.heap.get? a = some ob ∧ ob.dict = none
def tBMN (X : Cx) (T : String) (r : V → List V → Hp → VK → Prop) (to : TE) (t : TA) : TE := fun σ H Q => to σ H fun x H1 => TyN X T x H1 ∧ t σ H1 fun vs H2 => r x vs H2 Q
section
variable {X : Cx} {o e : Expr} {es : List Expr} {to : TE} {t : TA} {pos apos cpos : Pos} {T id : String} {name : Str} {r : V → List V → Hp → VK → Prop}
def rTCount (K : PySem.W.Frag) : V → List V → Hp → VK → Prop := fun x ys H Q => ∃ a xs ds z, x = .ref a ∧ ys = [.str z] ∧ SqT K H a xs ∧ RpA K H xs ds ∧ allStr ds = true ∧ Q (.int (ds.countP fun y => PyData.eqv y (.str z) : Nat)) H
end
def dTCount (ds : List D) : Dv → Store → Out Dv := fun y μ => match y with
  | .d (.str z) => if allStr ds = true then .ok (.d (.int (ds.countP fun y => PyData.eqv y (.str z) : Nat))) μ else .bad
  | _ => .bad
def cntB (me : ME) (ρ : DEnv) (x : Dv) (μ : Store) : Out Dv := match x with
  | .d (.tuple ds) => (me ρ μ).bind fun y μ => dTCount ds y μ
  | _ => .bad
def eCnt (mo me : ME) : ME := fun ρ μ => (mo ρ μ).bind fun x μ => cntB me ρ x μ
section
variable {X : Cx} {G : GT} {W : WX} {o e : Expr} {mo me : ME} {pos apos cpos : Pos}
end
def dStripC : Dv → OpN := m1 fun a b μ => match b with
  | .d (.str b) => if a.length ≤ sizeLine then .ok (.d (.str (Txt.stripChars a b))) μ else .bad
  | _ => .bad
theorem ok_stripC {G : GT} : OkM G (fun x xs H Q => ∃ a b, x = .str a ∧ xs = [.str b] ∧ a.length ≤ sizeLine ∧ Q (.str (Txt.stripChars a b)) H) dStripC := by
  apply ok_m1
  intro W σ w μ H a y b Q l r p
  split at p
  · split at p
    · rename_i h
      rw [rv_str r]
      exact ⟨a, _, rfl, rfl, h, p w _ H w.le_refl l (.str _)⟩
    · exact p.elim
  · exact p.elim
def dRep (k : Nat) : OpN := fun bs μ => dList (List.replicate k bs).flatten μ
theorem Rvs_rep {G : GT} {w : Wd} {vs : List V} {bs : List Dv} (r : Rvs G w vs bs) : ∀ k : Nat, Rvs G w (List.replicate k vs).flatten (List.replicate k bs).flatten
  | 0 => .nil
  | k + 1 => by
    rw [List.replicate_succ, List.replicate_succ, List.flatten_cons, List.flatten_cons]
    exact Rvs_app r (Rvs_rep r k)
section
variable {X : Cx} {G : GT} {W : WX} {es : List Expr} {mas : MA} {pos p1 p2 : Pos} {j : Nat}
end
def lkS (tbl : List (Str × Int)) (z : Str) : Option Int := match tbl with
  | [] => none
  | p :: r => if p.1 == z then some p.2 else lkS r z
def optV : Option Int → V
  | some i => .int i
  | none => .non
def optD : Option Int → D
  | some i => .int i
  | none => .none
abbrev TabE : List DictEntry → List (Str × Int) → Prop := Paired fun e p => ∃ t u, e.key = Value.str p.1 t ∧ e.val = Value.int p.2 u
structure KTab (K : PySem.W.Frag) (w : World) (a : Addr) (tbl : List (Str × Int)) : Prop where
  ex : ∃ es n, K.lookup a = some ⟨.type "dict", none, .dict es n, #[]⟩ ∧ PySem.W.KeysLit w.params es.toList ∧ (a == sysModules) = false ∧ TabE es.toList tbl
def rKGet (K : PySem.W.Frag) (w : World) (tbl : List (Str × Int)) : V → List V → Hp → VK → Prop := fun x ys H Q => ∃ a z, x = .ref a ∧ ys = [.str z] ∧ KTab K w a tbl ∧ Q (optV (lkS tbl z)) H
section
variable {X : Cx} {tbl : List (Str × Int)}
end
def dKGet (tbl : List (Str × Int)) : Op1 := fun x μ => match x with
  | .d (.str z) => .ok (.d (optD (lkS tbl z))) μ
  | _ => .bad
section
variable {X : Cx} {G : GT} {W : WX} {e : Expr} {me : ME} {pos p apos cpos : Pos} {x : Str} {tbl : List (Str × Int)}
end
end DL

namespace DL
open PySem PySem.Spec PyProof.Rows L2 PySem.Froz
def tLenSetT (K : PySem.W.Frag) (ta : TE) : TE := fun σ H Q => ta σ H fun x H1 => ∃ (l : Addr) (ks : List Key), x = .ref l ∧ SqT K H1 l (ks.map kV) ∧ ks.length ≤ 1000 ∧ Q (.int (ddK ks).length) H1
section
variable {X : Cx} {a : Expr} {ta : TE} {p p2 q pos : Pos}
end
def dLenSetT : Op1 := fun x μ => match itemsT x with
  | some bs => match allD bs with
    | some ds => match keysD ds with
      | some ks => if ks.length ≤ 1000 then .ok (.d (.int (ddK ks).length)) μ else .bad
      | none => .bad
    | none => .bad
  | none => .bad
section
variable {X : Cx} {G : GT} {W : WX} {a : Expr} {m : ME} {p p2 q pos : Pos}
end
end DL

namespace DL
open PySem PySem.Spec PyProof.Rows L2
inductive Wp {β : Type} : Out β → (β → Store → Prop) → Prop
  | mk {b : β} {μ : Store} {P : β → Store → Prop} : P b μ → Wp (.ok b μ) P
section
variable {β γ : Type} {o o' : Out β} {P Q : β → Store → Prop} {k : β → Store → Out γ} {R : γ → Store → Prop} {b : β} {μ : Store}
@[simp] theorem Wp_ok : Wp (.ok b μ) P = P b μ := propext ⟨fun h => by cases h; assumption, .mk⟩
theorem Wp_bad : Wp (.bad : Out β) P = False := propext ⟨(fun h => nomatch h), False.elim⟩
theorem Wp_ex {e : Ex} : Wp (.ex e μ : Out β) P = False := propext ⟨(fun h => nomatch h), False.elim⟩
theorem Wp_bind : Wp (o.bind k) R = Wp o fun b μ => Wp (k b μ) R := by
  cases o with
  | ok b μ => rw [Wp_ok]; rfl
  | ex e μ => show Wp (.ex e μ) R = _; rw [Wp_ex, Wp_ex]
  | bad => show Wp .bad R = _; rw [Wp_bad, Wp_bad]
theorem Wp_gb : Wp (o.gb k) R = Wp o fun b μ => Wp (k b μ) R := by
  cases o with
  | ok b μ => rw [Wp_ok]; rfl
  | ex e μ => show Wp .bad R = _; rw [Wp_ex, Wp_bad]
  | bad => show Wp .bad R = _; rw [Wp_bad, Wp_bad]
def finP (P : Dv → Store → Prop) : Fl → Store → Prop := fun f μ => match f with
  | .nx _ => P (.d .none) μ
  | .rt b => P b μ
  | _ => False
@[simp ↓] theorem Wp_finB {o : Out Fl} {P : Dv → Store → Prop} : Wp (finB o) P = Wp o (finP P) := by
  cases o with
  | ok f μ =>
    rw [Wp_ok]
    cases f with
    | nx ρ => exact Wp_ok
    | rt b => exact Wp_ok
    | bk ρ => exact Wp_bad
    | ct ρ => exact Wp_bad
  | ex e μ => show Wp (.ex e μ) P = _; rw [Wp_ex, Wp_ex]
  | bad => show Wp .bad P = _; rw [Wp_bad, Wp_bad]
@[simp] theorem finP_rt {P : Dv → Store → Prop} {b : Dv} : finP P (.rt b) μ = P b μ := id rfl
@[simp] theorem finP_nx {P : Dv → Store → Prop} {ρ : DEnv} : finP P (.nx ρ) μ = P (.d .none) μ := id rfl
theorem Wp_mono (w : Wp o P) (h : ∀ b μ, P b μ → Q b μ) : Wp o Q := by
  cases w with
  | mk p => exact .mk (h _ _ p)
theorem Wp_of (h : Wp o P) : ∃ b μ, o = .ok b μ ∧ P b μ := by
  cases h with
  | mk p => exact ⟨_, _, rfl, p⟩
theorem Wp_eq (e : o = .ok b μ) (h : P b μ) : Wp o P := by rw [e]; exact .mk h
end
@[simp] theorem dList_a {bs : List Dv} {μ : Store} (h : (allD bs).isSome = true) (n : bs.length ≤ 16000000) : dList bs μ = .ok (.d (.list ((allD bs).getD []))) μ := by
  obtain ⟨ds, e⟩ := Option.isSome_iff_exists.mp h
  have := allD_eq e
  subst this
  rw [List.length_map] at n
  rw [dList_d (Nat.le_trans n line_big), e]
  rfl
@[simp] theorem dTup_a {bs : List Dv} {μ : Store} (h : (allD bs).isSome = true) (n : bs.length ≤ 16000000) : dTup bs μ = .ok (.d (.tuple ((allD bs).getD []))) μ := by
  obtain ⟨ds, e⟩ := Option.isSome_iff_exists.mp h
  have := allD_eq e
  subst this
  rw [List.length_map] at n
  rw [dTup_d (Nat.le_trans n line_big), e]
  rfl
theorem dList_map {ds : List D} {μ : Store} (n : ds.length ≤ 16000000) : dList (ds.map .d) μ = .ok (.d (.list ds)) μ := dList_d (Nat.le_trans n line_big)
theorem cDiv_of {x k : Int} (h : 0 < k) (h2 : k < 2 ^ 100) : cDiv x k = true := by
  unfold cDiv
  rw [decide_eq_true h, Bool.true_and]
  exact decide_eq_true (by have := log2_lt (i := k) (n := 100) (by omega) (by decide); omega)
theorem okR_of {i : Int} (h : -1000000000 ≤ i) (h2 : i ≤ 1000000000) : okR i = true := by
  unfold okR
  rw [decide_eq_true (by omega), decide_eq_true (by omega)]
  rfl
theorem Wp_run {n : Nat} {B : MS} {bs : List Dv} {μ : Store} {P : Dv → Store → Prop} (h : Wp (B (bs.map some ++ List.replicate (n - bs.length) none) μ) (finP P)) : Wp (runB n B bs μ) P := by
  rw [runB_eq, Wp_finB]
  exact h
/-- a comprehension without a test, how many its items are -/
theorem Wp_lcM_y {g : MG} {te : ME} {ρ : DEnv} (I : Nat → Store → Prop) (R : Dv → Prop) : ∀ {bs : List Dv} {i : Nat} {μ : Store} {P : List Dv → Store → Prop}, I i μ →
    (∀ j b μ, bs[j]? = some b → I (i + j) μ → Wp (g b ρ μ) fun ρ' μ1 => Wp (te ρ' μ1) fun y μ3 => R y ∧ I (i + j + 1) μ3) →
    (∀ ys μ', ys.length = bs.length → (∀ y ∈ ys, R y) → I (i + bs.length) μ' → P ys μ') → Wp (lcM g tYesM te ρ bs μ) P
  | [], i, μ, P, h0, _, fin => .mk (fin [] μ rfl (fun y h => by cases h) h0)
  | b :: bs, i, μ, P, h0, step, fin => by
    unfold lcM
    rw [Wp_gb]
    refine Wp_mono (step 0 b μ rfl h0) fun ρ' μ1 w1 => ?_
    rw [Wp_gb]
    show Wp (.ok true μ1) _
    rw [Wp_ok, if_pos rfl, Wp_gb]
    refine Wp_mono w1 fun y μ3 w3 => ?_
    rw [Wp_gb]
    refine Wp_lcM_y I R (bs := bs) (i := i + 1) w3.2 (fun j c μ5 hj hi => ?_) fun ys μ' l1 l2 l3 => .mk ?_
    · have := step (j + 1) c μ5 (by simpa using hj) (by rw [show i + (j + 1) = i + 1 + j by omega]; exact hi)
      rw [show i + (j + 1) + 1 = i + 1 + j + 1 by omega] at this
      exact this
    · refine fin (y :: ys) μ' (congrArg Nat.succ l1) (fun x hx => ?_) (by rw [List.length_cons, show i + (bs.length + 1) = i + 1 + bs.length by omega]; exact l3)
      rcases List.mem_cons.mp hx with e | hx
      · rw [e]; exact w3.1
      · exact l2 x hx
theorem Wp_lcF {fin : OpN} {g : MG} {tt : MT} {te : ME} {vs : List Nat} {ρ : DEnv} {bs : List Dv} {μ : Store} {P : Dv → Store → Prop} (hb : bs.length ≤ 16000000) (h : Wp (lcM g tt te (wipeD ρ vs) bs μ) fun ys μ' => Wp (fin ys μ') P) : Wp (lcF fin g tt te vs ρ bs μ) P := by
  unfold lcF
  rw [if_pos (Nat.le_trans hb line_big), Wp_gb]
  exact h
def forP (I : DEnv → Store → Prop) (P : Fl → Store → Prop) : Fl → Store → Prop := fun f μ => match f with
  | .nx ρ => I ρ μ
  | .ct ρ => I ρ μ
  | .bk ρ => P (.nx ρ) μ
  | .rt v => P (.rt v) μ
theorem Wp_forL {g : MG} {mb : MS} (I : Nat → DEnv → Store → Prop) : ∀ {bs : List Dv} {i : Nat} {ρ : DEnv} {μ : Store} {P : Fl → Store → Prop}, I i ρ μ →
    (∀ j b ρ μ, bs[j]? = some b → I (i + j) ρ μ → Wp (g b ρ μ) fun ρ1 μ1 => Wp (mb ρ1 μ1) (forP (I (i + j + 1)) P)) →
    (∀ ρ' μ', I (i + bs.length) ρ' μ' → P (.nx ρ') μ') → Wp (forL g mb bs ρ μ) P
  | [], i, ρ, μ, P, h0, _, fin => .mk (fin ρ μ h0)
  | b :: bs, i, ρ, μ, P, h0, step, fin => by
    unfold forL
    rw [Wp_gb]
    refine Wp_mono (step 0 b ρ μ rfl h0) fun ρ1 μ1 w1 => ?_
    rw [Wp_bind]
    refine Wp_mono w1 fun f μ2 w2 => ?_
    have rest : ∀ ρ2, I (i + 1) ρ2 μ2 → Wp (forL g mb bs ρ2 μ2) P := fun ρ2 i2 => by
      refine Wp_forL I (bs := bs) (i := i + 1) i2 (fun j c ρ μ hj hi => ?_) fun ρ' μ' l => fin ρ' μ' (by rw [List.length_cons, show i + (bs.length + 1) = i + 1 + bs.length by omega]; exact l)
      have := step (j + 1) c ρ μ (by simpa using hj) (by rw [show i + (j + 1) = i + 1 + j by omega]; exact hi)
      rw [show i + (j + 1) + 1 = i + 1 + j + 1 by omega] at this
      exact this
    cases f with
    | nx ρ2 => exact rest ρ2 w2
    | ct ρ2 => exact rest ρ2 w2
    | bk ρ2 => exact .mk w2
    | rt v => exact .mk w2
section
variable {β : Type} {ρ : DEnv} {μ : Store} {i j n m : Nat} {a c o : ME} {t u mb : MS} {g : MG} {r : MGs} {mi : MI} {tt x y : MT} {ma mk : MA} {lo hi : MO} {P : Fl → Store → Prop} {Q : Dv → Store → Prop} {B : Bool → Store → Prop} {A : List Dv → Store → Prop} {E : DEnv → Store → Prop} {O : Option Int → Store → Prop}
def kSeq (u : MS) (P : Fl → Store → Prop) : Fl → Store → Prop := fun f μ => match f with
  | .nx ρ => Wp (u ρ μ) P
  | .rt b => P (.rt b) μ
  | .bk ρ => P (.bk ρ) μ
  | .ct ρ => P (.ct ρ) μ
@[simp ↓] theorem Wp_sSeq : Wp (sSeq t u ρ μ) P = Wp (t ρ μ) (kSeq u P) := by
  unfold sSeq
  rw [Wp_bind]
  congr 1
  funext f μ
  cases f with
  | nx ρ => rfl
  | rt b => exact Wp_ok
  | bk ρ => exact Wp_ok
  | ct ρ => exact Wp_ok
@[simp ↓] theorem kSeq_nx : kSeq u P (.nx ρ) μ = Wp (u ρ μ) P := id rfl
@[simp ↓] theorem kSeq_rt {b : Dv} : kSeq u P (.rt b) μ = P (.rt b) μ := id rfl
@[simp ↓] theorem kSeq_bk : kSeq u P (.bk ρ) μ = P (.bk ρ) μ := id rfl
@[simp ↓] theorem kSeq_ct : kSeq u P (.ct ρ) μ = P (.ct ρ) μ := id rfl
@[simp ↓] theorem Wp_sNext : Wp (sNext ρ μ) P = P (.nx ρ) μ := Wp_ok
@[simp ↓] theorem Wp_sBreak : Wp (sBreak ρ μ) P = P (.bk ρ) μ := Wp_ok
@[simp ↓] theorem Wp_sCont : Wp (sCont ρ μ) P = P (.ct ρ) μ := Wp_ok
@[simp ↓] theorem Wp_sRetN : Wp (sRetN ρ μ) P = P (.rt (.d .none)) μ := Wp_ok
@[simp ↓] theorem Wp_eC {b : Dv} : Wp (eC b ρ μ) Q = Q b μ := Wp_ok
@[simp ↓] theorem Wp_aNil : Wp (aNil ρ μ) A = A [] μ := Wp_ok
@[simp ↓] theorem Wp_oNone : Wp (oNone ρ μ) O = O none μ := Wp_ok
@[simp ↓] theorem Wp_gN {b : Dv} : Wp (gN i b ρ μ) E = E (ρ.set i (some b)) μ := Wp_ok
@[simp ↓] theorem Wp_gsNil : Wp (gsNil [] ρ μ) E = E ρ μ := Wp_ok
@[simp ↓] theorem Wp_tYes : Wp (tYesM ρ μ) B = B true μ := Wp_ok
def kRet (P : Fl → Store → Prop) : Dv → Store → Prop := fun b μ => P (.rt b) μ
@[simp ↓] theorem kRet_r {b : Dv} : kRet P b μ = P (.rt b) μ := id rfl
@[simp ↓] theorem Wp_sRet : Wp (sRet a ρ μ) P = Wp (a ρ μ) (kRet P) := by
  unfold sRet
  rw [Wp_bind]
  try simp only [Wp_ok]
  rfl
def kDrop (ρ : DEnv) (P : Fl → Store → Prop) : Dv → Store → Prop := fun b μ => P (.nx ρ) μ
@[simp ↓] theorem kDrop_r {b : Dv} : kDrop ρ P b μ = P (.nx ρ) μ := id rfl
@[simp ↓] theorem Wp_sDrop : Wp (sDrop a ρ μ) P = Wp (a ρ μ) (kDrop ρ P) := by
  unfold sDrop
  rw [Wp_bind]
  try simp only [Wp_ok]
  rfl
def kSet (i : Nat) (ρ : DEnv) (P : Fl → Store → Prop) : Dv → Store → Prop := fun b μ => P (.nx (ρ.set i (some b))) μ
@[simp ↓] theorem kSet_r {b : Dv} : kSet i ρ P b μ = P (.nx (ρ.set i (some b))) μ := id rfl
@[simp ↓] theorem Wp_sSet : Wp (sSet i a ρ μ) P = Wp (a ρ μ) (kSet i ρ P) := by
  unfold sSet
  rw [Wp_bind]
  try simp only [Wp_ok]
  rfl
def kPar (i j : Nat) (ρ : DEnv) (P : Fl → Store → Prop) : List Dv → Store → Prop := fun b μ => Wp (parF i j ρ b μ) P
@[simp ↓] theorem kPar_r {b : List Dv} : kPar i j ρ P b μ = Wp (parF i j ρ b μ) P := id rfl
@[simp ↓] theorem Wp_sPar : Wp (sPar i j ma ρ μ) P = Wp (ma ρ μ) (kPar i j ρ P) := by
  unfold sPar
  rw [Wp_bind]
  rfl
def kNx (P : Fl → Store → Prop) : DEnv → Store → Prop := fun ρ μ => P (.nx ρ) μ
@[simp ↓] theorem kNx_r : kNx P ρ μ = P (.nx ρ) μ := id rfl
def kAsg (g : MG) (ρ : DEnv) (P : Fl → Store → Prop) : Dv → Store → Prop := fun b μ => Wp (g b ρ μ) (kNx P)
@[simp ↓] theorem kAsg_r {b : Dv} : kAsg g ρ P b μ = Wp (g b ρ μ) (kNx P) := id rfl
@[simp ↓] theorem Wp_sAsg : Wp (sAsg a g ρ μ) P = Wp (a ρ μ) (kAsg g ρ P) := by
  unfold sAsg
  rw [Wp_bind]
  congr 1
  funext b μ
  rw [Wp_gb]
  simp only [Wp_ok]
  rfl
def kSI3 (v x : Dv) (ρ : DEnv) (P : Fl → Store → Prop) : Dv → Store → Prop := fun b μ => Wp (optN (dSetIx x b v μ) ρ) P
@[simp ↓] theorem kSI3_r {b : Dv} {v x : Dv} : kSI3 v x ρ P b μ = Wp (optN (dSetIx x b v μ) ρ) P := id rfl
def kSI2 (v : Dv) (c : ME) (ρ : DEnv) (P : Fl → Store → Prop) : Dv → Store → Prop := fun b μ => Wp (c ρ μ) (kSI3 v b ρ P)
@[simp ↓] theorem kSI2_r {b : Dv} {v : Dv} : kSI2 v c ρ P b μ = Wp (c ρ μ) (kSI3 v b ρ P) := id rfl
def kSI1 (o c : ME) (ρ : DEnv) (P : Fl → Store → Prop) : Dv → Store → Prop := fun b μ => Wp (o ρ μ) (kSI2 b c ρ P)
@[simp ↓] theorem kSI1_r {b : Dv}  : kSI1 o c ρ P b μ = Wp (o ρ μ) (kSI2 b c ρ P) := id rfl
@[simp ↓] theorem Wp_sSetIx : Wp (sSetIx a o c ρ μ) P = Wp (a ρ μ) (kSI1 o c ρ P) := by
  unfold sSetIx
  simp only [Wp_bind]
  rfl
def kFor (g : MG) (mb : MS) (ρ : DEnv) (P : Fl → Store → Prop) : List Dv → Store → Prop := fun b μ => Wp (forL g mb b ρ μ) P
@[simp ↓] theorem kFor_r {b : List Dv}  : kFor g mb ρ P b μ = Wp (forL g mb b ρ μ) P := id rfl
@[simp ↓] theorem Wp_sFor : Wp (sFor mi g mb ρ μ) P = Wp (mi ρ μ) (kFor g mb ρ P) := by
  unfold sFor
  simp only [Wp_bind]
  rfl
def kForE (g : MG) (mb : MS) (n : Nat) (ρ : DEnv) (P : Fl → Store → Prop) : Dv → Store → Prop := fun b μ => Wp (forEb g mb n b ρ μ) P
@[simp ↓] theorem kForE_r {b : Dv}  : kForE g mb n ρ P b μ = Wp (forEb g mb n b ρ μ) P := id rfl
@[simp ↓] theorem Wp_sForE : Wp (sForE a g mb n ρ μ) P = Wp (a ρ μ) (kForE g mb n ρ P) := by
  unfold sForE
  simp only [Wp_bind]
  rfl
def kForC (g : MG) (mb : MS) (n : Nat) (ρ : DEnv) (P : Fl → Store → Prop) : Dv → Store → Prop := fun b μ => Wp (forCb g mb n b ρ μ) P
@[simp ↓] theorem kForC_r {b : Dv}  : kForC g mb n ρ P b μ = Wp (forCb g mb n b ρ μ) P := id rfl
@[simp ↓] theorem Wp_sForC : Wp (sForC a g mb n ρ μ) P = Wp (a ρ μ) (kForC g mb n ρ P) := by
  unfold sForC
  simp only [Wp_bind]
  rfl
def kE1 (f : Op1) (Q : Dv → Store → Prop) : Dv → Store → Prop := fun b μ => Wp (f b μ) Q
@[simp ↓] theorem kE1_r {b : Dv} {f : Op1} : kE1 f Q b μ = Wp (f b μ) Q := id rfl
@[simp ↓] theorem Wp_e1 {f : Op1} : Wp (e1 f a ρ μ) Q = Wp (a ρ μ) (kE1 f Q) := by
  unfold e1
  simp only [Wp_bind]
  rfl
def kE2b (f : Op2) (v : Dv) (Q : Dv → Store → Prop) : Dv → Store → Prop := fun b μ => Wp (f v b μ) Q
@[simp ↓] theorem kE2b_r {b : Dv} {f : Op2} {v : Dv} : kE2b f v Q b μ = Wp (f v b μ) Q := id rfl
def kE2 (f : Op2) (c : ME) (ρ : DEnv) (Q : Dv → Store → Prop) : Dv → Store → Prop := fun b μ => Wp (c ρ μ) (kE2b f b Q)
@[simp ↓] theorem kE2_r {b : Dv} {f : Op2} : kE2 f c ρ Q b μ = Wp (c ρ μ) (kE2b f b Q) := id rfl
@[simp ↓] theorem Wp_e2 {f : Op2} : Wp (e2 f a c ρ μ) Q = Wp (a ρ μ) (kE2 f c ρ Q) := by
  unfold e2
  simp only [Wp_bind]
  rfl
def kTV (B : Bool → Store → Prop) : Dv → Store → Prop := fun b μ => Wp (asBool b μ) B
@[simp ↓] theorem kTV_r {b : Dv}  : kTV B b μ = Wp (asBool b μ) B := id rfl
@[simp ↓] theorem Wp_tV : Wp (tV a ρ μ) B = Wp (a ρ μ) (kTV B) := by
  unfold tV
  simp only [Wp_bind]
  rfl
def kNot (B : Bool → Store → Prop) : Bool → Store → Prop := fun b μ => B (!b) μ
@[simp ↓] theorem kNot_r {b : Bool}  : kNot B b μ = B (!b) μ := id rfl
@[simp ↓] theorem Wp_tNotM : Wp (tNotM tt ρ μ) B = Wp (tt ρ μ) (kNot B) := by
  unfold tNotM
  simp only [Wp_bind]
  try simp only [Wp_ok]
  rfl
def kN (f : OpN) (Q : Dv → Store → Prop) : List Dv → Store → Prop := fun b μ => Wp (f b μ) Q
@[simp ↓] theorem kN_r {b : List Dv} {f : OpN} : kN f Q b μ = Wp (f b μ) Q := id rfl
@[simp ↓] theorem Wp_eN {f : OpN} : Wp (eN f ma ρ μ) Q = Wp (ma ρ μ) (kN f Q) := by
  unfold eN
  simp only [Wp_bind]
  rfl
def kAC2 (v : Dv) (A : List Dv → Store → Prop) : List Dv → Store → Prop := fun b μ => A (v :: b) μ
@[simp ↓] theorem kAC2_r {b : List Dv} {v : Dv} : kAC2 v A b μ = A (v :: b) μ := id rfl
def kAC (ma : MA) (ρ : DEnv) (A : List Dv → Store → Prop) : Dv → Store → Prop := fun b μ => Wp (ma ρ μ) (kAC2 b A)
@[simp ↓] theorem kAC_r {b : Dv}  : kAC ma ρ A b μ = Wp (ma ρ μ) (kAC2 b A) := id rfl
@[simp ↓] theorem Wp_aCons : Wp (aCons a ma ρ μ) A = Wp (a ρ μ) (kAC ma ρ A) := by
  unfold aCons
  simp only [Wp_bind]
  try simp only [Wp_ok]
  rfl
def kSl3 (v : Dv) (k : Option Int) (Q : Dv → Store → Prop) : Option Int → Store → Prop := fun b μ => Wp (dSl v k b μ) Q
@[simp ↓] theorem kSl3_r {b : Option Int} {v : Dv} {k : Option Int} : kSl3 v k Q b μ = Wp (dSl v k b μ) Q := id rfl
def kSl2 (v : Dv) (hi : MO) (ρ : DEnv) (Q : Dv → Store → Prop) : Option Int → Store → Prop := fun b μ => Wp (hi ρ μ) (kSl3 v b Q)
@[simp ↓] theorem kSl2_r {b : Option Int} {v : Dv} : kSl2 v hi ρ Q b μ = Wp (hi ρ μ) (kSl3 v b Q) := id rfl
def kSl (lo hi : MO) (ρ : DEnv) (Q : Dv → Store → Prop) : Dv → Store → Prop := fun b μ => Wp (lo ρ μ) (kSl2 b hi ρ Q)
@[simp ↓] theorem kSl_r {b : Dv}  : kSl lo hi ρ Q b μ = Wp (lo ρ μ) (kSl2 b hi ρ Q) := id rfl
@[simp ↓] theorem Wp_eSl : Wp (eSl a lo hi ρ μ) Q = Wp (a ρ μ) (kSl lo hi ρ Q) := by
  unfold eSl
  simp only [Wp_bind]
  rfl
def kOS (O : Option Int → Store → Prop) : Dv → Store → Prop := fun b μ => Wp (asInt b μ) O
@[simp ↓] theorem kOS_r {b : Dv}  : kOS O b μ = Wp (asInt b μ) O := id rfl
@[simp ↓] theorem Wp_oSome : Wp (oSome a ρ μ) O = Wp (a ρ μ) (kOS O) := by
  unfold oSome
  simp only [Wp_bind]
  rfl
def kIN (k : Bool) (Q : Dv → Store → Prop) : Dv → Store → Prop := fun b μ => Wp (dIsN k b (.d .none) μ) Q
@[simp ↓] theorem kIN_r {b : Dv} {k : Bool} : kIN k Q b μ = Wp (dIsN k b (.d .none) μ) Q := id rfl
@[simp ↓] theorem Wp_eIsN {k : Bool} : Wp (eIsN k a ρ μ) Q = Wp (a ρ μ) (kIN k Q) := by
  unfold eIsN
  simp only [Wp_bind]
  rfl
def kLc (f : OpN) (g : MG) (tt : MT) (c : ME) (vs : List Nat) (ρ : DEnv) (Q : Dv → Store → Prop) : List Dv → Store → Prop := fun b μ => Wp (lcF f g tt c vs ρ b μ) Q
@[simp ↓] theorem kLc_r {b : List Dv} {f : OpN} {vs : List Nat} : kLc f g tt c vs ρ Q b μ = Wp (lcF f g tt c vs ρ b μ) Q := id rfl
@[simp ↓] theorem Wp_eLc {f : OpN} {vs : List Nat} : Wp (eLc f mi g tt c vs ρ μ) Q = Wp (mi ρ μ) (kLc f g tt c vs ρ Q) := by
  unfold eLc
  simp only [Wp_bind]
  rfl
def kLcC (f : OpN) (g : MG) (tt : MT) (c : ME) (vs : List Nat) (n : Nat) (ρ : DEnv) (Q : Dv → Store → Prop) : Dv → Store → Prop := fun b μ => Wp (lcCb f g tt c vs n ρ b μ) Q
@[simp ↓] theorem kLcC_r {b : Dv} {f : OpN} {vs : List Nat} : kLcC f g tt c vs n ρ Q b μ = Wp (lcCb f g tt c vs n ρ b μ) Q := id rfl
@[simp ↓] theorem Wp_eLcC {f : OpN} {vs : List Nat} : Wp (eLcC f a g tt c vs n ρ μ) Q = Wp (a ρ μ) (kLcC f g tt c vs n ρ Q) := by
  unfold eLcC
  simp only [Wp_bind]
  rfl
def kIS (A : List Dv → Store → Prop) : Dv → Store → Prop := fun b μ => Wp (walkD b μ) A
@[simp ↓] theorem kIS_r {b : Dv}  : kIS A b μ = Wp (walkD b μ) A := id rfl
@[simp ↓] theorem Wp_iSeq : Wp (iSeq a ρ μ) A = Wp (a ρ μ) (kIS A) := by
  unfold iSeq
  simp only [Wp_bind]
  rfl
def kIR (f : List Dv → Store → Out (List Dv)) (A : List Dv → Store → Prop) : List Dv → Store → Prop := fun b μ => Wp (f b μ) A
@[simp ↓] theorem kIR_r {b : List Dv} {f : List Dv → Store → Out (List Dv)} : kIR f A b μ = Wp (f b μ) A := id rfl
@[simp ↓] theorem Wp_iRng {f : List Dv → Store → Out (List Dv)} : Wp (iRng f ma ρ μ) A = Wp (ma ρ μ) (kIR f A) := by
  unfold iRng
  simp only [Wp_bind]
  rfl
def kIf (t u : MS) (ρ : DEnv) (P : Fl → Store → Prop) : Bool → Store → Prop := fun b μ => match b with
  | true => Wp (t ρ μ) P
  | false => Wp (u ρ μ) P
@[simp ↓] theorem kIf_t : kIf t u ρ P true μ = Wp (t ρ μ) P := id rfl
@[simp ↓] theorem kIf_f : kIf t u ρ P false μ = Wp (u ρ μ) P := id rfl
theorem kIf_s {b : Bool} (h1 : b = true → Wp (t ρ μ) P) (h2 : b = false → Wp (u ρ μ) P) : kIf t u ρ P b μ := by
  cases b with
  | true => exact h1 rfl
  | false => exact h2 rfl
@[simp ↓] theorem Wp_sIf : Wp (sIf tt t u ρ μ) P = Wp (tt ρ μ) (kIf t u ρ P) := by
  unfold sIf
  rw [Wp_bind]
  congr 1
  funext b μ
  cases b
  · first | rfl | exact Wp_ok | (simp only [Bool.false_eq_true, if_false]; first | rfl | exact Wp_ok)
  · first | rfl | exact Wp_ok | (simp only [if_true]; first | rfl | exact Wp_ok)
def kAnd (x : MT) (ρ : DEnv) (B : Bool → Store → Prop) : Bool → Store → Prop := fun b μ => match b with
  | true => Wp (x ρ μ) B
  | false => B false μ
@[simp ↓] theorem kAnd_t : kAnd x ρ B true μ = Wp (x ρ μ) B := id rfl
@[simp ↓] theorem kAnd_f : kAnd x ρ B false μ = B false μ := id rfl
@[simp ↓] theorem Wp_tAndM : Wp (tAndM tt x ρ μ) B = Wp (tt ρ μ) (kAnd x ρ B) := by
  unfold tAndM
  rw [Wp_bind]
  congr 1
  funext b μ
  cases b
  · first | rfl | exact Wp_ok | (simp only [Bool.false_eq_true, if_false]; first | rfl | exact Wp_ok)
  · first | rfl | exact Wp_ok | (simp only [if_true]; first | rfl | exact Wp_ok)
def kOr (x : MT) (ρ : DEnv) (B : Bool → Store → Prop) : Bool → Store → Prop := fun b μ => match b with
  | true => B true μ
  | false => Wp (x ρ μ) B
@[simp ↓] theorem kOr_t : kOr x ρ B true μ = B true μ := id rfl
@[simp ↓] theorem kOr_f : kOr x ρ B false μ = Wp (x ρ μ) B := id rfl
theorem kOr_s {b : Bool} (h1 : b = true → B true μ) (h2 : b = false → Wp (x ρ μ) B) : kOr x ρ B b μ := by
  cases b with
  | true => exact h1 rfl
  | false => exact h2 rfl
@[simp ↓] theorem Wp_tOrM : Wp (tOrM tt x ρ μ) B = Wp (tt ρ μ) (kOr x ρ B) := by
  unfold tOrM
  rw [Wp_bind]
  congr 1
  funext b μ
  cases b
  · first | rfl | exact Wp_ok | (simp only [Bool.false_eq_true, if_false]; first | rfl | exact Wp_ok)
  · first | rfl | exact Wp_ok | (simp only [if_true]; first | rfl | exact Wp_ok)
def kEI (a c : ME) (ρ : DEnv) (Q : Dv → Store → Prop) : Bool → Store → Prop := fun b μ => match b with
  | true => Wp (a ρ μ) Q
  | false => Wp (c ρ μ) Q
@[simp ↓] theorem kEI_t : kEI a c ρ Q true μ = Wp (a ρ μ) Q := id rfl
@[simp ↓] theorem kEI_f : kEI a c ρ Q false μ = Wp (c ρ μ) Q := id rfl
theorem kEI_s {b : Bool} (h1 : b = true → Wp (a ρ μ) Q) (h2 : b = false → Wp (c ρ μ) Q) : kEI a c ρ Q b μ := by
  cases b with
  | true => exact h1 rfl
  | false => exact h2 rfl
@[simp ↓] theorem Wp_eIf : Wp (eIf tt a c ρ μ) Q = Wp (tt ρ μ) (kEI a c ρ Q) := by
  unfold eIf
  rw [Wp_bind]
  congr 1
  funext b μ
  cases b
  · first | rfl | exact Wp_ok | (simp only [Bool.false_eq_true, if_false]; first | rfl | exact Wp_ok)
  · first | rfl | exact Wp_ok | (simp only [if_true]; first | rfl | exact Wp_ok)
def kEA (c : ME) (ρ : DEnv) (Q : Dv → Store → Prop) : Bool → Store → Prop := fun b μ => match b with
  | true => Wp (c ρ μ) Q
  | false => Q (.d (.bool false)) μ
@[simp ↓] theorem kEA_t : kEA c ρ Q true μ = Wp (c ρ μ) Q := id rfl
@[simp ↓] theorem kEA_f : kEA c ρ Q false μ = Q (.d (.bool false)) μ := id rfl
theorem kEA_s {b : Bool} (h1 : b = true → Wp (c ρ μ) Q) (h2 : b = false → Q (.d (.bool false)) μ) : kEA c ρ Q b μ := by
  cases b with
  | true => exact h1 rfl
  | false => exact h2 rfl
def kEA0 (c : ME) (ρ : DEnv) (Q : Dv → Store → Prop) : Dv → Store → Prop := fun b μ => Wp (asBool b μ) (kEA c ρ Q)
@[simp ↓] theorem kEA0_r {b : Dv} : kEA0 c ρ Q b μ = Wp (asBool b μ) (kEA c ρ Q) := id rfl
@[simp ↓] theorem Wp_eAnd : Wp (eAnd a c ρ μ) Q = Wp (a ρ μ) (kEA0 c ρ Q) := by
  unfold eAnd
  simp only [Wp_bind]
  congr 1
  funext b μ
  unfold kEA0
  congr 1
  funext k μ
  cases k
  · first | rfl | exact Wp_ok | (simp only [Bool.false_eq_true, if_false]; first | rfl | exact Wp_ok)
  · first | rfl | exact Wp_ok | (simp only [if_true]; first | rfl | exact Wp_ok)
def kEO (c : ME) (ρ : DEnv) (Q : Dv → Store → Prop) : Bool → Store → Prop := fun b μ => match b with
  | true => Q (.d (.bool true)) μ
  | false => Wp (c ρ μ) Q
@[simp ↓] theorem kEO_t : kEO c ρ Q true μ = Q (.d (.bool true)) μ := id rfl
@[simp ↓] theorem kEO_f : kEO c ρ Q false μ = Wp (c ρ μ) Q := id rfl
theorem kEO_s {b : Bool} (h1 : b = true → Q (.d (.bool true)) μ) (h2 : b = false → Wp (c ρ μ) Q) : kEO c ρ Q b μ := by
  cases b with
  | true => exact h1 rfl
  | false => exact h2 rfl
def kEO0 (c : ME) (ρ : DEnv) (Q : Dv → Store → Prop) : Dv → Store → Prop := fun b μ => Wp (asBool b μ) (kEO c ρ Q)
@[simp ↓] theorem kEO0_r {b : Dv} : kEO0 c ρ Q b μ = Wp (asBool b μ) (kEO c ρ Q) := id rfl
@[simp ↓] theorem Wp_eOr : Wp (eOr a c ρ μ) Q = Wp (a ρ μ) (kEO0 c ρ Q) := by
  unfold eOr
  simp only [Wp_bind]
  congr 1
  funext b μ
  unfold kEO0
  congr 1
  funext k μ
  cases k
  · first | rfl | exact Wp_ok | (simp only [Bool.false_eq_true, if_false]; first | rfl | exact Wp_ok)
  · first | rfl | exact Wp_ok | (simp only [if_true]; first | rfl | exact Wp_ok)
def kEN1 (Q : Dv → Store → Prop) : Bool → Store → Prop := fun k μ => Q (.d (.bool (!k))) μ
@[simp ↓] theorem kEN1_r {k : Bool} : kEN1 Q k μ = Q (.d (.bool (!k))) μ := id rfl
def kEN (Q : Dv → Store → Prop) : Dv → Store → Prop := fun b μ => Wp (asBool b μ) (kEN1 Q)
@[simp ↓] theorem kEN_r {b : Dv} : kEN Q b μ = Wp (asBool b μ) (kEN1 Q) := id rfl
@[simp ↓] theorem Wp_eNot : Wp (eNot a ρ μ) Q = Wp (a ρ μ) (kEN Q) := by
  unfold eNot
  simp only [Wp_bind, Wp_ok]
  rfl
@[simp ↓] theorem Wp_fCall {F : OpN} {bs : List Dv} (h : bs.length = n) : Wp (fCall n F bs μ) Q = Wp (F bs μ) Q := by
  rw [fCall_r, if_pos h]
def kM2 (f : Dv → OpN) (v : Dv) (Q : Dv → Store → Prop) : List Dv → Store → Prop := fun b μ => Wp (f v b μ) Q
@[simp ↓] theorem kM2_r {f : Dv → OpN} {v : Dv} {b : List Dv} : kM2 f v Q b μ = Wp (f v b μ) Q := id rfl
def kM (k : Dv → Store → Bool) (f : Dv → OpN) (ma : MA) (ρ : DEnv) (Q : Dv → Store → Prop) : Dv → Store → Prop := fun b μ => k b μ = true ∧ Wp (ma ρ μ) (kM2 f b Q)
@[simp ↓] theorem kM_r {k : Dv → Store → Bool} {f : Dv → OpN} {b : Dv} (h : k b μ = true) : kM k f ma ρ Q b μ = Wp (ma ρ μ) (kM2 f b Q) := by
  unfold kM
  simp [h]
@[simp ↓] theorem Wp_eM {k : Dv → Store → Bool} {f : Dv → OpN} : Wp (eM k f a ma ρ μ) Q = Wp (a ρ μ) (kM k f ma ρ Q) := by
  unfold eM
  rw [Wp_bind]
  congr 1
  funext b μ
  unfold kM
  split
  · rename_i h
    rw [Wp_bind]
    simp only [h, true_and]
    rfl
  · rename_i h
    simp only [h, false_and]
    simp [Wp_bad]
def kGs (r : MGs) (bs : List Dv) (E : DEnv → Store → Prop) : DEnv → Store → Prop := fun ρ μ => Wp (r bs ρ μ) E
@[simp ↓] theorem kGs_r {bs : List Dv} : kGs r bs E ρ μ = Wp (r bs ρ μ) E := id rfl
@[simp ↓] theorem Wp_gsCons {b : Dv} {bs : List Dv} : Wp (gsCons g r (b :: bs) ρ μ) E = Wp (g b ρ μ) (kGs r bs E) := by
  show Wp ((g b ρ μ).bind fun ρ μ => r bs ρ μ) E = _
  rw [Wp_bind]
  rfl
@[simp ↓] theorem Wp_gT {ds : List D} (h : ds.length = n) : Wp (gT n r (.d (.tuple ds)) ρ μ) E = Wp (r (ds.map .d) ρ μ) E := by
  rw [gT_r, if_pos h]
def kK2 (n m : Nat) (ix : List Nat) (F : OpN) (bs : List Dv) (Q : Dv → Store → Prop) : List Dv → Store → Prop := fun cs μ => cs.length = m ∧ Wp (fCall n F (pickL (.d .none) ix (bs ++ cs)) μ) Q
@[simp ↓] theorem kK2_r {ix : List Nat} {F : OpN} {bs cs : List Dv} (h : cs.length = m) : kK2 n m ix F bs Q cs μ = Wp (fCall n F (pickL (.d .none) ix (bs ++ cs)) μ) Q := by
  unfold kK2
  simp [h]
def kK1 (n m : Nat) (ix : List Nat) (F : OpN) (mk : MA) (ρ : DEnv) (Q : Dv → Store → Prop) : List Dv → Store → Prop := fun bs μ => Wp (mk ρ μ) (kK2 n m ix F bs Q)
@[simp ↓] theorem kK1_r {ix : List Nat} {F : OpN} {bs : List Dv} : kK1 n m ix F mk ρ Q bs μ = Wp (mk ρ μ) (kK2 n m ix F bs Q) := id rfl
@[simp ↓] theorem Wp_eCallK {ix : List Nat} {F : OpN} : Wp (eCallK n m ix F ma mk ρ μ) Q = Wp (ma ρ μ) (kK1 n m ix F mk ρ Q) := by
  unfold eCallK
  simp only [Wp_bind]
  congr 1
  funext bs μ
  unfold kK1
  congr 1
  funext cs μ
  unfold kK2
  split
  · rename_i h
    simp only [h, true_and]
  · rename_i h
    simp only [h, false_and]
    simp [Wp_bad]
end
end DL

local macro_rules | `(tactic| simp_arith [$xs,*]) => `(tactic| simp -implicitDefEqProofs (disch := first | (with_reducible assumption) | ((with_reducible show List.length _ = _); rfl) | (simp only [DL.allD_cons, DL.allD_nil, Option.map_some, Option.isSome_some]; done) | (simp only [List.length_cons, List.length_nil, List.length_map]; done) | ((with_reducible refine DL.cMod_of ?_); omega) | ((with_reducible refine DL.cDiv_of ?_ ?_) <;> omega) | ((with_reducible refine DL.okR_of ?_ ?_) <;> omega) | omega | (simp only [List.length_take, List.length_drop, List.length_append, List.length_cons, List.length_nil, List.length_map, List.length_range, List.length_replicate]; omega)) [-DL.sSeq_r, -DL.sRet_r, -DL.sDrop_r, -DL.sSet_r, -DL.sIf_r, -DL.sPar_r, -DL.sAsg_r, -DL.sSetIx_r, -DL.sFor_r, -DL.gsCons_r, -DL.gT_r, -DL.e1_r, -DL.e2_r, -DL.tV_r, -DL.tAndM_r, -DL.tOrM_r, -DL.tNotM_r, -DL.eAnd_r, -DL.eOr_r, -DL.eNot_r, -DL.eIf_r, -DL.aCons_r, -DL.eN_r, -DL.fCall_r, -DL.eCallK_r, -DL.eM_r, -DL.eSl_r, -DL.oSome_r, -DL.eIsN_r, -DL.eLc_r, -DL.iSeq_r, -DL.iRng_r, $xs,*])
namespace DL
open PySem PySem.Spec PyProof.Rows L2
/-- k: how deep at most, c: how long its repr is at most -/
structure Sm (k c : Nat) (d : D) : Prop where
  sh : d.showable = true
  nd : nodict d = true
  hd : d.hasDict = false
  dp : d.depth ≤ k
  ln : d.shown.length ≤ c
theorem Sm.mono {k c k' c' : Nat} {d : D} (h : Sm k c d) (hk : k ≤ k') (hc : c ≤ c') : Sm k' c' d := ⟨h.sh, h.nd, h.hd, Nat.le_trans h.dp hk, Nat.le_trans h.ln hc⟩
theorem Sm.int {i : Int} (h : i.natAbs < 10 ^ 40) : Sm 0 41 (.int i) := by
  have s : smallD (.int i) = true := decide_eq_true h
  obtain ⟨a, b, c, d⟩ := small_show s
  exact ⟨a, b, c, by rw [d]; exact Nat.le_refl _, small_len s⟩
theorem Sm.none : Sm 0 4 .none := ⟨rfl, rfl, rfl, Nat.le_refl _, by decide +kernel⟩
theorem Sm.bool (b : Bool) : Sm 0 5 (.bool b) := ⟨rfl, rfl, rfl, Nat.le_refl _, by cases b <;> decide +kernel⟩
theorem Sm.str {l : List Nat} (h : ∀ c ∈ l, c < 16 ^ 8) : Sm 0 (10 * l.length + 2) (.str (T l)) := by
  refine ⟨rfl, rfl, rfl, Nat.le_refl _, ?_⟩
  have := StrLaws.reprText_len (T l) h
  rw [T_len] at this
  rw [PyData.shown_str]
  exact this
theorem sm_all {k c : Nat} : ∀ {ds : List D}, (∀ d ∈ ds, Sm k c d) → PyData.showableAll ds = true ∧ nodicts ds = true ∧ PyData.hasDictAll ds = false ∧ PyData.depthAll ds ≤ k ∧ piled (PyData.shownAll ds) ≤ ds.length * (c + 2) ∧ (PyData.shownAll ds).length = ds.length
  | [], _ => ⟨rfl, rfl, rfl, Nat.zero_le _, Nat.zero_le _, rfl⟩
  | d :: ds, h => by
    obtain ⟨a1, a2, a3, a4, a5, a6⟩ := sm_all (ds := ds) fun e he => h e (List.mem_cons_of_mem _ he)
    obtain ⟨b1, b2, b3, b4, b5⟩ := h d List.mem_cons_self
    refine ⟨?_, ?_, ?_, ?_, ?_, ?_⟩
    · simp [PyData.showableAll, a1, b1]
    · simp [nodicts, a2, b2]
    · simp [PyData.hasDictAll, a3, b3]
    · simp only [PyData.depthAll]; omega
    · rw [PyData.shownAll, piled_cons, List.length_cons, Nat.succ_mul]; omega
    · rw [PyData.shownAll, List.length_cons, List.length_cons, a6]
theorem join_le : ∀ ts : List Str, (Str.join ", " ts).length ≤ piled ts
  | [] => Nat.zero_le _
  | t :: ts => by
    have := join_length_add (t :: ts) (by simp)
    omega
theorem listText_le : ∀ ts : List Str, (listText ts).length ≤ piled ts + 2
  | [] => by decide +kernel
  | t :: ts => by
    unfold listText
    rw [str_len_app]
    have e1 : Str.length ("]" : Str) = 1 := by decide +kernel
    have e2 : textFrom 0 "[" (t :: ts) = textFrom 1 (("[" : Str) ++ (if (0 : Nat) > 0 then ", " else "" : String) ++ t) ts := rfl
    rw [e1, e2, textFrom_length_pos ts 1 _ (by omega), piled_cons, str_len_app, str_len_app]
    have e3 : Str.length ("[" : Str) = 1 := by decide +kernel
    have e4 : Str.length (Str.ofString (if (0 : Nat) > 0 then ", " else "" : String)) = 0 := by decide +kernel
    rw [e3, e4]
    omega
theorem tupleText_le (ts : List Str) : (tupleText ts).length ≤ piled ts + 3 := by
  unfold tupleText
  rw [str_len_app, str_len_app]
  have h := join_le ts
  have e1 : Str.length ("(" : Str) = 1 := by decide +kernel
  have e2 : Str.length (Str.ofString (if ts.length == 1 then ",)" else ")" : String)) ≤ 2 := by
    split <;> decide +kernel
  rw [e1]
  omega
theorem Sm.list {k c n : Nat} {ds : List D} (h : ∀ d ∈ ds, Sm k c d) (hn : ds.length ≤ n) : Sm (k + 1) (n * (c + 2) + 3) (.list ds) := by
  obtain ⟨a1, a2, a3, a4, a5, a6⟩ := sm_all h
  have m : ds.length * (c + 2) ≤ n * (c + 2) := Nat.mul_le_mul_right _ hn
  refine ⟨by simpa [PyData.showable] using a1, by simpa [nodict] using a2, by simpa [PyData.hasDict] using a3, by simp only [PyData.depth]; omega, ?_⟩
  have := listText_le (PyData.shownAll ds)
  rw [PyData.shown]
  omega
theorem Sm.tup {k c n : Nat} {ds : List D} (h : ∀ d ∈ ds, Sm k c d) (hn : ds.length ≤ n) : Sm (k + 1) (n * (c + 2) + 3) (.tuple ds) := by
  obtain ⟨a1, a2, a3, a4, a5, a6⟩ := sm_all h
  have m : ds.length * (c + 2) ≤ n * (c + 2) := Nat.mul_le_mul_right _ hn
  refine ⟨by simpa [PyData.showable] using a1, by simpa [nodict] using a2, by simpa [PyData.hasDict] using a3, by simp only [PyData.depth]; omega, ?_⟩
  have := tupleText_le (PyData.shownAll ds)
  rw [PyData.shown]
  omega
end DL

namespace DL
open PySem PySem.Spec PyProof.Rows L2
section
variable {X : Cx} {pins : List (Addr × Obj)} {σ : L2.St} {H : Hp} {s : Shared}
theorem keyRepr {knd : KeyKind X.prog X.w Key} (hk : ∀ k v, knd.is k v = true → RelV (kV k) v) {k : Key} {v : Value} (h : knd.is k v = true) (hs : (kD k).showable = true) (hz : (kD k).shown.length ≤ sizeLine) {h0 : Heap} :
    Reads h0 v (kD k) [] ∧ ReprK X.prog X.w [] h0 0 v (kD k).shown := by
  have r := hk k v h
  cases k with
  | inl i =>
    obtain ⟨t, rfl⟩ := r
    exact ⟨.int i t, by simp only [kD, PyData.shown]; exact .of_is (ReprIs.int t (by simpa [kD, PyData.showable] using hs)) _ _ _⟩
  | inr x =>
    obtain ⟨t, rfl⟩ := r
    exact ⟨.str x t, by simp only [kD, PyData.shown]; exact .of_is (ReprIs.str x t (by simpa only [kD, PyData.shown] using hz)) _ _ _⟩
theorem mixRel {P : Program} {w : World} (k : Key) (v : Value) (h : (mixKind P w).is k v = true) : RelV (kV k) v := by
  rcases keyIs_shape h with ⟨i, t, rfl, rfl⟩ | ⟨x, t, rfl, rfl⟩
  · exact ⟨t, rfl⟩
  · exact ⟨t, rfl⟩
mutual
theorem reprG (I : Inv X pins σ H s) : ∀ (d : D) (v : V) (u : Value), Rp X.K H v d → RelV v u → d.showable = true → d.shown.length ≤ sizeLine →
    ∃ as bs, Reads s.heap u d as ∧ ReadAtMost s.heap d.depth bs ∧ ReprK X.prog X.w bs s.heap d.depth u d.shown
  | .none, _, _, h, r, _, _ => by
    cases h
    cases r
    exact ⟨_, [], .none, (fun _ h => nomatch h), by simp only [PyData.shown]; exact .of_is ReprIs.none _ _ _⟩
  | .bool b, _, _, h, r, _, _ => by
    cases h
    cases r
    exact ⟨_, [], .bool b, (fun _ h => nomatch h), by simp only [PyData.shown]; exact .of_is (ReprIs.bool b) _ _ _⟩
  | .int i, _, _, h, r, hs, _ => by
    cases h
    obtain ⟨t, rfl⟩ := r
    exact ⟨_, [], .int i t, (fun _ h => nomatch h), by simp only [PyData.shown]; exact .of_is (ReprIs.int t (by simpa [PyData.showable] using hs)) _ _ _⟩
  | .str x, _, _, h, r, _, hz => by
    cases h
    obtain ⟨t, rfl⟩ := r
    exact ⟨_, [], .str x t, (fun _ h => nomatch h), by simp only [PyData.shown]; exact .of_is (ReprIs.str x t (by simpa only [PyData.shown] using hz)) _ _ _⟩
  | .list ds, _, _, h, r, hs, hz => by
    cases h with
    | @lst a _ _ hs' ha =>
      cases r
      obtain ⟨its, rv, ⟨o, n, ho, hc, _, hd⟩, _⟩ := I.list hs'
      have hz' : (listText (PyData.shownAll ds)).length ≤ sizeLine := by simpa only [PyData.shown] using hz
      obtain ⟨as, bs, hr, hb, hk⟩ := reprGs I ds _ its ha rv (by simpa [PyData.showable] using hs) (fun t ht => Nat.le_trans (listText_mem_le ht) hz')
      have r : Reads s.heap (.ref a) (.list ds) _ := .list ho hc hd hr
      have hna : a ∉ bs := not_mem_of_deeper r (by simp only [PyData.depth]; omega) hb
      refine ⟨_, a :: bs, r, ReadAtMost.cons r (by simp only [PyData.depth]; omega) hb, ?_⟩
      simp only [PyData.depth, PyData.shown]
      cases its with
      | nil =>
        cases hr
        simp only [PyData.shownAll, listText_nil]
        exact ReprK.listEmpty ho hc hd
      | cons x l => exact ReprK.list ho hc hd hna (by simpa using hk.length_eq) (fun i y e => hk.item i y (by simpa using e))
  | .tuple ds, _, _, h, r, hs, hz => by
    cases h with
    | @tup a _ _ hs' ha =>
      cases r
      obtain ⟨its, rv, ⟨o, ho, hc, n, hd⟩, _⟩ := I.tuple hs'.t
      have hz' : (tupleText (PyData.shownAll ds)).length ≤ sizeLine := by simpa only [PyData.shown] using hz
      obtain ⟨as, bs, hr, hb, hk⟩ := reprGs I ds _ its ha rv (by simpa [PyData.showable] using hs) (fun t ht => Nat.le_trans (tupleText_mem_le ht) hz')
      have r : Reads s.heap (.ref a) (.tuple ds) _ := .tuple ho hc hd hr
      have hna : a ∉ bs := not_mem_of_deeper r (by simp only [PyData.depth]; omega) hb
      refine ⟨_, a :: bs, r, ReadAtMost.cons r (by simp only [PyData.depth]; omega) hb, ?_⟩
      simp only [PyData.depth, PyData.shown]
      exact ReprK.tuple ho hc hd hna hk
  | .dict ps, _, _, h, r, hs, hz => by
    cases h with
    | @dic a kvs _ hd ha =>
      cases r
      obtain ⟨_, hsys, vs, kv, o, es, ep, ho, hx, hdt, _, pr, _⟩ := dk_of I.hok hd
      have hz' : (dictText (PyData.shownKv ps)).length ≤ sizeLine := by simpa only [PyData.shown] using hz
      obtain ⟨a1, a2, bs, r1, r2, hb, hk⟩ := reprGk I ps _ vs es.toList ha kv pr (by simpa [PyData.showable] using hs) (fun t ht => Nat.le_trans (dictText_mem_le ht) hz')
      have r : Reads s.heap (.ref a) (.dict ps) _ := .dict ho hx.1 hdt r1 r2
      have hna : a ∉ bs := not_mem_of_deeper r (by simp only [PyData.depth]; omega) hb
      refine ⟨_, a :: bs, r, ReadAtMost.cons r (by simp only [PyData.depth]; omega) hb, ?_⟩
      simp only [PyData.depth, PyData.shown]
      exact ReprK.dict ho hx.1 hdt hsys hna hk
theorem reprGs (I : Inv X pins σ H s) : ∀ (ds : List D) (vs : List V) (us : List Value), RpA X.K H vs ds → Vals vs us → PyData.showableAll ds = true → (∀ t ∈ PyData.shownAll ds, t.length ≤ sizeLine) →
    ∃ as bs, ReadsAll s.heap us ds as ∧ ReadAtMost s.heap (PyData.depthAll ds) bs ∧ ReprAllK X.prog X.w bs s.heap (PyData.depthAll ds) us (PyData.shownAll ds)
  | [], _, _, h, r, _, _ => by
    cases h
    cases r
    exact ⟨_, [], .nil, (fun _ h => nomatch h), by simp only [PyData.shownAll]; exact .nil⟩
  | d :: ds, _, _, h, r, hs, hz => by
    cases h with
    | cons h1 h2 =>
      cases r with
      | cons r1 r2 =>
        have hs' : d.showable = true ∧ PyData.showableAll ds = true := by simpa [PyData.showableAll] using hs
        obtain ⟨a1, b1, q1, hb1, k1⟩ := reprG I d _ _ h1 r1 hs'.1 (hz _ (by simp only [PyData.shownAll]; exact List.mem_cons_self ..))
        obtain ⟨a2, b2, q2, hb2, k2⟩ := reprGs I ds _ _ h2 r2 hs'.2 (fun t ht => hz t (by simp only [PyData.shownAll]; exact List.mem_cons_of_mem _ ht))
        refine ⟨_, b1 ++ b2, .cons q1 q2, ?_, ?_⟩
        · simp only [PyData.depthAll]
          exact (hb1.mono (Nat.le_max_left _ _)).append (hb2.mono (Nat.le_max_right _ _))
        · simp only [PyData.depthAll, PyData.shownAll]
          exact .cons ((k1.more fun b hb => List.mem_append_left _ hb).level_le (Nat.le_max_left _ _)) (k2.more_le (fun b hb => List.mem_append_right _ hb) (Nat.le_max_right _ _))
theorem reprGk (I : Inv X pins σ H s) : ∀ (ps : List (D × D)) (kvs : List (Key × V)) (vs : List (Key × Value)) (es : List DictEntry), RpK X.K H kvs ps → KV kvs vs → Pairs (mixKind X.prog X.w) es vs → PyData.showableKv ps = true → (∀ t ∈ PyData.shownKv ps, t.length ≤ sizeLine) →
    ∃ a1 a2 bs, ReadsAll s.heap (es.map (·.key)) (ps.map (·.1)) a1 ∧ ReadsAll s.heap (es.map (·.val)) (ps.map (·.2)) a2 ∧ ReadAtMost s.heap (PyData.depthKv ps) bs ∧ ReprEntriesK X.prog X.w bs s.heap (PyData.depthKv ps) es (PyData.shownKv ps)
  | [], _, _, _, h, r, p, _, _ => by
    cases h
    cases r
    cases p
    exact ⟨_, _, [], .nil, .nil, (fun _ h => nomatch h), by simp only [PyData.shownKv]; exact .nil⟩
  | (kd, d) :: ps, _, _, _, h, r, p, hs, hz => by
    cases h with
    | @cons k v kvs _ _ h1 h2 =>
      cases r with
      | @cons _ b _ bs0 r1 r2 =>
        obtain ⟨k', u⟩ := b
        obtain ⟨e1, ru⟩ := r1
        have e1 : k = k' := e1
        subst e1
        cases p with
        | @cons e _ es _ p1 p2 p3 =>
          have hs' : ((kD k).showable = true ∧ d.showable = true) ∧ PyData.showableKv ps = true := by simpa [PyData.showableKv] using hs
          have hl : ((kD k).shown ++ ": " ++ d.shown).length ≤ sizeLine := hz _ (by simp only [PyData.shownKv]; exact List.mem_cons_self ..)
          rw [strLen_append, strLen_append] at hl
          have p1 : (mixKind X.prog X.w).is k e.key = true := p1
          obtain ⟨q1, m1⟩ := keyRepr (X := X) (h0 := s.heap) mixRel p1 hs'.1.1 (by omega)
          have p2' : e.val = u := p2
          obtain ⟨a2, b2, q2, hb2, m2⟩ := reprG I d _ e.val h1 (by rw [p2']; exact ru) hs'.1.2 (by omega)
          obtain ⟨a3, a4, b3, q3, q4, hb3, m3⟩ := reprGk I ps _ _ _ h2 r2 p3 hs'.2 (fun t ht => hz t (by simp only [PyData.shownKv]; exact List.mem_cons_of_mem _ ht))
          refine ⟨_, _, b2 ++ b3, .cons q1 q3, .cons q2 q4, ?_, ?_⟩
          · simp only [PyData.depthKv]
            exact (hb2.mono (by omega)).append (hb3.mono (by omega))
          · simp only [PyData.depthKv, PyData.shownKv]
            refine .cons ((m1.more fun b hb => nomatch hb).level_le (Nat.zero_le _)) ((m2.more fun b hb => List.mem_append_left _ hb).level_le (by omega)) ?_
            have mm : ∀ {es : List DictEntry} {ts : List Str} {d d' : Nat} {as as' : List Addr}, (∀ b ∈ as, b ∈ as') → d ≤ d' → ReprEntriesK X.prog X.w as s.heap d es ts → ReprEntriesK X.prog X.w as' s.heap d' es ts := by
              intro es ts d d' as as' hsub hd h
              induction h with
              | nil => exact .nil
              | cons a b _ ih => exact .cons ((a.more hsub).level_le hd) ((b.more hsub).level_le hd) ih
            exact mm (fun b hb => List.mem_append_right _ hb) (by omega) m3
end
end

section
variable {X : Cx} {pins : List (Addr × Obj)} {σ : L2.St} {H : Hp} {s : Shared}
theorem showsG (I : Inv X pins σ H s) {a : Addr} {d : D} (h : Rp X.K H (.ref a) d) (hs : d.showable = true) (hz : d.shown.length ≤ sizeLine) : ∃ T idr, ShowsBy X.prog X.w s.heap a d T idr := by
  cases h with
  | @lst _ xs ds hs' ha =>
    obtain ⟨its, rv, ⟨o, n, ho, hc, _, hd⟩, _⟩ := I.list hs'
    have hz' : (listText (PyData.shownAll ds)).length ≤ sizeLine := by simpa only [PyData.shown] using hz
    obtain ⟨as, bs, hr, hb, hk⟩ := reprGs I ds _ its ha rv (by simpa [PyData.showable] using hs) (fun t ht => Nat.le_trans (listText_mem_le ht) hz')
    have hna : a ∉ bs := not_mem_of_deeper (.list ho hc hd hr) (by simp only [PyData.depth]; omega) hb
    refine ⟨"list", "list.__repr__", F.slot_list_repr.toG, F.slot_list_str, F.slot_list_format, fun s hk0 => ⟨o, hk0 _ _ ho, hc⟩, fun A E s Q hg hu hk0 hQ => ?_⟩
    simp only [PyData.depth] at hu
    simp only [PyData.shown] at hQ
    cases its with
    | nil =>
      cases hr
      simp only [PyData.shownAll, listText_nil] at hQ
      exact call_list_repr_empty ⟨o, hk0 _ _ ho, hc⟩ (hk0 _ _ ho) hd (hQ s.heap _ _ fun _ _ e => e)
    | cons x l => exact call_list_reprK ho hc hd hna (by simpa using hk.length_eq) (fun i y e => hk.item i y (by simpa using e)) hg (fun b _ => Clear.nil b) hu hk0 hQ hz'
  | @tup _ xs ds hs' ha =>
    obtain ⟨its, rv, ⟨o, ho, hc, n, hd⟩, _⟩ := I.tuple hs'.t
    have hz' : (tupleText (PyData.shownAll ds)).length ≤ sizeLine := by simpa only [PyData.shown] using hz
    obtain ⟨as, bs, hr, hb, hk⟩ := reprGs I ds _ its ha rv (by simpa [PyData.showable] using hs) (fun t ht => Nat.le_trans (tupleText_mem_le ht) hz')
    have hna : a ∉ bs := not_mem_of_deeper (.tuple ho hc hd hr) (by simp only [PyData.depth]; omega) hb
    refine ⟨"tuple", "tuple.__repr__", F.slot_tuple_repr, F.slot_tuple_str, F.slot_tuple_format, fun s hk0 => ⟨o, hk0 _ _ ho, hc⟩, fun A E s Q hg hu hk0 hQ => ?_⟩
    simp only [PyData.depth] at hu
    simp only [PyData.shown] at hQ
    exact call_tuple_reprK ho hc hd hna hk hg (fun b _ => Clear.nil b) hu hk0 hQ hz'
  | @dic _ kvs ps hd ha =>
    obtain ⟨_, hsys, vs, kv, o, es, ep, ho, hx, hdt, _, pr, _⟩ := dk_of I.hok hd
    have hz' : (dictText (PyData.shownKv ps)).length ≤ sizeLine := by simpa only [PyData.shown] using hz
    obtain ⟨a1, a2, bs, r1, r2, hb, hk⟩ := reprGk I ps _ vs es.toList ha kv pr (by simpa [PyData.showable] using hs) (fun t ht => Nat.le_trans (dictText_mem_le ht) hz')
    have hna : a ∉ bs := not_mem_of_deeper (.dict ho hx.1 hdt r1 r2) (by simp only [PyData.depth]; omega) hb
    refine ⟨"dict", "dict.__repr__", F.slot_dict_repr, F.slot_dict_str, F.slot_dict_format, fun s hk0 => ⟨o, hk0 _ _ ho, hx.1⟩, fun A E s Q hg hu hk0 hQ => ?_⟩
    simp only [PyData.depth] at hu
    simp only [PyData.shown] at hQ
    exact call_dict_reprK ho hx.1 hdt hsys hna hk hg (fun b _ => Clear.nil b) hu hk0 hQ hz'
end
def rReprG (K : PySem.W.Frag) : List V → Hp → VK → Prop := fun xs H Q => ∃ x d, xs = [x] ∧ Rp K H x d ∧ d.showable = true ∧ d.depth ≤ 40 ∧ d.shown.length ≤ sizeLine ∧ Q (.str d.shown) H
theorem call_reprG {X : Cx} (g : X.A.guards = some []) (hu : X.A.units + 64 < cLine) : CallR X (.builtin "repr") (rReprG X.K) := by
  intro pins s σ H xs us Q I r h
  obtain ⟨x, d, rfl, dp, sh, dep, sz, q⟩ := h
  obtain ⟨u, rfl, r1⟩ := vals1 r
  have fin : ∀ h' u tk, (∀ b o, s.heap.get? b = some o → h'.get? b = some o) → EP X pins σ Q (.str d.shown u) { s with heap := h', toks := tk } := fun h' u tk hk => ⟨.str d.shown, H, I.kept hk, ⟨u, rfl⟩, q⟩
  have go : ∀ a, x = .ref a → wpAny (model X.prog X.w) X.A (call (.builtin "repr") [u]) (EP X pins σ Q) X.xe s := fun a ea => by
    subst ea
    cases r1
    obtain ⟨T, idr, S⟩ := showsG I dp sh sz
    exact call_repr_slot (by omega) (S.typeIs s fun _ _ e => e) S.slotRepr (S.call X.A.in1 _ s _ g (by show X.A.units + 1 + d.depth < cLine; omega) (fun _ _ e => e) fun h' u tk hk => ⟨_, _, rfl, fin h' u tk hk⟩)
  cases d with
  | none => cases dp; cases r1; exact PySem.P.repr_of_none (fin s.heap _ _ fun _ _ e => e)
  | bool b => cases dp; cases r1; exact PySem.P.repr_of_bool (fin s.heap _ _ fun _ _ e => e)
  | int i => cases dp; obtain ⟨t, rfl⟩ := r1; exact PySem.P.repr_of_int (by simpa [PyData.showable] using sh) (fin s.heap _ _ fun _ _ e => e)
  | str z => cases dp; obtain ⟨t, rfl⟩ := r1; exact PySem.P.repr_of_str (fin s.heap _ _ fun _ _ e => e) (hsz := by simpa [PyData.shown] using sz)
  | list ds => cases dp; exact go _ rfl
  | tuple ds => cases dp; exact go _ rfl
  | dict ds => cases dp; exact go _ rfl
/-- repr of any data -/
def dReprG : OpN := n1 fun b μ => match view b μ with
  | some d => if (d.showable && decide (d.depth ≤ 40) && decide (d.shown.length ≤ sizeLine)) = true then .ok (.d (.str d.shown)) μ else .bad
  | none => .bad
theorem ok_reprG {G : GT} : OkN G (rReprG G.K) dReprG := by
  apply ok_n1
  intro W σ w μ H x b Q l r p
  split at p
  · rename_i d h
    split at p
    · rename_i h2
      simp only [Bool.and_eq_true, decide_eq_true_eq] at h2
      exact ⟨x, d, rfl, view_ok l r h, h2.1.1, h2.1.2, h2.2, p w _ H w.le_refl l (.str _)⟩
    · exact p.elim
  · exact p.elim
end DL

namespace DL
open PySem PySem.Spec PyProof.Rows L2
abbrev KvR (G : GT) (w : Wd) : List (Key × V) → List (Key × Dv) → Prop := Paired fun p q => p.1 = q.1 ∧ Rv G w p.2 q.2
theorem KvR.mono {G : GT} {w w' : Wd} (l : w.le w') {a : List (Key × V)} {b : List (Key × Dv)} (r : KvR G w a b) : KvR G w' a b := Paired.imp (fun _ _ z => ⟨z.1, z.2.mono l⟩) r
/-- a datum's pairs, its keys read -/
def kvD : List (D × D) → Option (List (Key × Dv))
  | [] => some []
  | (k, d) :: r => match keyOf k, kvD r with
    | some k, some t => some ((k, .d d) :: t)
    | _, _ => none
theorem kvD_map : ∀ kvs : List (Key × D), kvD (kvs.map fun p => (kD p.1, p.2)) = some (kvs.map fun p => (p.1, .d p.2))
  | [] => rfl
  | p :: r => by simp [kvD, keyOf_kD, kvD_map r]
/-- a dict's pairs, frozen or a cell -/
def dpairs : Dv → Store → Option (List (Key × Dv))
  | .d (.dict ps), _ => kvD ps
  | .c n, μ => match μ[n]? with
    | some (.dic kvs) => some kvs
    | _ => none
  | _, _ => none
section
variable {G : GT} {w : Wd} {v : V}
theorem kvD_ok {I : Hp} {F : Hp} {α : List Addr} : ∀ {ps : List (D × D)} {kvs : List (Key × Dv)} {ws : List (Key × V)}, kvD ps = some kvs → RpK G.K I ws ps → KvR G ⟨I, α, F⟩ ws kvs
  | [], _, _, h, r => by cases h; cases r; exact .nil
  | (k, d) :: ps, _, _, h, r => by
    cases r with
    | @cons k' v ws _ _ a t =>
      unfold kvD at h
      rw [keyOf_kD] at h
      cases q : kvD ps with
      | none => rw [q] at h; cases h
      | some l => rw [q] at h; cases h; exact .cons ⟨rfl, a⟩ (kvD_ok q t)
theorem dpairs_ok {μ : Store} {H : Hp} {b : Dv} {kvs : List (Key × Dv)} (l : Lay G w μ H) (r : Rv G w v b) (e : dpairs b μ = some kvs) : ∃ a ws, v = .ref a ∧ H a = some (.dK ws) ∧ KvR G w ws kvs := by
  unfold dpairs at e
  split at e
  · rename_i ps
    have r : Rp G.K w.I v (.dict ps) := r
    cases r with
    | @dic a ws _ h1 h2 => exact ⟨a, ws, rfl, l.same _ _ h1, kvD_ok e h2⟩
  · split at e
    · rename_i h
      cases e
      obtain ⟨a, h1, rfl⟩ := r
      obtain ⟨_, ws, h2, h3⟩ := l.at_ _ _ a h h1
      exact ⟨a, ws, rfl, h2, h3⟩
    · cases e
  · cases e
def valD (kvs : List (Key × Dv)) (k : Key) : Option Dv := (kvs.find? fun kv => decide (kv.1 = k)).map (·.2)
theorem valD_ok {ws : List (Key × V)} {kvs : List (Key × Dv)} (r : KvR G w ws kvs) (k : Key) : (∃ v b, valV ws k = some v ∧ valD kvs k = some b ∧ Rv G w v b) ∨ (valV ws k = none ∧ valD kvs k = none) := by
  induction r with
  | nil => exact .inr ⟨rfl, rfl⟩
  | @cons p q ws kvs r t ih =>
    obtain ⟨e1, e2⟩ := r
    by_cases h : p.1 = k
    · exact .inl ⟨p.2, q.2, valV_pos h, by simp [valD, List.find?_cons, ← e1, h], e2⟩
    · rw [valV_neg h]
      have : valD (q :: kvs) k = valD kvs k := by
        have h' : ¬ q.1 = k := by rw [← e1]; exact h
        simp [valD, List.find?_cons, h']
      rw [this]
      exact ih
def putD (kvs : List (Key × Dv)) (k : Key) (v : Dv) : List (Key × Dv) :=
  if (kvs.any fun kv => decide (kv.1 = k)) = true then kvs.map (fun kv => if kv.1 = k then (kv.1, v) else kv) else kvs ++ [(k, v)]
theorem any_ok {ws : List (Key × V)} {kvs : List (Key × Dv)} (r : KvR G w ws kvs) (k : Key) : (ws.any fun kv => decide (kv.1 = k)) = (kvs.any fun kv => decide (kv.1 = k)) := by
  induction r with
  | nil => rfl
  | cons r t ih => rw [List.any_cons, List.any_cons, ih, r.1]
theorem putD_map {ws : List (Key × V)} {kvs : List (Key × Dv)} (r : KvR G w ws kvs) (k : Key) {v : V} {b : Dv} (rv : Rv G w v b) : KvR G w (ws.map fun kv => if kv.1 = k then (kv.1, v) else kv) (kvs.map fun kv => if kv.1 = k then (kv.1, b) else kv) := by
  induction r with
  | nil => exact .nil
  | @cons p q ws kvs r t ih =>
    obtain ⟨e1, e2⟩ := r
    rw [List.map_cons, List.map_cons]
    refine .cons ?_ ih
    by_cases h : p.1 = k
    · rw [if_pos h, if_pos (by rw [← e1]; exact h)]; exact ⟨e1, rv⟩
    · rw [if_neg h, if_neg (by rw [← e1]; exact h)]; exact ⟨e1, e2⟩
theorem putD_ok {ws : List (Key × V)} {kvs : List (Key × Dv)} (r : KvR G w ws kvs) (k : Key) {v : V} {b : Dv} (rv : Rv G w v b) : KvR G w (putK ws k v) (putD kvs k b) := by
  unfold putK putD
  rw [any_ok r k]
  split
  · exact putD_map r k rv
  · exact Paired.rec (motive := fun l m _ => KvR G w (l ++ [(k, v)]) (m ++ [(k, b)])) (.cons ⟨rfl, rv⟩ .nil) (fun r _ ih => .cons r ih) r
end
def dDG : Op2 := fun x y μ => match dpairs x μ, y with
  | some kvs, .d k => match keyOf k with
    | some k => match valD kvs k with
      | some v => .ok v μ
      | none => .bad
    | none => .bad
  | _, _ => .bad
section
variable {X : Cx} {G : GT} {W : WX} {o i e f : Expr} {mo mi me mf : ME} {pos apos cpos : Pos}
theorem de_dg (hu : X.A.units + 64 < cLine) (ho : DE X G W o mo) (hi : DE X G W i mi) (hs : NoSl i := by exact fun _ _ => rfl) : DE X G W (.Subscript o i pos) (e2 dDG mo mi) := by
  refine PE.imp (pe_dget (by omega) ho hi hs) ?_
  rintro σ H Q ⟨w, μ, ρ, hl, he, p⟩
  refine tD.seq (k := fun ρ x μ => (mi ρ μ).bind fun y μ => dDG x y μ) hl he p fun w1 μ1 H1 v b l1 lay1 en1 r1 p1 => ?_
  refine tD.seq (k := fun ρ y μ => dDG b y μ) lay1 en1 p1 fun w2 μ2 H2 u c l2 lay2 en2 r2 p2 => ?_
  unfold dDG at p2
  split at p2
  · rename_i kvs k hp
    split at p2
    · rename_i k' hk
      split at p2
      · rename_i d hd
        obtain ⟨a, ws, rfl, e1, rk⟩ := dpairs_ok lay2 (r1.mono l2) hp
        have r2 : Rp G.K w2.I u k := r2
        rw [keyOf_eq hk] at r2
        rw [rp_key r2]
        rcases valD_ok rk k' with ⟨x, b', h1, h2, h3⟩ | ⟨h1, h2⟩
        · rw [hd] at h2
          cases h2
          refine ⟨a, x, rfl, ?_, p2 w2 _ H2 w2.le_refl lay2 h3⟩
          rw [← h1]
          exact DGet.k e1
        · rw [hd] at h2; cases h2
      · exact p2.elim
    · exact p2.elim
  · exact p2.elim
def dInD (neg : Bool) : Op2 := fun y x μ => match dpairs x μ, y with
  | some kvs, .d k => match keyOf k with
    | some k => .ok (.d (.bool (if neg then !(valD kvs k).isSome else (valD kvs k).isSome))) μ
    | none => .bad
  | _, _ => .bad
end
def allPv : List (Dv × Dv) → Option (List (Key × Dv))
  | [] => some []
  | (.d k, x) :: r => match keyOf k, allPv r with
    | some k, some ps => some ((k, x) :: ps)
    | _, _ => none
  | _ :: _ => none
theorem allPv_ok {G : GT} {w : Wd} : ∀ {bs : List (Dv × Dv)} {kvs : List (Key × Dv)} {vs : List (V × V)}, allPv bs = some kvs → Rpp G w vs bs → ∃ ws : List (Key × V), vs = (ws.map fun kv => (kV kv.1, kv.2)) ∧ KvR G w ws kvs
  | [], _, _, h, r => by cases h; cases r; exact ⟨[], rfl, .nil⟩
  | (.d k, x) :: bs, kvs, _, h, r => by
    unfold allPv at h
    cases hk : keyOf k with
    | none => rw [hk] at h; cases h
    | some k' =>
      cases hr : allPv bs with
      | none => rw [hk, hr] at h; cases h
      | some ps =>
        rw [hk, hr] at h
        cases h
        cases r with
        | @cons v _ vs _ a t =>
          obtain ⟨ws, e, rw'⟩ := allPv_ok hr t
          obtain ⟨v1, v2⟩ := v
          have a1 : Rp G.K w.I v1 k := a.1
          rw [keyOf_eq hk] at a1
          have := rp_key a1
          subst this
          exact ⟨(k', v2) :: ws, by rw [e]; rfl, .cons ⟨rfl, a.2⟩ rw'⟩
  | (.c _, _) :: _, _, _, h, _ => by cases h
  | (.f _, _) :: _, _, _, h, _ => by cases h
def cDicF (ps : List (Dv × Dv)) (μ : Store) : Out Dv := match allPv ps with
  | some kvs => if (kvs.map Prod.fst).Nodup ∧ kvs.length ≤ 15 then .ok (.c μ.length) (μ ++ [.dic kvs]) else .bad
  | none => .bad
def cDic (l : ML) : ME := fun ρ μ => (prsM l ρ μ).bind cDicF
theorem KvR.fst {G : GT} {w : Wd} {ws : List (Key × V)} {kvs : List (Key × Dv)} (r : KvR G w ws kvs) : ws.map Prod.fst = kvs.map Prod.fst := by
  induction r with
  | nil => rfl
  | cons r t ih => rw [List.map_cons, List.map_cons, ih, r.1]
section
variable {G : GT} {W : WX}
theorem cdic_imp {l : ML} : ∀ σ H Q, tE G W (cDic l) σ H Q → tDisp (l.map fun p => (tE G W p.1, tE G W p.2)) σ H Q := by
  rintro σ H Q ⟨w, μ, ρ, hl, he, p⟩
  intro a na
  obtain ⟨n1, n2, n3⟩ := hl.na na
  have lay0 := hl.other n1 n2 n3 (.dK [])
  obtain ⟨lp, layp⟩ := lay0.priv n1 n2 n3 upd_same
  refine prs_imp l σ _ _ ⟨w.priv a (.dK []), μ, ρ, layp, he.mono lp, ?_⟩
  unfold cDic at p
  cases e : prsM l ρ μ with
  | bad => rw [e] at p; exact p.elim
  | ex x μ1 => rw [e] at p; exact fun w' c d H' l' lay' r' => p w' c d H' (lp.trans l') lay' r'
  | ok ps μ1 =>
    rw [e] at p
    intro w1 vs H1 l1 lay1 r1
    have p : Pst G W σ (Rv G) w (cDicF ps μ1) Q := p
    unfold cDicF at p
    cases ea : allPv ps with
    | none => rw [ea] at p; exact p.elim
    | some kvs =>
      rw [ea] at p
      have p : Pst G W σ (Rv G) w (if (kvs.map Prod.fst).Nodup ∧ kvs.length ≤ 15 then .ok (.c μ1.length) (μ1 ++ [.dic kvs]) else .bad) Q := p
      by_cases hz : (kvs.map Prod.fst).Nodup ∧ kvs.length ≤ 15
      · rw [if_pos hz] at p
        obtain ⟨ws, ev, rw'⟩ := allPv_ok ea r1
        have hm : mergeK [] ws = ws := by
          refine mergeK_new _ [] ?_
          rw [List.nil_append, rw'.fst]
          exact hz.1
        obtain ⟨le2, lay2, e2, i2, a2⟩ := lay1.unp l1 n3 (.dK (mergeK [] ws))
        have e0 : upd H1 a (.dK (mergeK [] ws)) a = some (.dK ws) := by rw [upd_same, hm]
        obtain ⟨le3, lay3⟩ := lay2.adopt (c := .dic kvs) i2 a2 (if_pos rfl) e0 (fun H' e' => ⟨i2, ws, e', Paired.imp (fun _ _ z => ⟨z.1, Rv.mono (w := w1.unp a) (w' := (w1.unp a).ext a) ⟨Same.refl _, List.prefix_append _ _, Same.refl _⟩ (Rv.cong (w := w1) (w' := w1.unp a) rfl rfl z.2)⟩) rw'⟩)
        refine ⟨e2, ws, ev, by rw [Paired.length rw']; exact hz.2, ?_⟩
        refine p _ (.ref a) _ (le2.trans le3) lay3 ⟨a, ?_, rfl⟩
        show ((w1.unp a).α ++ [a])[μ1.length]? = some a
        rw [← lay2.len]
        simp
      · rw [if_neg hz] at p; exact p.elim
end
theorem de_cdic {X : Cx} {G : GT} {W : WX} {pos : Pos} {ks : List (Option Expr)} {vs : List Expr} {l : ML} (h : DPs X G W pos ks vs l) (hall : ks.all (·.isSome) = true := by rfl) (hl : ks.length = vs.length := by rfl) (h0 : ks ≠ [] := by intro z; cases z) (h15 : ks.length ≤ 15 := by decide) : DE X G W (.Dict ks vs pos) (cDic l) := PE.imp (pe_disp h hall hl h0 h15) cdic_imp
/-- {} as a cell -/
def cDic0 : ME := fun _ μ => .ok (.c μ.length) (μ ++ [.dic []])
end DL

namespace DL
open PySem PySem.Spec PyProof.Rows L2
def dSetD (x i v : Dv) (μ : Store) : Option Store := match x, i with
  | .c n, .d k => match μ[n]?, keyOf k with
    | some (.dic kvs), some k => if kvs.length < sizeLine then some (μ.set n (.dic (putD kvs k v))) else none
    | _, _ => none
  | _, _ => none
def sSetD (m mo mi : ME) : MS := fun ρ μ => (m ρ μ).bind fun v μ => (mo ρ μ).bind fun x μ => (mi ρ μ).bind fun i μ => optN (dSetD x i v μ) ρ
section
variable {X : Cx} {G : GT} {W : WX} {a b c e o tg : Expr} {es : List Expr} {m mo mi : ME} {mas : MA} {pos p : Pos} {S : List Nat}
theorem ds_setD {i : Expr} {pos' : Pos} (hu : X.A.units + 64 < cLine) (hv : DE X G W e m) (ho : DE X G W o mo) (hi : DE X G W i mi) (hs : swapsWithSole [.Subscript o i pos'] e pos.line X.env = pure false := by rfl) (hw : swappedStores [.Subscript o i pos'] e X.env = pure none := by rfl)
    (h1 : (assignEach [.Subscript o i pos'] X.env).map (·.2) = [assign (.Subscript o i pos') X.env] := by rfl)
    (ha : ∀ v, assign (.Subscript o i pos') X.env v = (do
      let ov ← holding [v] (eval o X.env)
      let iv ← holding [v, ov] (eval i X.env)
      standAt pos'
      holding [v, ov, iv] (setItem ov iv v)
      release [v, ov, iv] []) := by intro _; rfl) : DS X G W (.Assign [.Subscript o i pos'] e pos) (sSetD m mo mi) := by
  refine PS.imp (ps_asg hv (pg_sub ho hi (set_dict (by omega)) ha) hs hw h1) ?_
  rintro D σ H ⟨w, μ, ρ, hl, he, p⟩
  refine tD.seqS (k := fun ρ v μ => (mo ρ μ).bind fun x μ => (mi ρ μ).bind fun i μ => optN (dSetD x i v μ) ρ) hl he p fun w1 μ1 H1 v v' l1 lay1 en1 r1 p1 => ?_
  refine tD.seqS (k := fun ρ x μ => (mi ρ μ).bind fun i μ => optN (dSetD x i v' μ) ρ) lay1 en1 p1 fun w2 μ2 H2 x x' l2 lay2 en2 r2 p2 => ?_
  refine tD.seqS (k := fun ρ i μ => optN (dSetD x' i v' μ) ρ) lay2 en2 p2 fun w3 μ3 H3 y y' l3 lay3 en3 r3 p3 => ?_
  have r1 := (r1.mono l2).mono l3
  have r2 := r2.mono l3
  cases x' with
  | d _ => exact p3.elim
  | f _ => exact p3.elim
  | c n =>
    cases y' with
    | c _ => exact p3.elim
    | f _ => exact p3.elim
    | d k =>
    unfold dSetD at p3
    simp only at p3
    split at p3
    · rename_i kvs k' e hk
      by_cases hz : kvs.length < sizeLine
      · rw [if_pos hz] at p3
        obtain ⟨a, g1, rfl⟩ := r2
        obtain ⟨nI, ws, g2, g3⟩ := lay3.at_ n _ a e g1
        have r3 : Rp G.K w3.I y k := r3
        rw [keyOf_eq hk] at r3
        rw [rp_key r3]
        refine ⟨a, _, rfl, DPut.k g2 (by rw [Paired.length g3]; exact hz), ?_⟩
        exact p3 w3 σ _ w3.le_refl (lay3.write g1 nI fun H' e => ⟨nI, _, e, putD_ok g3 k' r1⟩) en3
      · rw [if_neg hz] at p3; exact p3.elim
    · exact p3.elim
end
/-- the pairs as data -/
def allKD : List (Key × Dv) → Option (List (Key × D))
  | [] => some []
  | (k, .d x) :: r => match allKD r with
    | some xs => some ((k, x) :: xs)
    | none => none
  | _ :: _ => none
theorem allKD_map : ∀ ds : List (Key × D), allKD (ds.map fun p => (p.1, .d p.2)) = some ds
  | [] => rfl
  | d :: ds => by simp [allKD, allKD_map ds]
theorem allKD_eq : ∀ {bs : List (Key × Dv)} {ds : List (Key × D)}, allKD bs = some ds → bs = ds.map fun p => (p.1, .d p.2)
  | [], _, h => by cases h; rfl
  | (k, .d x) :: r, _, h => by
    unfold allKD at h
    cases q : allKD r with
    | none => rw [q] at h; cases h
    | some xs => rw [q] at h; cases h; rw [allKD_eq q]; rfl
  | (_, .c _) :: _, _, h => by cases h
  | (_, .f _) :: _, _, h => by cases h
theorem RpK_of_KvR {G : GT} {w : Wd} : ∀ {ws : List (Key × V)} {ds : List (Key × D)}, KvR G w ws (ds.map fun p => (p.1, .d p.2)) → RpK G.K w.I ws (ds.map fun p => (kD p.1, p.2))
  | _, [], h => by cases h; exact .nil
  | _, d :: ds, h => by
    cases h with
    | @cons p _ ws _ r t =>
      obtain ⟨k, v⟩ := p
      obtain ⟨e1, e2⟩ := r
      have e1 : k = d.1 := e1
      subst e1
      exact .cons e2 (RpK_of_KvR t)
def dFrzA : Op1 := fun x μ => match x with
  | .d y => .ok (.d y) μ
  | .c n => match μ[n]? with
    | some (.lst xs) => match allD xs with
      | some ds => .ok (.d (.list ds)) (μ.set n .dead)
      | none => .bad
    | some (.dic kvs) => match allKD kvs with
      | some ds => .ok (.d (dicOf ds)) (μ.set n .dead)
      | none => .bad
    | _ => .bad
  | .f _ => .bad
theorem Lay.freezeO {G : GT} {w : Wd} {μ : Store} {H : Hp} (l : Lay G w μ H) {n : Nat} {a : Addr} {o : HO} (ha : w.α[n]? = some a) (nI : w.I a = none) (e : H a = some o) : w.le (w.put a o) ∧ Lay G (w.put a o) (μ.set n .dead) H := by
  have nF := l.fd a (List.mem_of_getElem? ha)
  refine ⟨⟨same_upd nI, List.prefix_refl _, Same.refl _⟩, fun b u q => ?_, by rw [List.length_set]; exact l.len, l.nd, l.lv, l.fr, l.fd, fun b u q => ?_, fun m c b q1 q2 => ?_⟩
  · by_cases z : b = a
    · subst z; have q : upd w.I b o b = some u := q; rw [upd_same] at q; rw [← q]; exact e
    · have q : upd w.I a o b = some u := q; rw [upd_ne z] at q; exact l.same b u q
  · have : b ≠ a := fun z => by rw [z, nF] at q; cases q
    show upd w.I a _ b = none
    rw [upd_ne this]; exact l.di b u q
  · by_cases z : n = m
    · subst z
      have hn : n < μ.length := by rw [← l.len]; exact (List.getElem?_eq_some_iff.mp ha).1
      rw [List.getElem?_set_self hn] at q1
      cases q1
      trivial
    · rw [List.getElem?_set_ne z] at q1
      have ne : b ≠ a := fun y => z (get_nodup l.nd ha (y ▸ q2))
      exact CellAt.cong (w' := w.put a o) (fun z => by show upd w.I a _ b = none; rw [upd_ne ne]; exact z) ⟨same_upd nI, List.prefix_refl _⟩ rfl (l.at_ m c b q1 q2)
section
variable {X : Cx} {G : GT} {W : WX} {e : Expr} {m : ME}
theorem de_frzA (he : DE X G W e m) : DE X G W e (e1 dFrzA m) := by
  refine PE.imp he ?_
  rintro σ H Q ⟨w, μ, ρ, hl, he, p⟩
  refine ⟨w, μ, ρ, hl, he, ?_⟩
  have p : Pst G W σ (Rv G) w ((m ρ μ).bind fun x μ => dFrzA x μ) Q := p
  cases q : m ρ μ with
  | bad => rw [q] at p; exact p.elim
  | ex _ _ => rw [q] at p; exact p
  | ok b μ1 =>
    rw [q] at p
    intro w1 v H1 l1 lay1 r1
    have p1 : Pst G W σ (Rv G) w (dFrzA b μ1) Q := p
    have p1 := Pst.mono l1 p1
    cases b with
    | d x => exact p1 w1 v H1 w1.le_refl lay1 r1
    | f n => exact p1.elim
    | c n =>
      unfold dFrzA at p1
      simp only at p1
      cases e : μ1[n]? with
      | none => simp only [e] at p1; exact p1.elim
      | some cl =>
        cases cl with
        | lst xs =>
          simp only [e] at p1
          cases q2 : allD xs with
          | none => simp only [q2] at p1; exact p1.elim
          | some ds =>
            simp only [q2] at p1
            obtain ⟨a, g1, rfl⟩ := r1
            obtain ⟨nI, vs, g2, g3⟩ := lay1.at_ n _ a e g1
            obtain ⟨le, l2⟩ := lay1.freezeO g1 nI g2
            rw [allD_eq q2] at g3
            exact p1 _ _ H1 le l2 (.lst (SqL.of upd_same) (RpA.mono le.1 _ _ (RpA_of_Rvs g3)))
        | dic kvs =>
          simp only [e] at p1
          cases q2 : allKD kvs with
          | none => simp only [q2] at p1; exact p1.elim
          | some ds =>
            simp only [q2] at p1
            obtain ⟨a, g1, rfl⟩ := r1
            obtain ⟨nI, ws, g2, g3⟩ := lay1.at_ n _ a e g1
            obtain ⟨le, l2⟩ := lay1.freezeO g1 nI g2
            rw [allKD_eq q2] at g3
            exact p1 _ _ H1 le l2 (.dic (kvs := ws) upd_same (RpK.mono le.1 _ _ (RpK_of_KvR g3)))
        | _ => simp only [e] at p1; exact p1.elim
end
def keyN : D → Option (Option Key)
  | .none => some none
  | d => match keyOf d with
    | some k => some (some k)
    | none => none
def dGet2F (x k d : Dv) (μ : Store) : Out Dv := match dpairs x μ, k with
  | some kvs, .d k => match keyN k with
    | some none => .ok d μ
    | some (some k) => .ok ((valD kvs k).getD d) μ
    | none => .bad
  | _, _ => .bad
def isDp (x : Dv) (μ : Store) : Bool := (dpairs x μ).isSome
def eGet2 (mo mk md : ME) : ME := fun ρ μ => (mo ρ μ).bind fun x μ => if isDp x μ = true then (mk ρ μ).bind fun k μ => (md ρ μ).bind fun d μ => dGet2F x k d μ else .bad
def rDG2 (H : Hp) (a : Addr) (y z : V) (Q : VK) : Prop := (∃ o, DGet H a y o ∧ Q (o.getD z) H) ∨ ∃ kvs, y = .non ∧ Rd H a (.dK kvs) ∧ Q z H
def tDGet2N (td ty tx : TE) : TE := fun σ H Q => td σ H fun x H1 => ∃ a, x = .ref a ∧ IsD H1 a ∧ ty σ H1 fun y H2 => tx σ H2 fun z H3 => rDG2 H3 a y z Q
theorem pe_dget2N {X : Cx} {o e f : Expr} {apos cpos : Pos} {td ty tx : TE} (hu : X.A.units + 1 < cLine) (ho : PE X o td) (he : PE X e ty) (hf : PE X f tx) (m : M2 X o "get" apos e f cpos) : PE X (.Call (.Attribute o "get" apos) [e, f] [] cpos) (tDGet2N td ty tx) := by
  refine ⟨fun pins s σ H Q I h => ?_⟩
  refine wpAny_Call_method m.base m.few m.line PySem.F.plainAttrs_dict PySem.F.slot_dict_get PySem.F.type_dict_get (thn (ho.run pins s σ H _ I h) fun u s1 ⟨x, H1, I1, rx, a, ex, d, q1⟩ => ?_)
  subst ex
  obtain rfl : u = Value.ref a := rx
  obtain ⟨t1, t2, _⟩ := isD_at I1 d
  refine ⟨t1, t2, ?_⟩
  rw [m.trees]
  refine Calls.callWith_builtin rfl (Calls.evalArgs_plain (Calls.spliced_cons (thn (he.run pins s1 σ H1 _ I1 q1) fun iv s2 ⟨y, H2, I2, ry, q2⟩ =>
    Calls.spliced_cons (thn (hf.run pins s2 σ H2 _ I2 q2) fun fv s3 ⟨z, H3, I3, rz, q3⟩ => Calls.spliced_nil ?_))))
  rcases q3 with ⟨ov, g, q3⟩ | ⟨kvs, ey, g, q3⟩
  · exact d_get2 hu I3 g ry rz fun w' s4 I4 rw' => ⟨_, H3, I4, rw', q3⟩
  · subst ey
    cases ry
    obtain ⟨_, hd, vs, rel, dd⟩ := dk_rd I3.hok g
    obtain ⟨f, mp, fn⟩ := none_map dd
    refine call_meetsIn PySem.F.slot_dict_get dd.typeIs PySem.F.entry_dict_get (PySem.F.args_dict_get_3 _ _ _) (meets_dict_get_default (noneKind X.prog X.w) a (k := none) rfl hd fv) ⟨_, mp, z, H3, I3.tok _, ?_, q3⟩
    rw [fn]
    exact rz
section
variable {X : Cx} {G : GT} {W : WX} {o e f : Expr} {mo mk md : ME} {apos cpos : Pos}
theorem de_get2 (hu : X.A.units + 64 < cLine) (ho : DE X G W o mo) (he : DE X G W e mk) (hf : DE X G W f md)
    (hbase : attributeBase o "get" X.env (eval o X.env) = eval o X.env := by rfl)
    (hfew : ((backTo cpos (starEach [e, f] X.env)).all (fun x => !x.1) && (backToKw cpos (keywordEach [] X.env)).all (fun x => x.1.isSome)
      && decide (([e, f] : List Expr).length + ([] : List Keyword).length + (if ([] : List Keyword).isEmpty then 0 else 1) < 30)) = true := by rfl)
    (hline : (apos.endLine == cpos.line) = true := by rfl) (htr : backTo cpos (starEach [e, f] X.env) = [(false, eval e X.env), (false, eval f X.env)] := by rfl) :
    DE X G W (.Call (.Attribute o "get" apos) [e, f] [] cpos) (eGet2 mo mk md) := by
  refine PE.imp (pe_dget2N (by omega) ho he hf ⟨hbase, hfew, hline, htr⟩) ?_
  rintro σ H Q ⟨w, μ, ρ, hl, he, p⟩
  refine tD.seq (k := fun ρ x μ => if isDp x μ = true then (mk ρ μ).bind fun k μ => (md ρ μ).bind fun d μ => dGet2F x k d μ else .bad) hl he p fun w1 μ1 H1 v b l1 lay1 en1 r1 p1 => ?_
  by_cases hd : isDp b μ1 = true
  · rw [if_pos hd] at p1
    obtain ⟨kvs, hp⟩ := Option.isSome_iff_exists.mp hd
    obtain ⟨a, ws, rfl, e1, rk⟩ := dpairs_ok lay1 r1 hp
    refine ⟨a, rfl, .inl ⟨ws, .inl e1⟩, ?_⟩
    refine tD.seq (k := fun ρ k μ => (md ρ μ).bind fun d μ => dGet2F b k d μ) lay1 en1 p1 fun w2 μ2 H2 u k l2 lay2 en2 r2 p2 => ?_
    refine tD.seq (k := fun ρ d μ => dGet2F b k d μ) lay2 en2 p2 fun w3 μ3 H3 u3 d l3 lay3 en3 r3 p3 => ?_
    unfold dGet2F at p3
    split at p3
    · rename_i kvs3 k3 hp3
      have r2' : Rp G.K w3.I u k3 := Rp.mono l3.1 _ _ r2
      obtain ⟨a', ws3, ea, e3, rk3⟩ := dpairs_ok lay3 (r1.mono (l2.trans l3)) hp3
      cases ea
      split at p3
      · rename_i hk
        have : k3 = .none := by
          cases k3 with
          | none => rfl
          | _ => simp [keyN, keyOf] at hk
        subst this
        cases r2'
        exact .inr ⟨ws3, rfl, .inl e3, p3 w3 _ H3 w3.le_refl lay3 r3⟩
      · rename_i k' hk
        have hk' : keyOf k3 = some k' := by
          cases k3 with
          | none => simp [keyN] at hk
          | int i => simpa [keyN, keyOf] using hk
          | str z => simpa [keyN, keyOf] using hk
          | _ => simp [keyN, keyOf] at hk
        rw [keyOf_eq hk'] at r2'
        rw [rp_key r2']
        refine .inl ⟨_, DGet.k e3, ?_⟩
        rcases valD_ok rk3 k' with ⟨x, b', h1, h2, h3⟩ | ⟨h1, h2⟩
        · rw [h1]
          rw [h2] at p3
          exact p3 w3 _ H3 w3.le_refl lay3 h3
        · rw [h1]
          rw [h2] at p3
          exact p3 w3 _ H3 w3.le_refl lay3 r3
      · exact p3.elim
    · exact p3.elim
  · rw [if_neg hd] at p1
    exact p1.elim
end
end DL

namespace PySem
section
variable {prog : Program} {w : World} {A : Around} {E : Value → Shared → Prop} {s : Shared} {z TI TO T i1 i2 : Addr} {f : Bool} {oT : Obj} {fp1 fp2 : List Addr} {n1 n2 i : Nat} {P1 P2 : Nat → Value → Prop} {St1 St2 : Nat → Heap → Prop} {a1 a2 : Value}
theorem zipH_next_item {Q : Value → Shared → Prop} (S : ZipSep2 z TI TO i1 i2 fp1 fp2) (D1 : Draws prog w A i1 fp1 n1 P1 St1) (D2 : Draws prog w A i2 fp2 n2 P2 St2)
    (hz : IsZipHeld s.heap z TI TO T f) (hT : s.heap.get? T = some oT) (hTI : IsPair s.heap TI (.ref i1) (.ref i2)) (st1 : St1 i s.heap) (st2 : St2 i s.heap) (hlt1 : i < n1) (hlt2 : i < n2)
    (hQ : ∀ x y h' tk, P1 i x → P2 i y → IsZipHeld h' z TI TO T true → St1 (i + 1) h' → St2 (i + 1) h' → IsPair h' s.heap.objs.size x y → h'.objs.size = s.heap.objs.size + 1 →
      (∀ c o, c ≠ z → c ≠ i1 → c ≠ i2 → s.heap.get? c = some o → h'.get? c = some o) → Q (.ref s.heap.objs.size) { s with heap := h', toks := tk }) :
    wpAny (model prog w) A (Builtin.«zip.__next__» ⟨[.ref z], []⟩) (fun fin s' => ∃ v, fin = .done (.ret v) ∧ Q v s') E s := by
  show wpAny _ _ (field (.ref z) 2 >>= _) _ _ _
  refine wpAny_bind (wpAny_field hz rfl (x := .bool false) rfl ?_)
  show wpAny _ _ (field (.ref z) 3 >>= _) _ _ _
  refine wpAny_bind (wpAny_field hz rfl (x := .ref TI) rfl ?_)
  refine wpAny_bind (wpAny_seqItems hTI rfl ?_)
  show wpAny _ _ (Builtin.SmallTypes.ownedTupleIsFree (.ref z) >>= _) _ _ _
  refine wpAny_bind (wpAny_tupleHeld_zip hz hT fun h₁ hz₁ hs₁ => ?_)
  simp only [Bool.false_eq_true, if_false]
  refine wpAny_bind ?_
  rw [← Array.forIn_toList]
  simp only [List.forIn_cons, List.forIn_nil]
  refine wpAny_bind (wpAny_bind (wpAny_holding ?_))
  show wpAny _ _ (Builtin.SmallTypes.nextOf (.ref i1) >>= _) _ _ _
  refine wpAny_bind (D1.item i { s with heap := h₁ } _ _ hlt1 (D1.over st1 hs₁ S.zf1) fun x h₂ tk2 hx sn1 hs₂ => wpAny_pure ?_)
  refine wpAny_pure ?_
  refine wpAny_bind (wpAny_bind (wpAny_holding ?_))
  show wpAny _ _ (Builtin.SmallTypes.nextOf (.ref i2) >>= _) _ _ _
  refine wpAny_bind (D2.item i { s with heap := h₂, toks := tk2 } _ _ hlt2 (D2.over (D2.over st2 hs₁ S.zf2) hs₂ S.sep1_2) fun y h₃ tk3 hy sn2 hs₃ => wpAny_pure ?_)
  refine wpAny_pure (wpAny_pure ?_)
  show wpAny _ _ (newTuple [x, y] >>= _) _ _ _
  refine wpAny_bind (wpAny_newTuple ?_)
  replace hs₂ : Heap.SameBut i1 h₁ h₂ := hs₂
  replace hs₃ : Heap.SameBut i2 h₂ h₃ := hs₃
  have hsz : h₃.objs.size = s.heap.objs.size := by rw [hs₃.1, hs₂.1, hs₁.1]
  have hz₃ : IsZipHeld h₃ z TI TO T true := hs₃.extBut _ _ S.zi2 (hs₂.extBut _ _ S.zi1 hz₁)
  have hk : ∀ c o, c ≠ z → c ≠ i1 → c ≠ i2 → s.heap.get? c = some o → h₃.get? c = some o := fun c o c1 c2 c3 e => hs₃.extBut _ _ c3 (hs₂.extBut _ _ c2 (hs₁.extBut _ _ c1 e))
  have sn1' : St1 (i + 1) h₃ := D1.over sn1 hs₃ S.sep2_1
  refine wpAny_pure ⟨_, rfl, ?_⟩
  show Q (.ref h₃.objs.size) _
  have hp : IsPair (h₃.push { cls := .type "tuple", data := .seq #[x, y] }) h₃.objs.size x y := Heap.get?_push_size _ rfl
  have hz4 : (h₃.push { cls := .type "tuple", data := .seq #[x, y] }).objs.size = h₃.objs.size + 1 := Heap.size_push ..
  rw [hsz] at hp hz4 ⊢
  exact hQ _ _ _ tk3 hx hy (Heap.get?_push_of_some _ hz₃) (D1.frame _ _ _ sn1' fun b hb o e => Heap.get?_push_of_some _ e) (D2.frame _ _ _ sn2 fun b hb o e => Heap.get?_push_of_some _ e) hp hz4 fun c o c1 c2 c3 e => Heap.get?_push_of_some _ (hk c o c1 c2 c3 e)
theorem zipH_next_end {Q : Fin → Shared → Prop} (S : ZipSep2 z TI TO i1 i2 fp1 fp2) (D1 : Draws prog w A i1 fp1 n1 P1 St1) (D2 : Draws prog w A i2 fp2 n2 P2 St2)
    (hz : IsZipHeld s.heap z TI TO T f) (hT : s.heap.get? T = some oT) (hTI : IsPair s.heap TI (.ref i1) (.ref i2)) (st1 : St1 i s.heap) (st2 : St2 i s.heap) (hle1 : i ≤ n1) (hle2 : i ≤ n2) (hend : i = n1 ∨ i = n2)
    (hE : ∀ h' tk e, (∀ c o, c ≠ z → c ≠ i1 → c ≠ i2 → s.heap.get? c = some o → h'.get? c = some o) → (∃ o, h'.get? e = some o ∧ o.cls = .type "StopIteration") → E (.ref e) { s with heap := h', toks := tk }) :
    wpAny (model prog w) A (Builtin.«zip.__next__» ⟨[.ref z], []⟩) Q E s := by
  show wpAny _ _ (field (.ref z) 2 >>= _) _ _ _
  refine wpAny_bind (wpAny_field hz rfl (x := .bool false) rfl ?_)
  show wpAny _ _ (field (.ref z) 3 >>= _) _ _ _
  refine wpAny_bind (wpAny_field hz rfl (x := .ref TI) rfl ?_)
  refine wpAny_bind (wpAny_seqItems hTI rfl ?_)
  show wpAny _ _ (Builtin.SmallTypes.ownedTupleIsFree (.ref z) >>= _) _ _ _
  refine wpAny_bind (wpAny_tupleHeld_zip hz hT fun h₁ hz₁ hs₁ => ?_)
  simp only [Bool.false_eq_true, if_false]
  refine wpAny_bind ?_
  rw [← Array.forIn_toList]
  simp only [List.forIn_cons, List.forIn_nil]
  refine wpAny_bind (wpAny_bind (wpAny_holding ?_))
  show wpAny _ _ (Builtin.SmallTypes.nextOf (.ref i1) >>= _) _ _ _
  by_cases hlt1 : i < n1
  · refine wpAny_bind (D1.item i { s with heap := h₁ } _ _ hlt1 (D1.over st1 hs₁ S.zf1) fun x h₂ tk2 hx sn1 hs₂ => wpAny_pure ?_)
    refine wpAny_pure ?_
    refine wpAny_bind (wpAny_bind (wpAny_holding ?_))
    show wpAny _ _ (Builtin.SmallTypes.nextOf (.ref i2) >>= _) _ _ _
    have hi2 : i = n2 := by omega
    refine wpAny_bind (D2.done { s with heap := h₂, toks := tk2 } _ _ (by rw [← hi2]; exact D2.over (D2.over st2 hs₁ S.zf2) hs₂ S.sep1_2) fun h₃ e hs₃ he => ?_)
    exact hE h₃ tk2 e (fun c o c1 c2 c3 x => hs₃ _ _ c3 (hs₂.extBut _ _ c2 (hs₁.extBut _ _ c1 x))) he
  · have hi1 : i = n1 := by omega
    refine wpAny_bind (D1.done { s with heap := h₁ } _ _ (by rw [← hi1]; exact D1.over st1 hs₁ S.zf1) fun h₂ e hs₂ he => ?_)
    exact hE h₂ s.toks e (fun c o c1 c2 _ x => hs₂ _ _ c2 (hs₁.extBut _ _ c1 x)) he
theorem pyNext_zipH_item {Q : Option Value → Shared → Prop} (S : ZipSep2 z TI TO i1 i2 fp1 fp2) (D1 : Draws prog w A.in1 i1 fp1 n1 P1 St1) (D2 : Draws prog w A.in1 i2 fp2 n2 P2 St2)
    (hz : IsZipHeld s.heap z TI TO T f) (hT : s.heap.get? T = some oT) (hTI : IsPair s.heap TI (.ref i1) (.ref i2)) (st1 : St1 i s.heap) (st2 : St2 i s.heap) (hlt1 : i < n1) (hlt2 : i < n2)
    (hQ : ∀ x y h' tk, P1 i x → P2 i y → IsZipHeld h' z TI TO T true → St1 (i + 1) h' → St2 (i + 1) h' → IsPair h' s.heap.objs.size x y → h'.objs.size = s.heap.objs.size + 1 →
      (∀ c o, c ≠ z → c ≠ i1 → c ≠ i2 → s.heap.get? c = some o → h'.get? c = some o) → Q (some (.ref s.heap.objs.size)) { s with heap := h', toks := tk }) :
    wpAny (model prog w) A (pyNext (.ref z)) Q E s := by
  have hTy : s.TypeIs (.ref z) "zip" := ⟨_, hz, rfl⟩
  unfold pyNext
  exact wpAny_bind (wpAny_attempt (wpAny_callSpecial?_slot (name := Str.ofString "__next__") hTy F.slot_zip_next
    (wpAny_call_entry F.slot_zip_next hTy F.entry_zip_next
      (zipH_next_item S D1 D2 hz hT hTI st1 st2 hlt1 hlt2 fun x y h' tk p1 p2 a1 a3 a4 a5 a6 a7 => wpAny_pure (hQ x y h' tk p1 p2 a1 a3 a4 a5 a6 a7)) (F.args_zip_next_1 _))))
theorem pyNext_zipH_end {Q : Option Value → Shared → Prop} (S : ZipSep2 z TI TO i1 i2 fp1 fp2) (D1 : Draws prog w A.in1 i1 fp1 n1 P1 St1) (D2 : Draws prog w A.in1 i2 fp2 n2 P2 St2)
    (hz : IsZipHeld s.heap z TI TO T f) (hT : s.heap.get? T = some oT) (hTI : IsPair s.heap TI (.ref i1) (.ref i2)) (st1 : St1 i s.heap) (st2 : St2 i s.heap) (hle1 : i ≤ n1) (hle2 : i ≤ n2) (hend : i = n1 ∨ i = n2)
    (hQ : ∀ h' tk, (∀ c o, c ≠ z → c ≠ i1 → c ≠ i2 → s.heap.get? c = some o → h'.get? c = some o) → Q none { s with heap := h', toks := tk }) : wpAny (model prog w) A (pyNext (.ref z)) Q E s := by
  have hTy : s.TypeIs (.ref z) "zip" := ⟨_, hz, rfl⟩
  unfold pyNext
  refine wpAny_bind (wpAny_attempt (wpAny_callSpecial?_slot (name := Str.ofString "__next__") hTy F.slot_zip_next
    (wpAny_call_entry F.slot_zip_next hTy F.entry_zip_next (zipH_next_end S D1 D2 hz hT hTI st1 st2 hle1 hle2 hend fun h' tk e hk he => ?_) (F.args_zip_next_1 _))))
  obtain ⟨o, ho, hc⟩ := he
  refine wpAny_bind (wpAny_isInstance (T := "StopIteration") (b := true) ⟨o, ho, hc⟩ isSubtype_stop ?_)
  exact wpAny_pure (hQ _ _ hk)
end
/-- a zip of two walked things as dict()'s argument -/
theorem PairArg.zipX {prog : Program} {w : World} {z TI TO i1 i2 : Addr} {fp1 fp2 : List Addr} {n1 n2 : Nat} {P1 P2 : Nat → Value → Prop} {St1 St2 : Nat → Heap → Prop} (S : ZipSep2 z TI TO i1 i2 fp1 fp2)
    (D1 : ∀ A : Around, A.handled = none → Draws prog w A i1 fp1 n1 P1 St1) (D2 : ∀ A : Around, A.handled = none → Draws prog w A i2 fp2 n2 P2 St2)
    (f1 : ∀ h, St1 0 h → ∀ b ∈ fp1, ∃ o, h.get? b = some o) (f2 : ∀ h, St2 0 h → ∀ b ∈ fp2, ∃ o, h.get? b = some o) :
    PairArg prog w "zip" z ([z, TI, TO] ++ fp1 ++ fp2) [z, TO, i1, i2] (min n1 n2) (fun i k v => P1 i k ∧ P2 i v)
      (fun h => IsZip h z TI TO .none ∧ IsPair h TI (.ref i1) (.ref i2) ∧ (∃ a b, IsPair h TO a b) ∧ St1 0 h ∧ St2 0 h) where
  type := fun s ok => ⟨_, ok.1, rfl⟩
  notDict := by decide
  keep := fun h h' ok hk => by
    obtain ⟨hz, hTI, ⟨a, b, hTO⟩, h1, h2⟩ := ok
    exact ⟨hk _ _ hz, hk _ _ hTI, ⟨a, b, hk _ _ hTO⟩, (D1 {} rfl).frame _ _ _ h1 fun b hb o e => hk b o e, (D2 {} rfl).frame _ _ _ h2 fun b hb o e => hk b o e⟩
  there := fun h ok b hb => by
    obtain ⟨hz, hTI, ⟨a, c, hTO⟩, h1, h2⟩ := ok
    simp only [List.mem_append, List.mem_cons, List.not_mem_nil, or_false] at hb
    rcases hb with ((e | e | e) | hb) | hb
    · rw [e]; exact ⟨_, hz⟩
    · rw [e]; exact ⟨_, hTI⟩
    · rw [e]; exact ⟨_, hTO⟩
    · exact f1 h h1 b hb
    · exact f2 h h2 b hb
  sub := fun b hb => by
    simp only [List.mem_append, List.mem_cons, List.not_mem_nil, or_false] at hb ⊢
    rcases hb with e | e | e | e
    · exact .inl (.inl (.inl e))
    · exact .inl (.inl (.inr (.inr e)))
    · exact .inl (.inr (e ▸ S.mem1))
    · exact .inr (e ▸ S.mem2)
  noKeys := fun A s Q E hA ok h => getAttrOr_miss_zip ok.1 rfl rfl rfl zip_no_keys (by decide +kernel) hA h
  iter := fun A s d Q E hA ok hd hdf h => by
    obtain ⟨hz, hTI, ⟨a, b, hTO⟩, h1, h2⟩ := ok
    simp only [List.mem_append, List.mem_cons, List.not_mem_nil, or_false, not_or] at hdf
    obtain ⟨⟨⟨dz, dTI, dTO⟩, df1⟩, df2⟩ := hdf
    have di1 : d ≠ i1 := fun e => df1 (e ▸ S.mem1)
    have di2 : d ≠ i2 := fun e => df2 (e ▸ S.mem2)
    have hA1 : A.in1.handled = none := hA
    refine wpAny_pyIter_zip hz (h z [z, TO, i1, i2] (fun i h => IsPair h TI (.ref i1) (.ref i2) ∧ St1 i h ∧ St2 i h ∧
      ((IsZip h z TI TO .none ∧ ∃ a b, IsPair h TO a b) ∨ ∃ T f oT, IsZipHeld h z TI TO T f ∧ h.get? T = some oT ∧ T ≠ z ∧ T ≠ i1 ∧ T ≠ i2 ∧ T ≠ d)) s.heap s.toks ?_
      ⟨hTI, h1, h2, .inl ⟨hz, a, b, hTO⟩⟩ (fun _ _ e => e) fun b hb => .inl hb)
    exact {
      off := fun hm => by
        simp only [List.mem_cons, List.not_mem_nil, or_false] at hm
        rcases hm with e | e | e | e
        · exact dz e
        · exact dTO e
        · exact di1 e
        · exact di2 e
      frame := fun i h₁ h₂ st hk => by
        obtain ⟨hTI, h1, h2, hz⟩ := st
        refine ⟨hk _ _ (Ne.symm dTI) hTI, (D1 A hA).frame _ _ _ h1 fun b hb o e => hk b o (fun q => df1 (q ▸ hb)) e, (D2 A hA).frame _ _ _ h2 fun b hb o e => hk b o (fun q => df2 (q ▸ hb)) e, ?_⟩
        rcases hz with ⟨hz, a, b, hTO⟩ | ⟨T, f, oT, hz, hT, r1, r2, r3, r4⟩
        · exact .inl ⟨hk _ _ (Ne.symm dz) hz, a, b, hk _ _ (Ne.symm dTO) hTO⟩
        · exact .inr ⟨T, f, oT, hk _ _ (Ne.symm dz) hz, hk _ _ r4 hT, r1, r2, r3, r4⟩
      item := fun i s₁ Q₁ E₁ hi st hds hQ => by
        obtain ⟨hTI, h1, h2, hz⟩ := st
        have hix : i < n1 := Nat.lt_of_lt_of_le hi (Nat.min_le_left ..)
        have hiy : i < n2 := Nat.lt_of_lt_of_le hi (Nat.min_le_right ..)
        have lt : ∀ {c o}, s₁.heap.get? c = some o → s₁.heap.objs.size ≠ c := fun e => Nat.ne_of_gt (Heap.lt_size e)
        have m1 : s₁.heap.objs.size ≠ i1 := let ⟨_, e⟩ := (D1 A hA).live _ _ h1; lt e
        have m2 : s₁.heap.objs.size ≠ i2 := let ⟨_, e⟩ := (D2 A hA).live _ _ h2; lt e
        rcases hz with ⟨hz, a, b, hTO⟩ | ⟨T, f, oT, hz, hT, r1, r2, r3, r4⟩
        · refine wpAny_pyNext_zipD2_item S (D1 A.in1 hA1) (D2 A.in1 hA1) hz hTI hTO h1 h2 hix hiy fun x y h' tk p1 p2 a1 a2 a3 a4 a5 a6 hk => ?_
          exact hQ s₁.heap.objs.size _ _ h' tk ⟨p1, p2⟩ (.inl ⟨_, a5, rfl, _, rfl⟩)
            ⟨hk _ _ S.TIz S.TITO S.TIi1 S.TIi2 hTI, a3, a4, .inr ⟨s₁.heap.objs.size, false, _, a1, a5, lt hz, m1, m2, Nat.ne_of_gt hds⟩⟩
            fun c o hc e => hk c o (fun x => hc (by simp [x])) (fun x => hc (by simp [x])) (fun x => hc (by simp [x])) (fun x => hc (by simp [x])) e
        · refine pyNext_zipH_item S (D1 A.in1 hA1) (D2 A.in1 hA1) hz hT hTI h1 h2 hix hiy fun x y h' tk p1 p2 a1 a3 a4 a5 a6 hk => ?_
          exact hQ s₁.heap.objs.size _ _ h' tk ⟨p1, p2⟩ (.inl ⟨_, a5, rfl, _, rfl⟩)
            ⟨hk _ _ S.TIz S.TIi1 S.TIi2 hTI, a3, a4, .inr ⟨T, true, oT, a1, hk _ _ r1 r2 r3 hT, r1, r2, r3, r4⟩⟩
            fun c o hc e => hk c o (fun x => hc (by simp [x])) (fun x => hc (by simp [x])) (fun x => hc (by simp [x])) e
      done := fun s₁ Q₁ E₁ st hQ => by
        obtain ⟨hTI, h1, h2, hz⟩ := st
        rcases hz with ⟨hz, a, b, hTO⟩ | ⟨T, f, oT, hz, hT, r1, r2, r3, r4⟩
        · exact wpAny_pyNext_zipD2_end S (D1 A.in1 hA1) (D2 A.in1 hA1) hz hTI hTO h1 h2 (Nat.min_le_left ..) (Nat.min_le_right ..) (by omega) fun h' tk hk => hQ h' tk fun c o hc e => hk c o (fun x => hc (by simp [x])) (fun x => hc (by simp [x])) (fun x => hc (by simp [x])) (fun x => hc (by simp [x])) e
        · exact pyNext_zipH_end S (D1 A.in1 hA1) (D2 A.in1 hA1) hz hT hTI h1 h2 (Nat.min_le_left ..) (Nat.min_le_right ..) (by omega) fun h' tk hk => hQ h' tk fun c o hc e => hk c o (fun x => hc (by simp [x])) (fun x => hc (by simp [x])) (fun x => hc (by simp [x])) e }
end PySem

namespace DL
open PySem PySem.Spec PyProof.Rows L2
def rDictP (K : PySem.W.Frag) : List V → Hp → VK → Prop := fun xs H Q => ∃ (a : Addr) (ps : List Addr) (kvs : List (Key × V)), xs = [.ref a] ∧ (SqL K H a (ps.map V.ref) ∨ SqS K H a (ps.map V.ref)) ∧ Paired (fun p kv => SqT K H p [kV kv.1, kv.2]) ps kvs ∧ (kvs.map Prod.fst).Nodup ∧
  ∀ p, H p = none → Q (.ref p) (upd H p (.dK kvs))
theorem plain_tup {X : Cx} {pins : List (Addr × Obj)} {σ : L2.St} {H : Hp} {s : Shared} {a : Addr} {xs : List V} (I : Inv X pins σ H s) (h : SqS X.K H a xs) : ∃ its : List Value, Vals xs its ∧ PlainSeq "tuple" s.heap a its.toArray ∧ xs.length ≤ sizeLine := by
  rcases h with ⟨o, h, hd⟩ | ⟨o, its, n, h1, h2, h3, h4, h5, h6⟩
  · obtain ⟨e, z, its, rv, o', e', hc, n, hdt⟩ := (show ObjOk X.prog X.w H s.heap a (.frz o (.tup xs)) from I.hok a _ h)
    rw [e] at e'
    cases e'
    exact ⟨its, rv, ⟨o, n, e, hc, hd, hdt⟩, z⟩
  · refine ⟨its.toList, h6, ⟨o, n, I.kIn a o h1, h2, h3, by simpa using h4⟩, ?_⟩
    have := h6.length
    rw [this, Array.length_toList]
    exact h5
theorem mergeKn {kvs : List (Key × V)} (h : (kvs.map Prod.fst).Nodup) : mergeK [] kvs = kvs := by rw [mergeK_new _ [] (by simpa using h)]; rfl
theorem call_dictP2 {X : Cx} (hcalm : X.calm = true) : CallR X (.type "dict") (rDictP X.K) := by
  intro pins s σ H xs us Q I r q
  obtain ⟨a, ps, kvs, ex, hq, hp, hn, q⟩ := q
  subst ex
  obtain ⟨u, eu, rx⟩ := vals1 r
  subst eu
  cases rx
  obtain ⟨prs, rel, hl, hpr⟩ := pairs_of I hp
  have hkl : kvs.length = prs.length := rel.length
  have fin : ∀ h' tk, h'.DictOf (mixKind X.prog X.w) s.heap.objs.size (merged [] prs) → kvs.length ≤ sizeLine → (∀ b o, s.heap.get? b = some o → h'.get? b = some o) → EP X pins σ Q (.ref s.heap.objs.size) { s with heap := h', toks := tk } := fun h' tk hd' hz k => by
    have hm : (s.heap.objs.size == sysModules) = false := beq_eq_false_iff_ne.mpr (Nat.ne_of_gt I.big)
    have hd2 := KV.merge (kvs := []) (vs := []) rel .nil
    rw [mergeKn hn] at hd2
    exact ⟨.ref s.heap.objs.size, upd H s.heap.objs.size (.dK kvs), I.laid (t' := tk) k (Nat.le_refl _) (show ObjOk X.prog X.w _ _ _ (.dK kvs) from ⟨hz, hm, merged [] prs, hd2, hd'⟩), rfl, q _ (I.hok.fresh (Nat.le_refl _))⟩
  obtain ⟨us, hus⟩ : ∃ us : List (Value × Value), us.length = prs.length ∧ ∀ (j : Nat) (q' : Key × Value), prs[j]? = some q' → ∃ (b : Addr) (u : Value), ps[j]? = some b ∧ us[j]? = some (u, q'.2) ∧ IsTup s.heap b #[u, q'.2] ∧ keyIs q'.1 u = true := by
    clear fin rel hkl
    induction prs generalizing ps kvs with
    | nil => exact ⟨[], rfl, fun j q' e => by simp at e⟩
    | cons q0 prs ih =>
      obtain ⟨b0, u0, e1, e2, e3⟩ := hpr 0 q0 rfl
      cases ps with
      | nil => simp at e1
      | cons p0 ps =>
        have e1 : p0 = b0 := by simpa using e1
        subst e1
        cases hp with
        | @cons _ kv _ kvs hp1 hp2 =>
          have hqq : ∀ (j : Nat) (q : Key × Value), prs[j]? = some q → ∃ (b : Addr) (u : Value), ps[j]? = some b ∧ IsTup s.heap b #[u, q.2] ∧ keyIs q.1 u = true := fun j q e => by
            obtain ⟨b, u, g1, g2, g3⟩ := hpr (j + 1) q (by simpa using e)
            exact ⟨b, u, by simpa using g1, g2, g3⟩
          obtain ⟨us, h1, h2⟩ : ∃ us : List (Value × Value), us.length = prs.length ∧ ∀ (j : Nat) (q' : Key × Value), prs[j]? = some q' → ∃ (b : Addr) (u : Value), ps[j]? = some b ∧ us[j]? = some (u, q'.2) ∧ IsTup s.heap b #[u, q'.2] ∧ keyIs q'.1 u = true := by
            clear ih
            refine ⟨prs.mapIdx fun j q' => (Classical.epsilon fun u => ∃ b, ps[j]? = some b ∧ IsTup s.heap b #[u, q'.2] ∧ keyIs q'.1 u = true, q'.2), by simp, fun j q' e => ?_⟩
            obtain ⟨b, u, g1, g2, g3⟩ := hqq j q' e
            have hex : ∃ u b, ps[j]? = some b ∧ IsTup s.heap b #[u, q'.2] ∧ keyIs q'.1 u = true := ⟨u, b, g1, g2, g3⟩
            obtain ⟨b', k1, k2, k3⟩ := Classical.epsilon_spec hex
            exact ⟨b', _, k1, by simp [e], k2, k3⟩
          refine ⟨(u0, q0.2) :: us, by simp [h1], fun j q' e => ?_⟩
          cases j with
          | zero =>
            have e : q0 = q' := by simpa using e
            subst e
            exact ⟨p0, u0, rfl, rfl, e2, e3⟩
          | succ j =>
            obtain ⟨b, u, g1, g2, g3⟩ := h2 j q' (by simpa using e)
            exact ⟨b, u, by simpa using g1, by simpa using g2, g3⟩
  obtain ⟨hul, hu⟩ := hus
  have have' : PairsHave (mixKind X.prog X.w) us.length (PairRel us) prs := ⟨hul.symm, fun i key v hr => by
    have hi : i < prs.length := by rw [← hul]; exact (List.getElem?_eq_some_iff.mp hr).1
    obtain ⟨b, u, g1, g2, g3, g4⟩ := hu i prs[i] (by simp [hi])
    have hr : us[i]? = some (key, v) := hr
    rw [g2] at hr
    cases hr
    exact ⟨prs[i].1, by simp [hi], g4⟩⟩
  have items : ∀ its : List Value, Vals (ps.map V.ref) its → PairItems s.heap its.toArray (fun j => (ps[j]?).getD 0) us := fun its rv => by
    have ei := refs_at rv
    subst ei
    refine ⟨by simp [hl, hul], fun j k v hj => ?_⟩
    have hi : j < prs.length := by rw [← hul]; exact (List.getElem?_eq_some_iff.mp hj).1
    obtain ⟨b, u, g1, g2, g3, g4⟩ := hu j prs[j] (by simp [hi])
    rw [g2] at hj
    cases hj
    refine ⟨by simp [g1], .inl ?_⟩
    show IsTup s.heap ((ps[j]?).getD 0) _
    rw [g1]
    exact g3
  rcases hq with hq | hq
  · obtain ⟨its, rv, pl, hz⟩ := I.list hq
    obtain ⟨o, n, ho, hc, hd, hdt⟩ := pl
    rw [List.length_map, ← hl] at hz
    exact PySem.call_dict_pairs (PairArg.list a its.toArray (fun j => (ps[j]?).getD 0) us) (I.ok.hd hcalm) ⟨⟨o, n, ho, hc, hd, hdt⟩, items its rv⟩ have' (by rw [hul]; exact hz) fun h' tk hd' hk => fin h' tk hd' (by rw [hkl]; exact hz) fun b o e => hk b o (fun h => nomatch h) e
  · obtain ⟨its, rv, pl, hz⟩ := plain_tup I hq
    rw [List.length_map, ← hl] at hz
    exact PySem.call_dict_pairs (PairArg.tuple a its.toArray (fun j => (ps[j]?).getD 0) us) (I.ok.hd hcalm) ⟨pl, items its rv⟩ have' (by rw [hul]; exact hz) fun h' tk hd' hk => fin h' tk hd' (by rw [hkl]; exact hz) fun b o e => hk b o (fun h => nomatch h) e
/-- data that are pairs, their keys read -/
def pairsD : List D → Option (List (Key × D))
  | [] => some []
  | .tuple [k, v] :: r => match keyOf k, pairsD r with
    | some k, some ps => some ((k, v) :: ps)
    | _, _ => none
  | _ :: _ => none
theorem pairsD_ok {K : PySem.W.Frag} {I : Hp} : ∀ {ds : List D} {kvs : List (Key × D)} {vs : List V}, pairsD ds = some kvs → RpA K I vs ds → ∃ (ps : List Addr) (ws : List (Key × V)), vs = ps.map V.ref ∧ Paired (fun p kv => SqT K I p [kV kv.1, kv.2]) ps ws ∧ ws.map Prod.fst = kvs.map Prod.fst ∧ RpK K I ws (kvs.map fun p => (kD p.1, p.2))
  | [], _, _, h, r => by cases h; cases r; exact ⟨[], [], rfl, .nil, rfl, .nil⟩
  | .tuple [k, v] :: ds, kvs, _, h, r => by
    unfold pairsD at h
    cases hk : keyOf k with
    | none => rw [hk] at h; cases h
    | some k' =>
      cases hr : pairsD ds with
      | none => rw [hk, hr] at h; cases h
      | some ps =>
        rw [hk, hr] at h
        cases h
        cases r with
        | cons a t =>
          cases a with
          | tup hs ha =>
            cases ha with
            | cons a1 ha =>
              cases ha with
              | cons a2 ha =>
                cases ha
                rw [keyOf_eq hk] at a1
                have := rp_key a1
                subst this
                obtain ⟨p2, w2, e, g1, g2, g3⟩ := pairsD_ok hr t
                exact ⟨_ :: p2, (k', _) :: w2, by rw [e]; rfl, .cons hs.t g1, by simp [g2], .cons a2 g3⟩
  | .none :: _, _, _, h, _ => by cases h
  | .bool _ :: _, _, _, h, _ => by cases h
  | .int _ :: _, _, _, h, _ => by cases h
  | .str _ :: _, _, _, h, _ => by cases h
  | .list _ :: _, _, _, h, _ => by cases h
  | .dict _ :: _, _, _, h, _ => by cases h
  | .tuple [] :: _, _, _, h, _ => by cases h
  | .tuple [_] :: _, _, _, h, _ => by cases h
  | .tuple (_ :: _ :: _ :: _) :: _, _, _, h, _ => by cases h
/-- the data in a list or tuple -/
def seqD : Dv → Store → Option (List D)
  | .d (.list ds), _ => some ds
  | .d (.tuple ds), _ => some ds
  | .c n, μ => match μ[n]? with
    | some (.lst xs) => allD xs
    | _ => none
  | _, _ => none
theorem seqD_ok {G : GT} {w : Wd} {μ : Store} {H : Hp} {v : V} {b : Dv} {ds : List D} (l : Lay G w μ H) (r : Rv G w v b) (h : seqD b μ = some ds) : ∃ a vs, v = .ref a ∧ (SqL G.K H a vs ∨ SqS G.K H a vs) ∧ RpA G.K w.I vs ds := by
  unfold seqD at h
  split at h
  · cases h
    obtain ⟨a, vs, rfl, h1, h2⟩ := rv_lst r
    exact ⟨a, vs, rfl, .inl (seqL l.same h1), h2⟩
  · cases h
    obtain ⟨a, vs, rfl, h1, h2⟩ := rv_tupS r
    exact ⟨a, vs, rfl, .inr (seqS l.same h1), h2⟩
  · split at h
    · rename_i e
      obtain ⟨a, vs, rfl, ha, hI, h2, h3⟩ := cell_lst l r e
      rw [allD_eq h] at h3
      exact ⟨a, vs, rfl, .inl (SqL.of h2), RpA_of_Rvs h3⟩
    · cases h
  · cases h
def dDictP : OpN := n1 fun b μ => match seqD b μ with
  | some ds => match pairsD ds with
    | some kvs => if (kvs.map Prod.fst).Nodup then .ok (.d (dicOf kvs)) μ else .bad
    | none => .bad
  | none => .bad
theorem SqT.mono {K : PySem.W.Frag} {H H' : Hp} (e : Same H H') {a : Addr} {xs : List V} (h : SqT K H a xs) : SqT K H' a xs := seqT e h
theorem ok_dictP {G : GT} : OkN G (rDictP G.K) dDictP := by
  apply ok_n1
  intro W σ w μ H x b Q l r p
  split at p
  · rename_i ds hs
    split at p
    · rename_i kvs hp
      by_cases hn : (kvs.map Prod.fst).Nodup
      · rw [if_pos hn] at p
        obtain ⟨a, vs, rfl, h1, h2⟩ := seqD_ok l r hs
        obtain ⟨ps, ws, rfl, g1, g2, g3⟩ := pairsD_ok hp h2
        refine ⟨a, ps, ws, rfl, h1, Paired.imp (fun _ _ z => seqT l.same z) g1, by rw [g2]; exact hn, fun q nq => ?_⟩
        obtain ⟨le, lay⟩ := l.new nq (.dK ws)
        exact p _ _ _ le lay (.dic (kvs := ws) upd_same (RpK.mono le.1 _ _ g3))
      · rw [if_neg hn] at p; exact p.elim
    · exact p.elim
  · exact p.elim
/-- the same as a cell -/
def cDictP : OpN := n1 fun b μ => match seqD b μ with
  | some ds => match pairsD ds with
    | some kvs => if (kvs.map Prod.fst).Nodup then .ok (.c μ.length) (μ ++ [.dic (kvs.map fun p => (p.1, .d p.2))]) else .bad
    | none => .bad
  | none => .bad
end DL

namespace DL
open PySem PySem.Spec PyProof.Rows L2
section
variable {X : Cx} {pins : List (Addr × Obj)} {σ : L2.St} {H : Hp} {s : Shared}
/-- what a walked thing draws, under any around -/
theorem Sc.drawsA (I : Inv X pins σ H s) {it : Addr} : ∀ {c : Sc} {xs : List V}, c.at X.K H xs → c.apart it →
    ∃ (P : Nat → Value → Prop) (St : Nat → Heap → Prop), (∀ A : Around, A.handled = none → Draws X.prog X.w A it (c.fp it) xs.length P St) ∧ (∀ h', (∀ b o, s.heap.get? b = some o → h'.get? b = some o) → c.st it 0 h' → St 0 h') ∧ (∀ h, St 0 h → ∀ b ∈ c.fp it, ∃ o, h.get? b = some o) ∧
      (∀ j v, P j v → ∃ x, xs[j]? = some x ∧ RelV x v) ∧ (c.src.isSome = true → ∃ us : List Value, Vals xs us ∧ ∀ j v, P j v → us[j]? = some v)
  | .li a, xs, h, hn => by
    obtain ⟨its, rv, pl, _⟩ := I.list h
    have hl : its.toArray.size = xs.length := by rw [List.size_toArray]; exact rv.length.symm
    refine ⟨fun j v => its.toArray[j]? = some v, fun i h => h.IsListIter it a i ∧ h.IsList a its.toArray, fun A hh => by have D := Draws.list (prog := X.prog) (w := X.w) (A := A) hh it a hn its.toArray; rw [hl] at D; exact D, fun h' k st => ⟨st, pl.isList.at fun o e => k _ o e⟩, fun h st b hb => ?_, fun j v q => ?_, fun _ => ⟨its, rv, fun j v q => by simpa using q⟩⟩
    · have hb : b = it ∨ b = a := by simpa [Sc.fp] using hb
      obtain ⟨⟨o1, e1, _⟩, ⟨o2, e2, _⟩⟩ := st
      rcases hb with e | e
      · rw [e]; exact ⟨_, e1⟩
      · rw [e]; exact ⟨_, e2⟩
    · have q : its[j]? = some v := by simpa using q
      have hj : j < xs.length := by rw [← hl, List.size_toArray]; exact (List.getElem?_eq_some_iff.mp q).1
      obtain ⟨u, h1, h2⟩ := rv.get (show xs[j]? = some xs[j] by simp [hj])
      rw [q] at h1
      cases h1
      exact ⟨_, by simp [hj], h2⟩
  | .tu a, xs, h, hn => by
    obtain ⟨its, rv, pl, _⟩ := I.tuple h
    have hl : its.toArray.size = xs.length := by rw [List.size_toArray]; exact rv.length.symm
    refine ⟨fun j v => its.toArray[j]? = some v, fun i h => h.IsTupleIter it a i ∧ h.IsTuple a its.toArray, fun A hh => by have D := Draws.tuple (prog := X.prog) (w := X.w) (A := A) hh it a hn its.toArray; rw [hl] at D; exact D, fun h' k st => ⟨st, Heap.IsTuple.at pl fun o e => k _ o e⟩, fun h st b hb => ?_, fun j v q => ?_, fun _ => ⟨its, rv, fun j v q => by simpa using q⟩⟩
    · have hb : b = it ∨ b = a := by simpa [Sc.fp] using hb
      obtain ⟨⟨o1, e1, _⟩, ⟨o2, e2, _⟩⟩ := st
      rcases hb with e | e
      · rw [e]; exact ⟨_, e1⟩
      · rw [e]; exact ⟨_, e2⟩
    · have q : its[j]? = some v := by simpa using q
      have hj : j < xs.length := by rw [← hl, List.size_toArray]; exact (List.getElem?_eq_some_iff.mp q).1
      obtain ⟨u, h1, h2⟩ := rv.get (show xs[j]? = some xs[j] by simp [hj])
      rw [q] at h1
      cases h1
      exact ⟨_, by simp [hj], h2⟩
  | .tx z, xs, h, hn => by
    have h : xs = z.cps.toList.map fun c => V.str ⟨#[c]⟩ := h
    subst h
    have hl : z.cps.size = (z.cps.toList.map fun c => V.str ⟨#[c]⟩).length := by simp
    refine ⟨fun i v => ∃ c u, z.cps[i]? = some c ∧ v = .str ⟨#[c]⟩ u, fun i h => ∃ t, h.IsStrIter it (strIterType z) z t i, fun A hh => ?_, fun h' k st => st, fun h st b hb => ?_, fun j v q => ?_, fun e => nomatch e⟩
    · rw [← hl]
      exact {
        live := fun i h ⟨t, o, e, _⟩ => ⟨o, e⟩
        frame := fun i h h' ⟨t, st⟩ hk => ⟨t, (Draws.text (prog := X.prog) (w := X.w) (A := A) hh it z t).frame i h h' st hk⟩
        item := fun i s Q E hi ⟨t, st⟩ hQ => (Draws.text (prog := X.prog) (w := X.w) (A := A) hh it z t).item i s Q E hi st fun x h' tk p st' sb => hQ x h' tk (by obtain ⟨c, u, p1, p2⟩ := p; exact ⟨c, u, p1, p2⟩) ⟨t, st'⟩ sb
        done := fun s Q E ⟨t, st⟩ hE => (Draws.text (prog := X.prog) (w := X.w) (A := A) hh it z t).done s Q E st hE }
    · have hb : b = it := by simpa [Sc.fp] using hb
      obtain ⟨t, o, e, _⟩ := st
      rw [hb]; exact ⟨o, e⟩
    · obtain ⟨c, u, q, rfl⟩ := q
      refine ⟨.str ⟨#[c]⟩, ?_, ⟨u, rfl⟩⟩
      rw [List.getElem?_map, Array.getElem?_toList, q]
      rfl
end
def tDictZip (K : PySem.W.Frag) (ta : TA) : TE := fun σ H Q => ta σ H fun vs H1 => ∃ (c1 c2 : Sc) (ks : List Key) (ys : List V), vs = [c1.v, c2.v] ∧ c2.src.isSome = true ∧ c1.at K H1 (ks.map kV) ∧ c2.at K H1 ys ∧ (ks.take ys.length).Nodup ∧ ks.length ≤ sizeLine ∧
  ∀ p, H1 p = none → Q (.ref p) (upd H1 p (.dK (ks.zip ys)))
theorem map_fst_zip {α β : Type} : ∀ (l : List α) (m : List β), (l.zip m).map Prod.fst = l.take m.length
  | [], m => by simp
  | _ :: _, [] => by simp
  | a :: l, b :: m => by simp [map_fst_zip l m]
theorem KV_zip {ys : List V} {ws : List Value} (r : Vals ys ws) : ∀ ks : List Key, KV (ks.zip ys) (ks.zip ws) := by
  induction r with
  | nil => intro ks; cases ks <;> exact .nil
  | @cons x y xs us r t ih =>
    intro ks
    cases ks with
    | nil => exact .nil
    | cons k ks => exact .cons ⟨rfl, r⟩ (ih ks)
theorem pe_dictZip {X : Cx} {e e2 : Expr} {ta : TA} {p p2 pos pos2 : Pos} (hc : X.calm = true) (hgd : Gl X "dict") (hmd : X.mg "dict" = none) (hg : Gl X "zip") (hm : X.mg "zip" = none) (ha : PA X [e, e2] ta)
    (hs : starEach [e, e2] X.env = (false, eval e X.env) :: starEach [e2] X.env := by rfl) (hpl : (backTo pos (starEach [e2] X.env)).any (·.1) = false := by rfl)
    (hs2 : starEach [.Call (.Name "zip" p) [e, e2] [] pos] X.env = (false, eval (.Call (.Name "zip" p) [e, e2] [] pos) X.env) :: starEach [] X.env := by rfl) (hpl2 : (backTo pos2 (starEach [] X.env)).any (·.1) = false := by rfl) :
    PE X (.Call (.Name "dict" p2) [.Call (.Name "zip" p) [e, e2] [] pos] [] pos2) (tDictZip X.K ta) := by
  refine ⟨fun pins s σ H Q I h => ?_⟩
  have bd : bootBuiltins "dict" = some (.type "dict") := by decide +kernel
  refine Call_ (ld_blt I hgd hmd bd (PyProof.Rows.callWith_type1 ?_ hs2 hpl2))
  refine Calls.spliced_cons ?_
  refine Call_ (ld_blt I hg hm PyProof.Rows.boot_zip (PyProof.Rows.callWith_type1 (thn (ha.run pos pins s σ H _ I h) fun us s1 ⟨vs, H1, I1, r1, q1⟩ => ?_) hs hpl))
  obtain ⟨c1, c2, ks, ys, ex, hsrc, a1, a2, hnd, hkz, q⟩ := q1
  subst ex
  cases r1 with
  | cons r rr =>
    cases rr with
    | cons r' rr =>
      cases rr
      obtain ⟨o1, H1', B1, b1, k1, _⟩ := Sc.begins I1 a1 r
      obtain ⟨o2, H2', B2, b2, k2, _⟩ := Sc.begins I1 a2 r'
      have lt1 : ∀ a, c1.src = some a → a < s1.heap.objs.size := fun a e => Sc.src_lt I1 a1 e
      have lt2 : ∀ a, c2.src = some a → a < s1.heap.objs.size := fun a e => Sc.src_lt I1 a2 e
      refine zip_begins2 B1 B2 b1 b2 fun h' hz hTI hTO h1 h2 hsz hk => ?_
      have g1 : ∀ b, s1.heap.objs.size < b → b ∉ c1.fp s1.heap.objs.size := fun b hb hm => by
        rcases Sc.fp_mem hm with e | e
        · exact absurd e (Nat.ne_of_gt hb)
        · exact absurd (lt1 b e) (Nat.not_lt_of_gt hb)
      have g2 : ∀ b, s1.heap.objs.size ≤ b → b ≠ s1.heap.objs.size + 1 → b ∉ c2.fp (s1.heap.objs.size + 1) := fun b hb hne hm => by
        rcases Sc.fp_mem hm with e | e
        · exact absurd e hne
        · exact absurd (lt2 b e) (Nat.not_lt_of_ge hb)
      have S : ZipSep2 (s1.heap.objs.size + 4) (s1.heap.objs.size + 2) (s1.heap.objs.size + 3) s1.heap.objs.size (s1.heap.objs.size + 1) (c1.fp s1.heap.objs.size) (c2.fp (s1.heap.objs.size + 1)) := by
        generalize s1.heap.objs.size = n at *
        exact ⟨by simp, by simp, by simp, by simp, Sc.mem_fp, g1 _ (by omega), g1 _ (by omega), by simp, Sc.mem_fp, g2 _ (by omega) (by simp), g2 _ (by omega) (by simp), g2 _ (Nat.le_refl _) (by simp), g1 _ (by omega)⟩
      obtain ⟨P1, St1, D1, i1, t1, e1, _⟩ := Sc.drawsA I1 (it := s1.heap.objs.size) a1 (Sc.apart_of fun a e => Nat.ne_of_lt (lt1 a e))
      obtain ⟨P2, St2, D2, i2, t2, _, e2⟩ := Sc.drawsA I1 (it := s1.heap.objs.size + 1) a2 (Sc.apart_of fun a e => Nat.ne_of_lt (Nat.lt_succ_of_lt (lt2 a e)))
      obtain ⟨ws, rws, e2⟩ := e2 hsrc
      have hlw : ws.length = ys.length := rws.length.symm
      refine Calls.spliced_nil ?_
      refine PySem.call_dict_pairs (knd := mixKind X.prog X.w) (kvs := ks.zip ws) (PairArg.zipX S D1 D2 t1 t2) (I1.ok.hd hc) ⟨hz, hTI, ⟨_, _, hTO⟩, i1 _ hk (k1 _ _ h1), i2 _ hk (k2 _ _ h2)⟩ ⟨by rw [List.length_zip, List.length_map, hlw], fun i key v hr => ?_⟩ (by rw [List.length_map]; exact Nat.le_trans (Nat.min_le_left _ _) hkz) fun h'' tk hd' hkk => ?_
      · obtain ⟨x, hx, rx⟩ := e1 _ _ hr.1
        have hv := e2 _ _ hr.2
        rw [List.getElem?_map] at hx
        cases hk' : ks[i]? with
        | none => rw [hk'] at hx; cases hx
        | some k =>
          rw [hk'] at hx
          cases hx
          exact ⟨k, List.getElem?_zip_eq_some.mpr ⟨hk', hv⟩, kV_is (P := X.prog) (w := X.w) rx⟩
      · have keep : ∀ b o, s1.heap.get? b = some o → h''.get? b = some o := fun b o e => by
          have hb := Heap.lt_size e
          refine hkk b o (fun hm => ?_) (hk b o e)
          have e' : b = s1.heap.objs.size + 4 ∨ b = s1.heap.objs.size + 3 ∨ b = s1.heap.objs.size ∨ b = s1.heap.objs.size + 1 := by simpa using hm
          rcases e' with q | q | q | q <;> rw [q] at hb <;> exact absurd hb (Nat.not_lt_of_ge (by first | exact Nat.le_refl _ | exact Nat.le_add_right _ _))
        have hle : s1.heap.objs.size ≤ h'.objs.size := by omega
        have hm : (h'.objs.size == sysModules) = false := beq_eq_false_iff_ne.mpr (Nat.ne_of_gt (Nat.lt_of_lt_of_le I1.big hle))
        have kv : KV (ks.zip ys) (ks.zip ws) := KV_zip rws ks
        have hd2 := KV.merge (kvs := []) (vs := []) kv .nil
        rw [mergeKn (by rw [map_fst_zip]; exact hnd)] at hd2
        have hlz : (ks.zip ys).length ≤ sizeLine := by rw [List.length_zip]; exact Nat.le_trans (Nat.min_le_left _ _) hkz
        exact ⟨.ref h'.objs.size, upd H1 h'.objs.size (.dK (ks.zip ys)), I1.laid (t' := tk) keep hle (show ObjOk X.prog X.w _ _ _ (.dK (ks.zip ys)) from ⟨hlz, hm, merged [] (ks.zip ws), hd2, hd'⟩), rfl, q _ (I1.hok.fresh hle)⟩
end DL

namespace DL
open PySem PySem.Spec PyProof.Rows L2
section
variable {X : Cx} {G : GT} {W : WX} {e o : Expr} {es : List Expr} {mas : MA} {mo m : ME} {pos p apos : Pos} {x fl : Str} {k n : Nat} {f C : Addr} {fd : FuncData} {ps : List Str} {F : OpN} {sp : Sp} {E : L2.St → XK}
abbrev FlR (G : GT) (w : Wd) : List (Str × V) → List (Str × Dv) → Prop := Paired fun p q => p.1 = q.1 ∧ Rv G w p.2 q.2
def putFD (f : Str) (v : Dv) : List (Str × Dv) → List (Str × Dv)
  | [] => [(f, v)]
  | (g, x) :: r => if g = f then (g, v) :: r else (g, x) :: putFD f v r
/-- the own class of number n, its attributes' names -/
structure ClsN (K : PySem.W.Frag) (FA : Nat → Option Addr) (n : Nat) (fs ms : List Str) : Prop where
  ex : ∃ C, FA n = some C ∧ Cls K C ∧ ∀ f ∈ fs, NoAttr K C f
def dFld (n : Nat) (f : Str) : Op1 := fun x μ => match x with
  | .c i => match μ[i]? with
    | some (.obj C fs) => if C = n then match fs.lookup f with
      | some v => .ok v μ
      | none => .bad
      else .bad
    | _ => .bad
  | _ => .bad
def dSetF (n : Nat) (f : Str) (x v : Dv) (μ : Store) : Option Store := match x with
  | .c i => match μ[i]? with
    | some (.obj C fs) => if C = n ∧ fs.length < 1000 then some (μ.set i (.obj C (putFD f v fs))) else none
    | _ => none
  | _ => none
def sSetF (n : Nat) (f : Str) (m mo : ME) : MS := fun ρ μ => (m ρ μ).bind fun v μ => (mo ρ μ).bind fun x μ => optN (dSetF n f x v μ) ρ
/-- the method m of the class of number n -/
structure CalM (P : Program) (w : World) (G : GT) (mg : Str → Option Value) (base : Heap) (n : Nat) (m : Str) (k : Nat) (ps : List Str) (F : OpN) : Prop where
  ex : ∃ (C f : Addr) (fd : FuncData), G.FA n = some C ∧ Cls G.K C ∧ Meth G.K C m f ∧ FnG P w G.K mg base k f fd ps (spD G ps.length F) ∧ Binds G.K fd ps []
def eMeth (n k : Nat) (m : Str) (F : OpN) (mo : ME) (mas : MA) : ME := fun ρ μ => (mo ρ μ).bind fun x μ => match x with
  | .c i => match μ[i]? with
    | some (.obj C fs) => if C = n ∧ fs.lookup m = none then (mas ρ μ).bind fun bs μ => fCall k F (.c i :: bs) μ else .bad
    | _ => .bad
  | _ => .bad
theorem runF {pins : List (Addr × Obj)} {σ : L2.St} {H : Hp} {s : Shared} {Q : VK} {us : List Value} {vs : List V} {sp : Sp} (hF : FnG X.prog X.w X.K X.mg X.base k f fd ps sp) (g : X.A.guards = some []) (hr : Room k X.A) (hb : Binds X.K fd ps []) (tk : Takes X W) (I : Inv X pins σ H s) (r : Vals vs us) (q : sp vs H Q (WE W σ)) :
    wpAny (model X.prog X.w) X.A (call (.ref f) us) (EP X pins σ Q) X.xe s := by
  have hl : (us ++ ([] : List Value)).length = ps.length := by rw [List.append_nil, ← r.length]; exact hF.len _ _ _ _ q
  have hb1 := hb s us I.kIn hl
  rw [List.append_nil] at hb1
  apply wpAny_call
  apply codeAny_mono (runG hF g hr (E := WE W) (fun _ _ _ _ _ I c => passAt tk σ _ _ _ _ _ I c) I hb1 r q)
  rintro (e | fl) s' q
  · exact q
  · cases fl with
    | ret u => exact q
    | next => exact q.elim
    | brk => exact q.elim
    | cont => exact q.elim
structure CalI (P : Program) (w : World) (G : GT) (mg : Str → Option Value) (base : Heap) (x : Str) (n : Nat) (k : Nat) (ps : List Str) (F : OpN) : Prop where
  ex : ∃ (C f : Addr) (fd : FuncData), G.FA n = some C ∧ mg x = some (.ref C) ∧ Mk G.K C f ∧ FnG P w G.K mg base k f fd ps (spD G ps.length F) ∧ Binds G.K fd ps []
def eMake (n k : Nat) (F : OpN) (mas : MA) : ME := fun ρ μ => (mas ρ μ).bind fun bs μ => if bs.length + 1 = k then (F (.c μ.length :: bs) (μ ++ [.obj n []])).bind fun r μ' => match r with
  | .d .none => .ok (.c μ.length) μ'
  | _ => .bad
  else .bad
end
end DL

namespace PySem
open PySem.W
section
variable {prog : Program} {w : World} {A : Around} {E : Value → Shared → Prop} {s : Shared} {R : Result → Shared → Prop} {z TI TO i1 i2 : Addr} {fp1 fp2 : List Addr} {n1 n2 : Nat} {P1 P2 : Nat → Value → Prop} {St1 St2 : Nat → Heap → Prop}
/-- a zip behind i items, while the list at S is filled -/
def ZpSt (St1 St2 : Nat → Heap → Prop) (z TI TO i1 i2 S : Addr) (i : Nat) (h : Heap) : Prop :=
  IsPair h TI (.ref i1) (.ref i2) ∧ St1 i h ∧ St2 i h ∧ ((IsZip h z TI TO .none ∧ ∃ a b, IsPair h TO a b) ∨ ∃ T f oT, IsZipHeld h z TI TO T f ∧ h.get? T = some oT ∧ T ≠ z ∧ T ≠ i1 ∧ T ≠ i2 ∧ T ≠ S)
theorem ZpSt.keep (S0 : ZipSep2 z TI TO i1 i2 fp1 fp2) (D1 : Draws prog w A i1 fp1 n1 P1 St1) (D2 : Draws prog w A i2 fp2 n2 P2 St2) {S : Addr} {i : Nat} {h h' : Heap} (x : ZpSt St1 St2 z TI TO i1 i2 S i h) (hk : ∀ b o, b ≠ S → h.get? b = some o → h'.get? b = some o)
    (hz : z ≠ S) (hTI : TI ≠ S) (hTO : TO ≠ S) (h1 : S ∉ fp1) (h2 : S ∉ fp2) : ZpSt St1 St2 z TI TO i1 i2 S i h' := by
  obtain ⟨a, b, c, d⟩ := x
  refine ⟨hk _ _ hTI a, D1.frame _ _ _ b fun q hq o e => hk q o (fun e' => h1 (e' ▸ hq)) e, D2.frame _ _ _ c fun q hq o e => hk q o (fun e' => h2 (e' ▸ hq)) e, ?_⟩
  rcases d with ⟨hz', a, b, hTO'⟩ | ⟨T, f, oT, hz', hT, r1, r2, r3, r4⟩
  · exact .inl ⟨hk _ _ hz hz', a, b, hk _ _ hTO hTO'⟩
  · exact .inr ⟨T, f, oT, hk _ _ hz hz', hk _ _ r4 hT, r1, r2, r3, r4⟩
/-- the pairs that were made, one behind the other, above lo -/
structure PrG (P1 P2 : Nat → Value → Prop) (lo : Addr) (h : Heap) (as : List Addr) : Prop where
  rise : as.Pairwise (· < ·)
  above : ∀ a ∈ as, lo < a
  pairs : ∀ (j : Nat) (a : Addr), as[j]? = some a → ∃ x y, P1 j x ∧ P2 j y ∧ h.get? a = some { cls := .type "tuple", data := .seq #[x, y] }
theorem PrG.there {lo : Addr} {h : Heap} {as : List Addr} (g : PrG P1 P2 lo h as) {a : Addr} (ha : a ∈ as) : a < h.objs.size := by
  obtain ⟨j, hj⟩ := List.mem_iff_getElem?.mp ha
  obtain ⟨_, _, _, _, e⟩ := g.pairs j a hj
  exact Heap.lt_size e
end
end PySem

namespace PySem
open Sem (wp)
open AutoSeq1 (wpAny_loadPart')
open PySem.W
section
variable {prog : Program} {w : World} {K : Type} [DecidableEq K] {knd : KeyKind prog w K}
end
end PySem
namespace DL
open PySem PySem.Spec PyProof.Rows L2
def putL : Hp → List Addr → List HO → Hp
  | H, a :: as, t :: ts => putL (upd H a t) as ts
  | H, _, _ => H
theorem Lay.putL {G : GT} {μ : Store} : ∀ {as : List Addr} {ts : List HO} {w : Wd} {H : Hp}, Lay G w μ H → as.Nodup → ts.length = as.length → (∀ a ∈ as, H a = none) →
    ∃ w', w.le w' ∧ Lay G w' μ (DL.putL H as ts) ∧ ∀ (j : Nat) (a : Addr) (t : HO), as[j]? = some a → ts[j]? = some t → w'.I a = some t
  | [], [], w, H, l, _, _, _ => ⟨w, w.le_refl, l, fun j a t h => by simp at h⟩
  | [], _ :: _, _, _, _, _, h, _ => by simp at h
  | _ :: _, [], _, _, _, _, h, _ => by simp at h
  | a :: as, t :: ts, w, H, l, nd, hl, hn => by
    obtain ⟨le, l2⟩ := l.new (hn a List.mem_cons_self) t
    have nd' := List.nodup_cons.mp nd
    obtain ⟨w', le', l3, h3⟩ := Lay.putL (as := as) (ts := ts) l2 nd'.2 (by simpa using hl) fun b hb => by
      rw [upd_ne (fun z : b = a => nd'.1 (by rw [← z]; exact hb))]
      exact hn b (List.mem_cons_of_mem _ hb)
    refine ⟨w', le.trans le', l3, fun j b u h1 h2 => ?_⟩
    cases j with
    | zero =>
      simp at h1 h2
      subst h1 h2
      exact le'.1 _ _ upd_same
    | succ j => exact h3 j b u (by simpa using h1) (by simpa using h2)
/-- new pairs at as, then a new thing of them -/
def rPairs (as : List Addr) (qs : List (V × V)) (Q : List HO → Prop) : Prop := ∀ ts : List HO, ts.length = as.length → (∀ (j : Nat) (t : HO), ts[j]? = some t → ∃ its q, qs[j]? = some q ∧ t = frT its [q.1, q.2]) → Q ts
def tItemsL (mk : List Addr → HO → Prop) (te : TE) : TE := fun σ H Q => te σ H fun x H1 => ∃ (d : Addr) (kvs : List (Key × V)), x = .ref d ∧ H1 d = some (.dK kvs) ∧
  ∀ (as : List Addr) (ts : List HO) (S : Addr) (oS : HO), as.Nodup → (∀ a ∈ as, H1 a = none) → H1 S = none → S ∉ as → ts.length = as.length → as.length = kvs.length → (∀ (j : Nat) (t : HO), ts[j]? = some t → ∃ its q, kvs[j]? = some q ∧ t = frT its [kV q.1, q.2]) → mk as oS → Q (.ref S) (upd (putL H1 as ts) S oS)
def mkL (as : List Addr) (o : HO) : Prop := o = .lst (as.map V.ref)
def mkT (as : List Addr) (o : HO) : Prop := ∃ its, o = frT its (as.map V.ref)
section
variable {X : Cx} {e : Expr} {te : TE} {p apos cpos pos : Pos}
theorem KV.at {ks : List (Key × V)} {vs : List (Key × Value)} (r : KV ks vs) : ∀ {j : Nat} {p : Key × Value}, vs[j]? = some p → ∃ v, ks[j]? = some (p.1, v) ∧ RelV v p.2 := by
  unfold KV at r
  induction r with
  | nil => intro j p h; simp at h
  | @cons a b l m r t ih =>
    intro j p h
    cases j with
    | zero =>
      simp at h
      subst h
      obtain ⟨a1, a2⟩ := a
      obtain ⟨e1, e2⟩ := r
      have e1 : a1 = b.1 := e1
      subst e1
      exact ⟨a2, rfl, e2⟩
    | succ j => obtain ⟨v, h1, h2⟩ := ih (by simpa using h); exact ⟨v, by simpa using h1, h2⟩
end
end DL

namespace DL
open PySem PySem.Spec PyProof.Rows L2
def itemsD (ds : List (Key × D)) : List D := ds.map fun p => .tuple [kD p.1, p.2]
def dItemsF (f : List D → D) : Op1 := fun x μ => match dpairs x μ with
  | some kvs => match allKD kvs with
    | some ds => if ds.length ≤ sizeLine then .ok (.d (f (itemsD ds))) μ else .bad
    | none => .bad
  | none => .bad
section
variable {X : Cx} {G : GT} {W : WX} {e : Expr} {m : ME} {p apos cpos pos : Pos}
end
def tListZip (K : PySem.W.Frag) (ta : TA) : TE := fun σ H Q => ta σ H fun vs H1 => ∃ (c1 c2 : Sc) (xs ys : List V), vs = [c1.v, c2.v] ∧ c1.at K H1 xs ∧ c2.at K H1 ys ∧ xs.length ≤ sizeLine ∧
  ∀ (as : List Addr) (ts : List HO) (S : Addr), as.Nodup → (∀ a ∈ as, H1 a = none) → H1 S = none → S ∉ as → ts.length = as.length → as.length = (xs.zip ys).length → (∀ (j : Nat) (t : HO), ts[j]? = some t → ∃ its q, (xs.zip ys)[j]? = some q ∧ t = frT its [q.1, q.2]) → Q (.ref S) (upd (putL H1 as ts) S (.lst (as.map V.ref)))
def dListZip : OpN := fun bs μ => match bs with
  | [x, y] => match srcD x, srcD y with
    | some ds, some es => if ds.length ≤ sizeLine then .ok (.d (.list ((ds.zip es).map fun p => .tuple [p.1, p.2]))) μ else .bad
    | _, _ => .bad
  | _ => .bad
section
variable {X : Cx} {G : GT} {W : WX} {mas : MA} {a b : Expr} {p p2 pos pos2 : Pos}
def keysZ : List D → Option (List Key)
  | [] => some []
  | d :: r => match keyOf d, keysZ r with
    | some k, some ks => some (k :: ks)
    | _, _ => none
theorem keysZ_ok {K : PySem.W.Frag} {I : Hp} : ∀ {ds : List D} {ks : List Key} {vs : List V}, keysZ ds = some ks → RpA K I vs ds → vs = ks.map kV ∧ ks.length = ds.length
  | [], _, _, h, r => by cases h; cases r; exact ⟨rfl, rfl⟩
  | d :: ds, ks, _, h, r => by
    unfold keysZ at h
    cases hk : keyOf d with
    | none => rw [hk] at h; cases h
    | some k =>
      cases hr : keysZ ds with
      | none => rw [hk, hr] at h; cases h
      | some l =>
        rw [hk, hr] at h
        cases h
        cases r with
        | cons a t =>
          rw [keyOf_eq hk] at a
          obtain ⟨e1, e2⟩ := keysZ_ok hr t
          exact ⟨by rw [rp_key a, e1]; rfl, by simp [e2]⟩
def isSeqDv : Dv → Bool
  | .d (.list _) => true
  | .d (.tuple _) => true
  | _ => false
def dZipF (fin : List (Key × D) → Store → Out Dv) : OpN := fun bs μ => match bs with
  | [x, y] => match srcD x, srcD y with
    | some ds, some es => match keysZ ds with
      | some ks => if isSeqDv y = true ∧ (ks.take es.length).Nodup ∧ ks.length ≤ sizeLine then fin (ks.zip es) μ else .bad
      | none => .bad
    | _, _ => .bad
  | _ => .bad
/-- frozen, or a cell -/
def finDat (kvs : List (Key × D)) (μ : Store) : Out Dv := .ok (.d (dicOf kvs)) μ
def finCel (kvs : List (Key × D)) (μ : Store) : Out Dv := .ok (.c μ.length) (μ ++ [.dic (kvs.map fun p => (p.1, .d p.2))])
theorem zipK {K : PySem.W.Frag} {I : Hp} : ∀ {ks : List Key} {ys : List V} {es : List D}, RpA K I ys es → RpK K I (ks.zip ys) ((ks.zip es).map fun p => (kD p.1, p.2)) ∧ (ks.zip ys).map Prod.fst = (ks.zip es).map Prod.fst
  | [], _, _, _ => ⟨.nil, rfl⟩
  | _ :: _, _, _, .nil => ⟨.nil, rfl⟩
  | k :: ks, _, _, .cons a t => by
    obtain ⟨h1, h2⟩ := zipK (ks := ks) t
    exact ⟨.cons a h1, by simp only [List.zip_cons_cons, List.map_cons, h2]⟩
def OkZf (G : GT) (fin : List (Key × D) → Store → Out Dv) : Prop := ∀ (W : WX) (σ : L2.St) (w : Wd) (μ : Store) (H : Hp) (p : Addr) (ws : List (Key × V)) (kvs : List (Key × D)) (Q : VK), Lay G w μ H → H p = none → RpK G.K w.I ws (kvs.map fun p => (kD p.1, p.2)) → ws.map Prod.fst = kvs.map Prod.fst → Pst G W σ (Rv G) w (fin kvs μ) Q → Q (.ref p) (upd H p (.dK ws))
theorem ok_finDat : OkZf G finDat := fun W σ w μ H p ws kvs Q l nq g3 g4 pp => by
  obtain ⟨le, lay⟩ := l.new nq (.dK ws)
  exact pp _ _ _ le lay (.dic (kvs := ws) upd_same (RpK.mono le.1 _ _ g3))
theorem de_dictZip {fin : List (Key × D) → Store → Out Dv} (hf : OkZf G fin) (hK : X.K = G.K) (hc : X.calm = true) (hgd : Gl X "dict") (hmd : X.mg "dict" = none) (hg : Gl X "zip") (hm : X.mg "zip" = none) (ha : DA X G W [a, b] mas)
    (hs : starEach [a, b] X.env = (false, eval a X.env) :: starEach [b] X.env := by rfl) (hpl : (backTo pos (starEach [b] X.env)).any (·.1) = false := by rfl)
    (hs2 : starEach [.Call (.Name "zip" p) [a, b] [] pos] X.env = (false, eval (.Call (.Name "zip" p) [a, b] [] pos) X.env) :: starEach [] X.env := by rfl) (hpl2 : (backTo pos2 (starEach [] X.env)).any (·.1) = false := by rfl) :
    DE X G W (.Call (.Name "dict" p2) [.Call (.Name "zip" p) [a, b] [] pos] [] pos2) (eN (dZipF fin) mas) := by
  refine PE.imp (pe_dictZip hc hgd hmd hg hm ha hs hpl hs2 hpl2) ?_
  rintro σ H Q ⟨w, μ, ρ, hl, he, pp⟩
  refine tD.seq (k := fun ρ xs μ => dZipF fin xs μ) hl he pp fun w1 μ1 H1 v bs l1 lay1 en1 r1 p1 => ?_
  unfold dZipF at p1
  split at p1
  · rename_i x y
    split at p1
    · rename_i ds es q1 q2
      split at p1
      · rename_i ks qk
        by_cases hz : isSeqDv y = true ∧ (ks.take es.length).Nodup ∧ ks.length ≤ sizeLine
        · rw [if_pos hz] at p1
          cases r1 with
          | cons r t =>
            cases t with
            | cons r' t =>
              cases t
              obtain ⟨c1, xs, rfl, h1, k1⟩ := src_ok r q1
              obtain ⟨c2, ys, rfl, h2, k2⟩ := src_ok r' q2
              obtain ⟨ex, el⟩ := keysZ_ok qk k1
              subst ex
              have hsrc : c2.src.isSome = true := by
                cases c2 with
                | li a => rfl
                | tu a => rfl
                | tx z =>
                  exfalso
                  have r' : Rv G w1 (.str z) y := r'
                  cases y with
                  | d yy => cases yy <;> first | (simp [isSeqDv] at hz; done) | (cases r')
                  | _ => simp [isSeqDv] at hz
              refine ⟨c1, c2, ks, ys, rfl, hsrc, by rw [hK]; exact Sc.mono lay1.same h1, by rw [hK]; exact Sc.mono lay1.same h2, by rw [k2.length]; exact hz.2.1, hz.2.2, fun q nq => ?_⟩
              obtain ⟨g3, g4⟩ := zipK (ks := ks) k2
              exact hf W σ w1 μ1 H1 q (ks.zip ys) (ks.zip es) Q lay1 nq g3 g4 p1
        · rw [if_neg hz] at p1; exact p1.elim
      · exact p1.elim
    · exact p1.elim
  · exact p1.elim
end
end DL

namespace DL
open PySem PySem.Spec PyProof.Rows L2
def rUpd (K : PySem.W.Frag) : V → List V → Hp → VK → Prop := fun x ys H Q => ∃ (a b : Addr) (ws more : List (Key × V)), x = .ref a ∧ ys = [.ref b] ∧ H a = some (.dK ws) ∧ ws.length + more.length ≤ sizeLine ∧ Q .non (upd H a (.dK (mergeK ws more))) ∧
  ((b ≠ a ∧ H b = some (.dK more)) ∨ ∃ ps : List Addr, (SqL K H b (ps.map V.ref) ∨ SqS K H b (ps.map V.ref)) ∧ Paired (fun p kv => SqT K H p [kV kv.1, kv.2]) ps more)
/-- putD one by one -/
def mergeD (kvs more : List (Key × Dv)) : List (Key × Dv) := more.foldl (fun acc p => putD acc p.1 p.2) kvs
/-- what may be handed to update: pairs, or a dict that isn't the receiver -/
def updSrc (i : Nat) (y : Dv) (μ : Store) : Option (List (Key × Dv)) := match seqD y μ with
  | some ds => (pairsD ds).map fun l => l.map fun p => (p.1, .d p.2)
  | none => match y with
    | .c j => if i = j then none else dpairs (.c j) μ
    | y => dpairs y μ
def isDicC : Dv → Store → Bool
  | .c n, μ => match μ[n]? with
    | some (.dic _) => true
    | _ => false
  | _, _ => false
def dUpd : Dv → OpN := fun x bs μ => match x, bs with
  | .c i, [y] => match μ[i]?, updSrc i y μ with
    | some (.dic kvs), some more => if kvs.length + more.length ≤ sizeLine then .ok (.d .none) (μ.set i (.dic (mergeD kvs more))) else .bad
    | _, _ => .bad
  | _, _ => .bad
abbrev FTabE (FA : Nat → Option Addr) : List DictEntry → List (Str × Nat) → Prop := Paired fun e p => ∃ t f, e.key = Value.str p.1 t ∧ e.val = Value.ref f ∧ FA p.2 = some f
structure FTab (K : PySem.W.Frag) (w : World) (FA : Nat → Option Addr) (a : Addr) (tbl : List (Str × Nat)) : Prop where
  ex : ∃ es n, K.lookup a = some ⟨.type "dict", none, .dict es n, #[]⟩ ∧ PySem.W.KeysLit w.params es.toList ∧ FTabE FA es.toList tbl
def lkF (tbl : List (Str × Nat)) (z : Str) : Option Nat := match tbl with
  | [] => none
  | p :: r => if p.1 == z then some p.2 else lkF r z
theorem find_ftab {FA : Nat → Option Addr} {es : List DictEntry} {tbl : List (Str × Nat)} (h : FTabE FA es tbl) (z : Str) {n : Nat} (hn : lkF tbl z = some n) : ∃ f, (es.find? (·.key.isStr z)).map (·.val) = some (.ref f) ∧ FA n = some f := by
  induction h with
  | nil => cases hn
  | @cons e p es tbl r t ih =>
    obtain ⟨t1, f, hk, hv, hf⟩ := r
    unfold lkF at hn
    rw [List.find?_cons, hk]
    show ∃ g, Option.map _ (match (p.1 == z) with | true => some e | false => es.find? _) = _ ∧ _
    cases q : p.1 == z with
    | true =>
      rw [q] at hn
      simp only [if_true, Option.some.injEq] at hn
      subst hn
      exact ⟨f, by simp [hv], hf⟩
    | false =>
      rw [q] at hn
      simp only [Bool.false_eq_true, if_false] at hn
      exact ih hn
def dFTab (tbl : List (Str × Nat)) : Op1 := fun x μ => match x with
  | .d (.str z) => match lkF tbl z with
    | some n => .ok (.f n) μ
    | none => .bad
  | _ => .bad
section
variable {X : Cx} {G : GT} {W : WX} {e i : Expr} {es : List Expr} {mi : ME} {mas : MA} {pos p : Pos} {x : Str} {tbl : List (Str × Nat)} {F : OpN}
theorem de_ftab (hT : ∃ a, X.mg x = some (.ref a) ∧ FTab X.K X.w G.FA a tbl) (hg : Gl X x) (hi : DE X G W i mi) (hdx : (x == ("__debug__" : Str)) = false := by decide) (hs : PlainIx i := by exact fun _ _ => rfl) : DE X G W (.Subscript (.Name x p) i pos) (e1 (dFTab tbl) mi) := by
  obtain ⟨a, hm, ⟨es, n, lk, hk, ht⟩⟩ := hT
  refine PE.imp (pe_ix ix_kdict (L2.pe_glob (v := V.ref a) hg hm rfl hdx) hi hs) ?_
  rintro σ H Q ⟨w, μ, ρ, hl, he, p⟩
  refine tD.seq (k := fun ρ y μ => dFTab tbl y μ) hl he p fun w2 μ2 H2 u c l2 lay2 en2 r2 p2 => ?_
  unfold dFTab at p2
  split at p2
  · rename_i z
    split at p2
    · rename_i n hn
      obtain ⟨f, hf, hA⟩ := find_ftab ht z hn
      refine ⟨a, z, .ref f, rfl, by rw [rv_str r2], ⟨es, _, .ref f, lk, hk, ?_, rfl⟩, p2 w2 _ H2 w2.le_refl lay2 ⟨f, hA, rfl⟩⟩
      unfold PySem.W.nsIn
      rw [lk]
      dsimp only
      obtain ⟨e0, h1, h2⟩ := Option.map_eq_some_iff.mp hf
      rw [h1]
      simp [h2]
    · exact p2.elim
  · exact p2.elim
structure CalV (P : Program) (w : World) (G : GT) (mg : Str → Option Value) (base : Heap) (k m n : Nat) (F : OpN) : Prop where
  ex : ∃ (f : Addr) (fd : FuncData) (ps : List Str), G.FA n = some f ∧ ps.length = m ∧ FnG P w G.K mg base k f fd ps (spD G m F) ∧ PySem.W.keepIn G.K (.ref f) = true ∧ Binds G.K fd ps []
def eCallV (i m : Nat) (Fs : Nat → Option OpN) (mas : MA) : ME := fun ρ μ => match ρ[i]? with
  | some (some (.f n)) => match Fs n with
    | some F => (mas ρ μ).bind fun bs μ => fCall m F bs μ
    | none => .bad
  | _ => .bad
theorem de_callV (i : Nat) {k m : Nat} {Fs : Nat → Option OpN} (hK : X.K = G.K) (C : ∀ n F, Fs n = some F → CalV X.prog X.w G X.mg X.base k m n F) (g : X.A.guards = some []) (hr : Room k X.A) (tk : Takes X W) (ha : DA X G W (e :: es) mas)
    (hN : X.N[i]? = some x := by rfl) (hv : Vis X.env.scope x := by first | exact Or.inl rfl | exact Or.inr (Or.inl rfl) | exact Or.inr (Or.inr rfl)) (hdb : (x == ("__debug__" : Str)) = false := by decide) (hcd : (x == ("__classdict__" : Str)) = false := by decide)
    (he : starEach (e :: es) X.env = (false, eval e X.env) :: starEach es X.env := by rfl) (hpl : (backTo pos (starEach es X.env)).any (·.1) = false := by rfl) : DE X G W (.Call (.Name x p) (e :: es) [] pos) (eCallV i m Fs mas) := by
  refine ⟨fun pins s σ H Q I h => ?_⟩
  obtain ⟨w, μ, ρ, hl, hen, pp⟩ := h
  unfold eCallV at pp
  cases q0 : ρ[i]? with
  | none => rw [q0] at pp; exact pp.elim
  | some o =>
    rw [q0] at pp
    cases o with
    | none => exact pp.elim
    | some b =>
      cases b with
      | d _ => exact pp.elim
      | c _ => exact pp.elim
      | f n =>
        cases qF : Fs n with
        | none => simp only [qF] at pp; exact pp.elim
        | some F =>
          simp only [qF] at pp
          obtain ⟨v, h1, f, hA, rfl⟩ := hen.2 i _ q0
          obtain ⟨f', fd, ps, c1, c2, c3, c4, c5⟩ := (C n F qF).ex
          rw [hA] at c1
          cases c1
          rw [← hK] at c3 c4 c5
          refine wpAny_Call_Name_kw (thn ((pe_var (pos := p) hN hv hdb hcd).run pins s σ H (fun v H1 => v = .ref f ∧ H1 = H) I ⟨.ref f, h1, rfl, rfl⟩) fun u s1 ⟨v, H1, I1, r1, q1⟩ => ?_)
          obtain ⟨rfl, rfl⟩ := q1
          cases r1
          refine PySem.W.callWith_K (h₀ := X.base) I.ok.mod.kin c4 (thn (ha.run pos pins s1 σ _ (fun vs H2 => spD G m F vs H2 Q (WE W σ)) I1 (tD.seq (k := fun ρ bs μ => fCall m F bs μ) hl hen pp fun w1 μ1 H1 vs bs l1 lay1 en1 r1 p1 => ?_)) fun us s2 ⟨vs, H2, I2, r, q⟩ => ⟨I2.kIn, ?_⟩) he hpl
          · unfold fCall at p1
            by_cases q : bs.length = m
            · rw [if_pos q] at p1
              refine ⟨by rw [Paired.length r1]; exact q, w1, μ1, bs, lay1, r1, ?_⟩
              cases z : F bs μ1 with
              | ok c μ2 => rw [z] at p1; exact p1
              | ex c μ2 => rw [z] at p1; exact p1
              | bad => rw [z] at p1; exact p1
            · rw [if_neg q] at p1; exact p1.elim
          · exact runF c3 g hr c5 tk I2 r q
end
end DL

namespace DL
open PySem PySem.Spec PyProof.Rows L2
section
variable {X : Cx} {G : GT} {W : WX} {a b : Expr} {ma mb : ME} {pos : Pos}
end
end DL

namespace DL
open PySem PySem.Spec PyProof.Rows L2
def partF (gs : MGs) (ρ : DEnv) (x y : Dv) (μ : Store) : Out Fl := match x, y with
  | .d (.str a), .d (.str b) => if (b.length == 0) = false ∧ a.length ≤ sizeLine then (gs [.d (.str (Txt.partition a b).1), .d (.str (Txt.partition a b).2.1), .d (.str (Txt.partition a b).2.2)] ρ μ).gb fun ρ μ => .ok (.nx ρ) μ else .bad
  | _, _ => .bad
def sPart (mo me : ME) (gs : MGs) : MS := fun ρ μ => (mo ρ μ).bind fun x μ => if isStr x μ = true then (me ρ μ).bind fun y μ => partF gs ρ x y μ else .bad
section
variable {X : Cx} {G : GT} {W : WX} {a b c e o tg : Expr} {es tgs : List Expr} {mo me : ME} {mas : MA} {gs : MGs} {S : List Nat} {pos p cpos apos tpos : Pos} {k : Nat}
theorem rvS {G : GT} {w : Wd} (z : Str) : Rv G w (.str z) (.d (.str z)) := Rp.str z
theorem ds_part (hc : X.calm = true) (hK : X.K = G.K) (ho : DE X G W o mo) (he : DE X G W e me) (hg : DGs X G S tgs gs) (hn : (assignEach tgs X.env).length = 3 := by rfl) (hst : (assignEach tgs X.env).findIdx? (·.1) = none := by rfl)
    (hbase : attributeBase o "partition" X.env (eval o X.env) = eval o X.env := by rfl)
    (hfew : ((backTo cpos (starEach [e] X.env)).all (fun x => !x.1) && (backToKw cpos (keywordEach [] X.env)).all (fun x => x.1.isSome)
      && decide (([e] : List Expr).length + ([] : List Keyword).length + (if ([] : List Keyword).isEmpty then 0 else 1) < 30)) = true := by rfl)
    (hline : (apos.endLine == cpos.line) = true := by rfl) (hs0 : starEach [e] X.env = (false, eval e X.env) :: starEach [] X.env := by rfl) (hplain : (backTo cpos (starEach [] X.env)).any (·.1) = false := by rfl)
    (hs : swapsWithSole [.Tuple tgs k tpos] (.Call (.Attribute o "partition" apos) [e] [] cpos) pos.line X.env = pure false := by rfl) (hw : swappedStores [.Tuple tgs k tpos] (.Call (.Attribute o "partition" apos) [e] [] cpos) X.env = pure none := by rfl)
    (h1 : (assignEach [.Tuple tgs k tpos] X.env).map (·.2) = [assign (.Tuple tgs k tpos) X.env] := by rfl) : DS X G W (.Assign [.Tuple tgs k tpos] (.Call (.Attribute o "partition" apos) [e] [] cpos) pos) (sPart mo me gs) := by
  refine PS.imp (ps_asg (pe_bm PySem.F.plainAttrs_str PySem.F.slot_str_partition PySem.F.type_str_partition mt_partition ho (pa_cons he pa_nil hs0) hbase hfew hline hs0 hplain) (pg_tup hc hg hn hst) hs hw h1) ?_
  rintro D σ H ⟨w, μ, ρ, hl, hen, p⟩
  refine tD.seqS (k := fun ρ x μ => if isStr x μ = true then (me ρ μ).bind fun y μ => partF gs ρ x y μ else .bad) hl hen p fun w1 μ1 H1 v b l1 lay1 en1 r1 p1 => ?_
  split at p1
  · rename_i hS
    refine ⟨by rw [hK]; exact ty_str w1 μ1 H1 v b lay1 r1 hS, ?_⟩
    refine tD.seqS (k := fun ρ y μ => partF gs ρ b y μ) lay1 en1 p1 fun w2 μ2 H2 u c l2 lay2 en2 r2 p2 => ?_
    have r1' := r1.mono l2
    clear r1
    unfold partF at p2
    split at p2
    · rename_i x y
      split at p2
      · rename_i hz
        refine ⟨_, _, rv_str r1', by rw [rv_str r2], hz.1, hz.2, fun q nq => ?_⟩
        obtain ⟨n1, n2, n3⟩ := lay2.na nq
        have lay3 := lay2.other n1 n2 n3 (.tup [.str (Txt.partition x y).1, .str (Txt.partition x y).2.1, .str (Txt.partition x y).2.2])
        refine ⟨q, _, rfl, SqT.of upd_same, rfl, w2, μ2, ρ, _, lay3, en2, .cons (rvS _) (.cons (rvS _) (.cons (rvS _) .nil)), ?_⟩
        cases q5 : gs [.d (.str (Txt.partition x y).1), .d (.str (Txt.partition x y).2.1), .d (.str (Txt.partition x y).2.2)] ρ μ2 with
        | bad => rw [q5] at p2; exact p2.elim
        | ex _ _ => rw [q5] at p2; exact p2.elim
        | ok ρ2 μ3 =>
          rw [q5] at p2
          exact fun w2 σ2 H2 l2 lay2 en2 _ => p2 w2 σ2 H2 l2 lay2 en2
      · exact p2.elim
    · exact p2.elim
  · exact p1.elim
def par3F (i j l : Nat) (ρ : DEnv) : List Dv → Store → Out Fl
  | [b, c, d], μ => .ok (.nx (((ρ.set i (some b)).set j (some c)).set l (some d))) μ
  | _, _ => .bad
def sPar3 (i j l : Nat) (m : MA) : MS := fun ρ μ => (m ρ μ).bind (par3F i j l ρ)
theorem ds_par3 {i j l : Nat} {x y z : Str} {px py pz pt : Pos} {kt k2 pt2} (hc : X.calm = true) (hN : X.N.Nodup) (ha : DA X G W [a, b, c] mas) (hi : X.N[i]? = some x := by rfl) (hj : X.N[j]? = some y := by rfl) (hl : X.N[l]? = some z := by rfl) (hij : i ≠ j := by decide) (hil : i ≠ l := by decide) (hjl : j ≠ l := by decide)
    (hx : X.env.scope.names.lookup x = some .local := by rfl) (hy : X.env.scope.names.lookup y = some .local := by rfl) (hz : X.env.scope.names.lookup z = some .local := by rfl)
    (hw : swappedStores [.Tuple [.Name x px, .Name y py, .Name z pz] kt pt] (.Tuple [a, b, c] k2 pt2) X.env = pure (some [x, y, z]) := by rfl)
    (hs : swapsWithSole [.Tuple [.Name x px, .Name y py, .Name z pz] kt pt] (.Tuple [a, b, c] k2 pt2) pos.line X.env = pure false := by rfl) :
    DS X G W (.Assign [.Tuple [.Name x px, .Name y py, .Name z pz] kt pt] (.Tuple [a, b, c] k2 pt2) pos) (sPar3 i j l mas) := by
  refine PS.imp (ps_par3 hc hN hi hj hl hij hil hjl hx hy hz ha hw hs) ?_
  rintro D σ H ⟨w, μ, ρ, hl, he, p⟩
  refine tD.seqS (k := par3F i j l) hl he p fun w1 μ1 H1 vs bs l1 lay1 en1 r1 p1 => ?_
  match bs, r1, p1 with
  | [b, c, d], .cons r (.cons r' (.cons r'' .nil)), p1 => exact ⟨_, _, _, rfl, p1 w1 _ H1 w1.le_refl lay1 (((en1.set i r).set j r').set l r'')⟩
end
def forG (g : MGs) (mb : MS) (n : Nat) : Nat → Nat → DEnv → Store → Out Fl
  | 0, _, _, _ => .bad
  | k + 1, i, ρ, μ => match μ[n]? with
    | some (.lst xs) => match xs[i]? with
      | none => .ok (.nx ρ) μ
      | some x => (g [.d (.int i), x] ρ μ).gb fun ρ μ => (mb ρ μ).bind fun f μ => match f with
        | .nx ρ => forG g mb n k (i + 1) ρ μ
        | .ct ρ => forG g mb n k (i + 1) ρ μ
        | .bk ρ => .ok (.nx ρ) μ
        | .rt v => .ok (.rt v) μ
    | _ => .bad
/-- of a list that is data -/
def forGD (g : MGs) (mb : MS) : List D → Nat → DEnv → Store → Out Fl
  | [], _, ρ, μ => .ok (.nx ρ) μ
  | x :: xs, i, ρ, μ => (g [.d (.int i), .d x] ρ μ).gb fun ρ μ => (mb ρ μ).bind fun f μ => match f with
    | .nx ρ => forGD g mb xs (i + 1) ρ μ
    | .ct ρ => forGD g mb xs (i + 1) ρ μ
    | .bk ρ => .ok (.nx ρ) μ
    | .rt v => .ok (.rt v) μ
def forGb (g : MGs) (mb : MS) (k : Nat) (b : Dv) (ρ : DEnv) (μ : Store) : Out Fl := match b with
  | .c n => forG g mb n k 0 ρ μ
  | .d (.list xs) => forGD g mb xs 0 ρ μ
  | _ => .bad
def sForG (mo : ME) (g : MGs) (mb : MS) (k : Nat) : MS := fun ρ μ => (mo ρ μ).bind fun b μ => forGb g mb k b ρ μ
section
variable {X : Cx} {G : GT} {W : WX} {e : Expr} {body : List Stmt} {mo : ME} {g : MGs} {mb : MS} {S : List Nat} {pos : Pos}
end
end DL

namespace DL
open PySem PySem.Spec PyProof.Rows L2
section
variable {β : Type} {ρ : DEnv} {μ : Store} {i j l n m k : Nat} {a c o : ME} {t u mb : MS} {g : MG} {gs : MGs} {ma mk : MA} {P : Fl → Store → Prop} {Q : Dv → Store → Prop} {A : List Dv → Store → Prop} {E : DEnv → Store → Prop} {F : OpN}
def kSD3 (v x : Dv) (ρ : DEnv) (P : Fl → Store → Prop) : Dv → Store → Prop := fun b μ => Wp (optN (dSetD x b v μ) ρ) P
@[simp ↓] theorem kSD3_r {b : Dv} {v x : Dv} : kSD3 v x ρ P b μ = Wp (optN (dSetD x b v μ) ρ) P := id rfl
def kSD2 (v : Dv) (c : ME) (ρ : DEnv) (P : Fl → Store → Prop) : Dv → Store → Prop := fun b μ => Wp (c ρ μ) (kSD3 v b ρ P)
@[simp ↓] theorem kSD2_r {b : Dv} {v : Dv} : kSD2 v c ρ P b μ = Wp (c ρ μ) (kSD3 v b ρ P) := id rfl
def kSD1 (o c : ME) (ρ : DEnv) (P : Fl → Store → Prop) : Dv → Store → Prop := fun b μ => Wp (o ρ μ) (kSD2 b c ρ P)
@[simp ↓] theorem kSD1_r {b : Dv}  : kSD1 o c ρ P b μ = Wp (o ρ μ) (kSD2 b c ρ P) := id rfl
@[simp ↓] theorem Wp_sSetD : Wp (sSetD a o c ρ μ) P = Wp (a ρ μ) (kSD1 o c ρ P) := by
  unfold sSetD
  simp only [Wp_bind]
  rfl
def kSF2 (n : Nat) (f : Str) (v : Dv) (ρ : DEnv) (P : Fl → Store → Prop) : Dv → Store → Prop := fun b μ => Wp (optN (dSetF n f b v μ) ρ) P
@[simp ↓] theorem kSF2_r {b : Dv} {f : Str} {v : Dv} : kSF2 n f v ρ P b μ = Wp (optN (dSetF n f b v μ) ρ) P := id rfl
def kSF1 (n : Nat) (f : Str) (o : ME) (ρ : DEnv) (P : Fl → Store → Prop) : Dv → Store → Prop := fun b μ => Wp (o ρ μ) (kSF2 n f b ρ P)
@[simp ↓] theorem kSF1_r {b : Dv} {f : Str} : kSF1 n f o ρ P b μ = Wp (o ρ μ) (kSF2 n f b ρ P) := id rfl
@[simp ↓] theorem Wp_sSetF {f : Str} : Wp (sSetF n f a o ρ μ) P = Wp (a ρ μ) (kSF1 n f o ρ P) := by
  unfold sSetF
  simp only [Wp_bind]
  rfl
def kPt2 (gs : MGs) (x : Dv) (ρ : DEnv) (P : Fl → Store → Prop) : Dv → Store → Prop := fun b μ => Wp (partF gs ρ x b μ) P
@[simp ↓] theorem kPt2_r {b x : Dv} : kPt2 gs x ρ P b μ = Wp (partF gs ρ x b μ) P := id rfl
def kPt (c : ME) (gs : MGs) (ρ : DEnv) (P : Fl → Store → Prop) : Dv → Store → Prop := fun b μ => isStr b μ = true ∧ Wp (c ρ μ) (kPt2 gs b ρ P)
@[simp ↓] theorem kPt_r {b : Dv} (h : isStr b μ = true) : kPt c gs ρ P b μ = Wp (c ρ μ) (kPt2 gs b ρ P) := by
  unfold kPt
  simp [h]
@[simp ↓] theorem kPt_s {x : Str} : kPt c gs ρ P (.d (.str x)) μ = Wp (c ρ μ) (kPt2 gs (.d (.str x)) ρ P) := kPt_r rfl
@[simp ↓] theorem Wp_sPart : Wp (sPart a c gs ρ μ) P = Wp (a ρ μ) (kPt c gs ρ P) := by
  unfold sPart
  rw [Wp_bind]
  congr 1
  funext b μ
  unfold kPt
  split
  · rename_i h
    rw [Wp_bind]
    simp only [h, true_and]
    rfl
  · rename_i h
    simp only [h, false_and]
    simp [Wp_bad]
theorem partF_one {l : List Nat} {s : Nat} (h : l.length ≤ 16000000) : partF gs ρ (.d (.str (T l))) (.d (.str (T [s]))) μ = (gs [.d (.str (T (l.takeWhile (· != s)))), .d (.str (T (if s ∈ l then [s] else []))), .d (.str (T ((l.dropWhile (· != s)).drop 1)))] ρ μ).gb fun ρ μ => .ok (.nx ρ) μ := by
  show (if ((T [s]).length == 0) = false ∧ (T l).length ≤ sizeLine then (gs [.d (.str (Txt.partition (T l) (T [s])).1), .d (.str (Txt.partition (T l) (T [s])).2.1), .d (.str (Txt.partition (T l) (T [s])).2.2)] ρ μ).gb fun ρ μ => Out.ok (Fl.nx ρ) μ else Out.bad) = _
  have hb := line_big
  rw [if_pos ⟨rfl, by rw [T_len]; omega⟩, part_T, par_one]
  by_cases q : s ∈ l
  · rw [if_pos q, if_pos q]
    rfl
  · rw [if_neg q, if_neg q]
    have e1 := tw_self q
    have e2 := dw_nil q
    rw [e1, e2]
    rfl
theorem Wp_partF {l : List Nat} {s : Nat} (h : l.length ≤ 16000000) : Wp (partF gs ρ (.d (.str (T l))) (.d (.str (T [s]))) μ) P = Wp (gs [.d (.str (T (l.takeWhile (· != s)))), .d (.str (T (if s ∈ l then [s] else []))), .d (.str (T ((l.dropWhile (· != s)).drop 1)))] ρ μ) (kNx P) := by
  rw [partF_one h, Wp_gb]
  congr 1
  funext ρ μ
  exact Wp_ok
def kPar3 (i j l : Nat) (ρ : DEnv) (P : Fl → Store → Prop) : List Dv → Store → Prop := fun b μ => Wp (par3F i j l ρ b μ) P
@[simp ↓] theorem kPar3_r {x y z : Dv} : kPar3 i j l ρ P [x, y, z] μ = P (.nx (((ρ.set i (some x)).set j (some y)).set l (some z))) μ := Wp_ok
@[simp ↓] theorem Wp_sPar3 : Wp (sPar3 i j l ma ρ μ) P = Wp (ma ρ μ) (kPar3 i j l ρ P) := by
  unfold sPar3
  rw [Wp_bind]
  rfl
def kForG (gs : MGs) (mb : MS) (n : Nat) (ρ : DEnv) (P : Fl → Store → Prop) : Dv → Store → Prop := fun b μ => Wp (forGb gs mb n b ρ μ) P
@[simp ↓] theorem kForG_r {b : Dv}  : kForG gs mb n ρ P b μ = Wp (forGb gs mb n b ρ μ) P := id rfl
@[simp ↓] theorem Wp_sForG : Wp (sForG a gs mb n ρ μ) P = Wp (a ρ μ) (kForG gs mb n ρ P) := by
  unfold sForG
  simp only [Wp_bind]
  rfl
def kG2 (x y : Dv) (Q : Dv → Store → Prop) : Dv → Store → Prop := fun b μ => Wp (dGet2F x y b μ) Q
@[simp ↓] theorem kG2_r {x y b : Dv} : kG2 x y Q b μ = Wp (dGet2F x y b μ) Q := id rfl
def kG1 (x : Dv) (c : ME) (ρ : DEnv) (Q : Dv → Store → Prop) : Dv → Store → Prop := fun b μ => Wp (c ρ μ) (kG2 x b Q)
@[simp ↓] theorem kG1_r {x b : Dv} : kG1 x c ρ Q b μ = Wp (c ρ μ) (kG2 x b Q) := id rfl
def kG0 (a c : ME) (ρ : DEnv) (Q : Dv → Store → Prop) : Dv → Store → Prop := fun b μ => isDp b μ = true ∧ Wp (a ρ μ) (kG1 b c ρ Q)
@[simp ↓] theorem kG0_r {b : Dv} (h : isDp b μ = true) : kG0 a c ρ Q b μ = Wp (a ρ μ) (kG1 b c ρ Q) := by
  unfold kG0
  simp [h]
@[simp ↓] theorem Wp_eGet2 : Wp (eGet2 o a c ρ μ) Q = Wp (o ρ μ) (kG0 a c ρ Q) := by
  unfold eGet2
  rw [Wp_bind]
  congr 1
  funext b μ
  unfold kG0
  split
  · rename_i h
    simp only [Wp_bind]
    simp only [h, true_and]
    rfl
  · rename_i h
    simp only [h, false_and]
    simp [Wp_bad]
def kMk (n k : Nat) (F : OpN) (Q : Dv → Store → Prop) : List Dv → Store → Prop := fun bs μ => bs.length + 1 = k ∧ Wp (F (.c μ.length :: bs) (μ ++ [.obj n []])) fun r μ' => r = .d .none ∧ Q (.c μ.length) μ'
def kMt (n k : Nat) (s : Str) (F : OpN) (ma : MA) (ρ : DEnv) (Q : Dv → Store → Prop) : Dv → Store → Prop := fun x μ => ∃ i fs, x = .c i ∧ μ[i]? = some (.obj n fs) ∧ fs.lookup s = none ∧ Wp (ma ρ μ) fun bs μ => Wp (fCall k F (.c i :: bs) μ) Q
theorem Wp_callV {Fs : Nat → Option OpN} (h : ρ[i]? = some (some (.f n))) (h2 : Fs n = some F) : Wp (eCallV i m Fs ma ρ μ) Q = Wp (ma ρ μ) (kN (fCall m F) Q) := by
  unfold eCallV
  simp only [h, h2]
  rw [Wp_bind]
  rfl
end
end DL

namespace DL
open PySem PySem.Spec PyProof.Rows L2
def lcM2 (g : MG) (tt : MT) (mi1 : MI) (g1 : MG) (tt1 : MT) (te : ME) (vs1 : List Nat) (ρ : DEnv) : List Dv → Store → Out (List Dv)
  | [], μ => .ok [] μ
  | b :: bs, μ => (g b ρ μ).gb fun ρ' μ => (tt ρ' μ).gb fun k μ => if k = true then (mi1 ρ' μ).gb fun bs1 μ =>
      if bs1.length ≤ 1000 then (lcM g1 tt1 te (wipeD ρ' vs1) bs1 μ).gb fun ys μ => (lcM2 g tt mi1 g1 tt1 te vs1 ρ bs μ).gb fun zs μ => .ok (ys ++ zs) μ else .bad
    else lcM2 g tt mi1 g1 tt1 te vs1 ρ bs μ
def eLc2 (fin : OpN) (mi : MI) (g : MG) (tt : MT) (mi1 : MI) (g1 : MG) (tt1 : MT) (te : ME) (vs vs1 : List Nat) : ME := fun ρ μ => (mi ρ μ).bind fun bs μ => if bs.length ≤ 1000 then (lcM2 g tt mi1 g1 tt1 te vs1 (wipeD ρ vs) bs μ).gb fin else .bad
abbrev Wd.noF (w : Wd) : Wd := ⟨w.I, w.α, fun _ => none⟩
/-- an iterable whose walk hangs on nothing private -/
def tIs (G : GT) (W : WX) (mi : MI) : TI := tD G W (fun w (J : It) bs => ItR G w.noF J bs) mi
abbrev DIs (X : Cx) (G : GT) (W : WX) (tg iter : Expr) (mi : MI) : Prop := PI X tg iter (tIs G W mi)
section
variable {X : Cx} {G : GT} {W : WX} {mi mi1 : MI} {g g1 : MG} {tt tt1 : MT} {te : ME} {S S1 vs vs1 : List Nat} {fin : OpN}
end
end DL

namespace PySem
namespace AutoSeq1
end AutoSeq1
end PySem
namespace DL
open PySem PySem.Spec PyProof.Rows L2
section
variable {G : GT}
def dPopAt : Dv → OpN := fun x bs μ => match x, bs with
  | .c n, [.d (.int i)] => match μ[n]? with
    | some (.lst xs) => if 0 ≤ i ∧ i < 16000000 then match xs[i.toNat]? with
      | some b => .ok b (μ.set n (.lst (xs.eraseIdx i.toNat)))
      | none => .bad else .bad
    | _ => .bad
  | _, _ => .bad
/-- extend by any list -/
def rExtendA (K : PySem.W.Frag) : V → List V → Hp → VK → Prop := fun x vs H Q => ∃ l b xs zs, x = .ref l ∧ vs = [.ref b] ∧ H l = some (.lst xs) ∧ SqL K H b zs ∧ xs.length + zs.length ≤ sizeLine ∧ Q .non (upd H l (.lst (xs ++ zs)))
def dExtendA : Dv → OpN := fun x bs μ => match x, bs with
  | .c n, [b] => match μ[n]?, items b μ with
    | some (.lst xs), some ys => if xs.length + ys.length ≤ sizeLine then .ok (.d .none) (μ.set n (.lst (xs ++ ys))) else .bad
    | _, _ => .bad
  | _, _ => .bad
/-- the truth of a flat thing -/
def truF : Dv → Option Bool
  | .d .none => some false
  | .d (.bool b) => some b
  | .d (.int i) => some (i != 0)
  | .d (.str z) => if z.length ≤ sizeLine then some ((z.length : Int) != 0) else none
  | _ => none
def orF (mb : ME) (ρ : DEnv) (x : Dv) (μ : Store) : Out Dv := match truF x with
  | some true => .ok x μ
  | some false => mb ρ μ
  | none => .bad
def eOrF (ma mb : ME) : ME := fun ρ μ => (ma ρ μ).bind fun x μ => orF mb ρ x μ
section
variable {X : Cx} {W : WX} {a b e o : Expr} {rest : List Expr} {ma mb mo : ME} {pos apos cpos c0 c1 c2 : Pos}
/-- "c" + o.replace("y", "z") -/
def dReplC (y z : Str) : Op1 := fun x μ => match x with
  | .d (.str t) => if t.length + (t.length + 1) * z.length ≤ 16000000 then .ok (.d (.str (Txt.replace t y z))) μ else .bad
  | _ => .bad
end
end
end DL

namespace PySem
open Sem (wp)
section
variable {prog : Program} {w : World} {A : Around} {R : Result → Shared → Prop}
/-- a list object -/
def LObj (h : Heap) (a : Addr) (xs : Array Value) : Prop := ∃ (d : Option Addr) (n : Nat) (sl : Array (Option Value)), h.get? a = some { cls := .type "list", dict := d, data := .seq xs n, slots := sl }
end
end PySem

namespace DL
open PySem PySem.Spec PyProof.Rows L2
/-- the lists that stand in a list -/
def listsOf : List D → Option (List (List D))
  | [] => some []
  | .list xs :: r => match listsOf r with
    | some ys => some (xs :: ys)
    | none => none
  | _ :: _ => none
/-- lists at their addresses -/
inductive LsAt (K : PySem.W.Frag) (H : Hp) : List V → List (List V) → Prop
  | nil : LsAt K H [] []
  | cons {a : Addr} {xs : List V} {vs : List V} {yss : List (List V)} : SqL K H a xs → LsAt K H vs yss → LsAt K H (.ref a :: vs) (xs :: yss)
theorem LsAt.get {K : PySem.W.Frag} {H : Hp} : ∀ {vs : List V} {yss : List (List V)} {i : Nat} {v : V}, LsAt K H vs yss → vs[i]? = some v → ∃ a xs, v = .ref a ∧ yss[i]? = some xs ∧ SqL K H a xs
  | _, _, _, _, .nil, h => by simp at h
  | _, _, 0, _, .cons r _, h => by simp at h; exact ⟨_, _, h.symm, rfl, r⟩
  | _, _, i + 1, _, .cons _ t, h => by
    obtain ⟨a, xs, e, q, r⟩ := LsAt.get (i := i) t (by simpa using h)
    exact ⟨a, xs, e, by simpa using q, r⟩
theorem LsAt.length {K : PySem.W.Frag} {H : Hp} : ∀ {vs : List V} {yss : List (List V)}, LsAt K H vs yss → vs.length = yss.length
  | _, _, .nil => rfl
  | _, _, .cons _ t => by rw [List.length_cons, List.length_cons, LsAt.length t]
def rSumL (K : PySem.W.Frag) : List V → Hp → VK → Prop := fun vs H Q => ∃ (l st : Addr) (ps : List V) (yss : List (List V)) (zs : List V), vs = [.ref l, .ref st] ∧ SqL K H l ps ∧ LsAt K H ps yss ∧ SqL K H st zs ∧ zs.length + (yss.map List.length).sum ≤ sizeLine ∧
  (yss = [] → Q (.ref st) H) ∧ ∀ p, H p = none → Q (.ref p) (upd H p (.lst (zs ++ yss.flatten)))
def dSumL : OpN := fun bs μ => match bs with
  | [.d (.list ds), .d (.list zs)] => match listsOf ds with
    | some ls => if zs.length + (ls.map List.length).sum ≤ sizeLine then .ok (.d (.list (zs ++ ls.flatten))) μ else .bad
    | none => .bad
  | _ => .bad
end DL

namespace DL
open PySem PySem.Spec PyProof.Rows L2
def cTup (bs : List Dv) (μ : Store) : Out Dv := if bs.length ≤ sizeLine then .ok (.c μ.length) (μ ++ [.tup bs]) else .bad
section
variable {X : Cx} {G : GT} {W : WX} {es : List Expr} {mas : MA} {pos : Pos} {σ : L2.St} {w : Wd} {μ : Store} {H : Hp} {Q : VK} {S : List Nat} {gs : MGs} {a b : Expr} {ma mb : ME}
def gTc (n : Nat) (g : MGs) : MG := fun b ρ μ => match b with
  | .d (.tuple ds) => if ds.length = n then g (ds.map .d) ρ μ else .bad
  | .c k => match μ[k]? with
    | some (.tup bs) => if bs.length = n then g bs ρ μ else .bad
    | _ => .bad
  | _ => .bad
def dIxC : Op2 := fun x y μ => match x, y with
  | .c k, .d (.int i) => match μ[k]? with
    | some (.tup bs) => match L2.atI bs i with
      | some b => .ok b μ
      | none => .bad
    | _ => dIx x y μ
  | _, _ => dIx x y μ
/-- a + b, a new list that may be changed -/
def cCat : Op2 := fun x y μ => match items x μ, items y μ with
  | some xs, some ys => cList (xs ++ ys) μ
  | _, _ => .bad
end
end DL

namespace DL
open PySem PySem.Spec PyProof.Rows L2
def gL (n : Nat) (g : MGs) : MG := fun b ρ μ => match b with
  | .d (.list ds) => if ds.length = n then g (ds.map .d) ρ μ else .bad
  | _ => .bad
section
variable {X : Cx} {G : GT} {W : WX} {es : List Expr} {S : List Nat} {gs : MGs} {pos : Pos}
theorem dg_lst {k n : Nat} (hc : X.calm = true) (hK : X.K = G.K) (h : DGs X G S es gs) (hn : (assignEach es X.env).length = n := by rfl) (hst : (assignEach es X.env).findIdx? (·.1) = none := by rfl) : DG X G S (.Tuple es k pos) (gL n gs) := by
  refine PG.imp (pg_lst hc h hn hst) ?_
  rintro v σ H Q ⟨w, μ, ρ, b, hl, he, r, p⟩
  unfold gL at p
  split at p
  · rename_i ds
    obtain ⟨a, xs, rfl, hs, ha⟩ := rv_lst r
    by_cases q : ds.length = n
    · rw [if_pos q] at p
      exact ⟨a, xs, rfl, by rw [hK]; exact seqL hl.same hs, by rw [ha.length]; exact q, w, μ, ρ, _, hl, he, Rvs_of_RpA ha, p⟩
    · rw [if_neg q] at p
      exact p.elim
  · exact p.elim
end
def cRepF (bs : List Dv) : Op1 := fun y μ => match y with
  | .d (.int k) => if -(2 ^ 63) ≤ k ∧ k < 2 ^ 63 ∧ bs.length ≤ sizeLine then cList (List.replicate k.toNat bs).flatten μ else .bad
  | _ => .bad
def eRepC (a : MA) (m : ME) : ME := fun ρ μ => (a ρ μ).bind fun bs μ => (m ρ μ).gb fun y μ => cRepF bs y μ
section
variable {X : Cx} {G : GT} {W : WX} {es : List Expr} {e : Expr} {mas : MA} {m : ME} {pos p1 : Pos}
theorem de_repC (ha : DA X G W es mas) (he : DE X G W e m) : DE X G W (.BinOp (.List es p1) .Mult e pos) (eRepC mas m) := by
  refine PE.imp (pe_op op_rep (pe_lst ha) he) ?_
  rintro σ H Q ⟨w, μ, ρ, hl, hen, p⟩
  refine tD.seq (k := fun ρ bs μ => (m ρ μ).gb fun y μ => cRepF bs y μ) hl hen p fun w1 μ1 H1 vs bs l1 lay1 en1 r1 p1 => ?_
  cases q : m ρ μ1 with
  | bad => rw [q] at p1; exact p1.elim
  | ex _ _ => rw [q] at p1; exact p1.elim
  | ok y μ2 =>
    rw [q] at p1
    replace p1 : Pst G W σ (Rv G) w1 (cRepF bs y μ2) Q := p1
    unfold cRepF at p1
    split at p1
    · rename_i k
      split at p1
      · rename_i h
        refine ⟨by rw [Paired.length r1]; exact h.2.2, fun a na => ?_⟩
        obtain ⟨n1, n2, n3⟩ := lay1.na na
        have lay2 := lay1.other n1 n2 n3 (.lst vs)
        obtain ⟨lp, layp⟩ := lay2.priv n1 n2 n3 upd_same
        refine ⟨_, μ1, ρ, layp, en1.mono lp, ?_⟩
        rw [q]
        intro w3 v3 H3 l3 lay3 r3
        obtain ⟨le7, lay7, e7, i7, a7⟩ := lay3.unp l3 n3 (.lst vs)
        have hH : upd H3 a (.lst vs) = H3 := by
          funext b
          by_cases z : b = a
          · subst z; rw [upd_same, e7]
          · rw [upd_ne z]
        rw [hH] at lay7
        obtain ⟨z1, z2⟩ := list_cell lay7 (Rvs_rep (r1.mono le7) k.toNat) (Pst.mono le7 p1)
        rw [rv_int r3]
        refine ⟨a, k, vs, rfl, rfl, e7, h.1, h.2.1, ?_, z2⟩
        rw [PyProof.Rows.lm_len_rep_flat, Nat.mul_comm] at z1
        exact z1
      · exact p1.elim
    · exact p1.elim
end
def lcAb (fin : OpN) (g : MG) (tt : MT) (te : ME) (vs : List Nat) (k : Nat) (ρ : DEnv) (b : Dv) (μ : Store) : Out Dv := match b with
  | .c n => lcCb fin g tt te vs k ρ (.c n) μ
  | b => (walkD b μ).bind fun bs μ => lcF fin g tt te vs ρ bs μ
def eLcA (fin : OpN) (mo : ME) (g : MG) (tt : MT) (te : ME) (vs : List Nat) (k : Nat) : ME := fun ρ μ => (mo ρ μ).bind fun b μ => lcAb fin g tt te vs k ρ b μ
section
variable {X : Cx} {G : GT} {W : WX} {mo : ME} {g : MG} {tt : MT} {te : ME} {S vs : List Nat} {fin : OpN}
end
def lcME (g : MGs) (te : ME) (ρ : DEnv) : List D → Nat → Store → Out (List Dv)
  | [], _, μ => .ok [] μ
  | b :: bs, i, μ => (g [.d (.int i), .d b] ρ μ).gb fun ρ' μ => (te ρ' μ).gb fun y μ => (lcME g te ρ bs (i + 1) μ).gb fun ys μ => .ok (y :: ys) μ
def lcEb (fin : OpN) (g : MGs) (te : ME) (vs : List Nat) (ρ : DEnv) (b : Dv) (μ : Store) : Out Dv := match b with
  | .d (.list bs) => if bs.length ≤ sizeLine then (lcME g te (wipeD ρ vs) bs 0 μ).gb fin else .bad
  | _ => .bad
def eLcE (fin : OpN) (mo : ME) (g : MGs) (te : ME) (vs : List Nat) : ME := fun ρ μ => (mo ρ μ).bind fun b μ => lcEb fin g te vs ρ b μ
section
variable {X : Cx} {G : GT} {W : WX} {mo : ME} {g : MGs} {te : ME} {S vs : List Nat} {fin : OpN}
end
end DL

namespace DL
open PySem PySem.Spec PyProof.Rows L2
section
variable {X : Cx} {G : GT} {W : WX} {mi mi1 : MI} {g g1 : MG} {tt tt1 : MT} {te : ME} {S S1 : List Nat} {fin : OpN}
end
end DL

namespace DL
open PySem PySem.Spec PyProof.Rows L2
section
variable {ρ : DEnv} {μ : Store} {n m k : Nat} {a c o : ME} {g : MG} {gs : MGs} {mi mi1 : MI} {g1 : MG} {tt tt1 : MT} {te : ME} {ma : MA} {fin : OpN} {vs vs1 : List Nat} {Q : Dv → Store → Prop} {E : DEnv → Store → Prop}
def kLcA (fin : OpN) (g : MG) (tt : MT) (te : ME) (vs : List Nat) (k : Nat) (ρ : DEnv) (Q : Dv → Store → Prop) : Dv → Store → Prop := fun b μ => Wp (lcAb fin g tt te vs k ρ b μ) Q
@[simp ↓] theorem kLcA_r {b : Dv} : kLcA fin g tt te vs k ρ Q b μ = Wp (lcAb fin g tt te vs k ρ b μ) Q := id rfl
@[simp ↓] theorem Wp_eLcA : Wp (eLcA fin a g tt te vs k ρ μ) Q = Wp (a ρ μ) (kLcA fin g tt te vs k ρ Q) := by
  unfold eLcA
  simp only [Wp_bind]
  rfl
def kLcE (fin : OpN) (g : MGs) (te : ME) (vs : List Nat) (ρ : DEnv) (Q : Dv → Store → Prop) : Dv → Store → Prop := fun b μ => Wp (lcEb fin g te vs ρ b μ) Q
@[simp ↓] theorem kLcE_r {b : Dv} : kLcE fin gs te vs ρ Q b μ = Wp (lcEb fin gs te vs ρ b μ) Q := id rfl
@[simp ↓] theorem Wp_eLcE : Wp (eLcE fin a gs te vs ρ μ) Q = Wp (a ρ μ) (kLcE fin gs te vs ρ Q) := by
  unfold eLcE
  simp only [Wp_bind]
  rfl
def kOrF (mb : ME) (ρ : DEnv) (Q : Dv → Store → Prop) : Dv → Store → Prop := fun b μ => Wp (orF mb ρ b μ) Q
@[simp ↓] theorem kOrF_r {b : Dv} {mb : ME} : kOrF mb ρ Q b μ = Wp (orF mb ρ b μ) Q := id rfl
@[simp ↓] theorem Wp_eOrF {mb : ME} : Wp (eOrF a mb ρ μ) Q = Wp (a ρ μ) (kOrF mb ρ Q) := by
  unfold eOrF
  simp only [Wp_bind]
  rfl
def kRp2 (bs : List Dv) (Q : Dv → Store → Prop) : Dv → Store → Prop := fun y μ => Wp (cRepF bs y μ) Q
@[simp ↓] theorem kRp2_r {b : Dv} {bs : List Dv} : kRp2 bs Q b μ = Wp (cRepF bs b μ) Q := id rfl
def kRp1 (c : ME) (ρ : DEnv) (Q : Dv → Store → Prop) : List Dv → Store → Prop := fun bs μ => Wp (c ρ μ) (kRp2 bs Q)
@[simp ↓] theorem kRp1_r {bs : List Dv} : kRp1 c ρ Q bs μ = Wp (c ρ μ) (kRp2 bs Q) := id rfl
@[simp ↓] theorem Wp_eRepC : Wp (eRepC ma c ρ μ) Q = Wp (ma ρ μ) (kRp1 c ρ Q) := by
  unfold eRepC
  simp only [Wp_bind, Wp_gb]
  rfl
@[simp ↓] theorem Wp_gL {ds : List D} (h : ds.length = n) : Wp (gL n gs (.d (.list ds)) ρ μ) E = Wp (gs (ds.map .d) ρ μ) E := by
  show Wp (if ds.length = n then _ else _) E = _
  rw [if_pos h]
end
end DL

namespace DL
open PySem PySem.Spec PyProof.Rows L2
open PySem.W (EachIs alike dataLe KeyPure)
/-- the function object of a lambda that closes over nothing -/
def LamO (f c' : Addr) (q : Str) (pr : Arguments) (body : Expr) (sc : Scope) : HO := .ext fun h => ∃ pm ctv, h.get? f = some (PySem.W.kla_obj "<lambda>" q pr body sc [] pm c' ctv)
section
variable {X : Cx} {pins : List (Addr × Obj)} {σ : L2.St} {H : Hp} {s : Shared} {P c : Addr} {q : Str} {pr : Arguments} {body : Expr} {sc : Scope} {lpos : Pos}
theorem lamO_ok {h : Heap} {f c' : Addr} {pm ctv : Value} (e : h.get? f = some (PySem.W.kla_obj "<lambda>" q pr body sc [] pm c' ctv)) : ObjOk X.prog X.w H h f (LamO f c' q pr body sc) :=
  ⟨⟨pm, ctv, e⟩, ⟨_, e⟩, fun h1 h2 ⟨a, b, z⟩ st => ⟨a, b, st _ z⟩⟩
/-- what a lambda's making asks, and what stands behind it -/
def tLamK (P : Addr) (q : Str) (pr : Arguments) (body : Expr) (sc : Scope) : TE := fun _ H Q => ∃ ps : Array Value, H P = some (.tbl ps) ∧ TriplesOk ps.toList ∧
  (∀ (p : Pos) (u : Value), codeAmong p ps.toList = some u → ∃ c0, u = .ref c0 ∧ H c0 = some (LamX.CodeO c0 q)) ∧
  (∀ f c', H c' = some (LamX.CodeO c' q) → H f = none → Q (.ref f) (upd H f (LamO f c' q pr body sc))) ∧
  (∀ (f c' : Addr) (qs : Array Value), H c' = none → upd (upd H P (.tbl qs)) c' (LamX.CodeO c' q) f = none → TriplesOk qs.toList →
    (∀ (p : Pos) (u : Value), codeAmong p qs.toList = some u → codeAmong p ps.toList = some u ∨ u = .ref c') →
    Q (.ref f) (upd (upd (upd H P (.tbl qs)) c' (LamX.CodeO c' q)) f (LamO f c' q pr body sc)))
theorem pe_lamK (TB : LamX.TabB X.base X.mg c P) (hcode : X.env.code = .ref c) (hq : X.env.qual ++ "<lambda>" = q) (hdef : defaultsOf pr X.env = ([], [])) (hcl : closureFor sc X.env = pure []) : PE X (.Lambda pr body sc lpos) (tLamK P q pr body sc) := by
  subst hq
  refine ⟨fun pins s σ H Q I ⟨ps, hP, ht, ha, hit, hnew⟩ => ?_⟩
  have bP : s.heap.BuiltinsAt X.mg P := TB.bm.keeps I.bk
  have oP : s.heap.get? P = some { cls := .none, data := .fields ps } := I.hok P _ hP
  apply PySem.W.kla_eval hdef
  cases hc : codeAmong lpos ps.toList with
  | some u =>
    obtain ⟨c', rfl, hc'⟩ := ha lpos u hc
    apply PySem.W.kla_makeFunctionHit (mg := X.mg) (c := c) (P := P) (ps := ps) hcl I.ok.glob (I.mod.glob.keeps I.bk) hcode (TB.code.keeps I.bk) oP ht hc bP
    intro ctv h' tk up sz
    have I1 := I.laid (o := LamO h'.objs.size c' (X.env.qual ++ "<lambda>") pr body sc) (t' := tk) (fun b o e => Heap.get?_push_of_some _ (up b o e)) sz (lamO_ok (Heap.get?_push_size h' (o := PySem.W.kla_obj "<lambda>" (X.env.qual ++ "<lambda>") pr body sc [] ((X.mg "__name__").getD .none) c' ctv) rfl))
    exact ⟨.ref h'.objs.size, _, I1, rfl, hit _ c' hc' (I.hok.fresh sz)⟩
  | none =>
    apply PySem.W.kla_makeFunction (mg := X.mg) (c := c) (P := P) (ps := ps) hcl I.ok.glob (I.mod.glob.keeps I.bk) hcode (TB.code.keeps I.bk) oP ht hc TB.gP bP
    intro c' ctv h' tk ex le lt rec tb
    obtain ⟨c2, oc, vs, t, e2, o2, d2, v2⟩ := rec
    cases e2
    have nC : H c' = none := I.hok.fresh le
    have I1 := LamX.inv_table (t' := tk) (more := #[rawInt lpos.line, rawInt lpos.col, .ref c']) (h' := h') I hP (fun b o hb e => ex b o hb e) tb le ⟨oc, vs, t, o2, d2, v2⟩
    have I2 := I1.laid (o := LamO h'.objs.size c' (X.env.qual ++ "<lambda>") pr body sc) (t' := tk) (fun b o e => Heap.get?_push_of_some _ e) (Nat.le_refl _) (lamO_ok (Heap.get?_push_size h' (o := PySem.W.kla_obj "<lambda>" (X.env.qual ++ "<lambda>") pr body sc [] ((X.mg "__name__").getD .none) c' ctv) rfl))
    have eL : (ps ++ #[rawInt lpos.line, rawInt lpos.col, .ref c']).toList = ps.toList ++ [rawInt lpos.line, rawInt lpos.col, .ref c'] := by simp
    refine ⟨.ref h'.objs.size, _, I2, rfl, hnew _ c' _ nC (I1.hok.fresh (Nat.le_refl _)) ?_ fun p u hu => ?_⟩
    · rw [eL]; exact PySem.TriplesOk_snoc _ _ _ _ ht
    · rw [eL] at hu
      exact LamX.among_app _ ht hu
/-- a lambda of one name that gives the item 0 -/
structure Lam0 (x : Str) (pr : Arguments) (body : Expr) (sc : Scope) : Prop where
  kind : sc.kind = .function
  co : sc.isCoroutine = false
  gen : sc.isGenerator = false
  loc : sc.names.lookup x = some .local
  nd : (x == ("__debug__" : Str)) = false
  bind : ∀ (q : Str) (pm cv ctv : Value) (u : Value), bindArgs (PySem.W.kla_fn "<lambda>" q pr body sc [] pm cv ctv) ⟨[u], []⟩ = pure [(x, u)]
  body : ∃ p1 p2 p3 j, body = .Subscript (.Name x p1) (.Constant (.int 0) j p2) p3
theorem lam0_pure {prog : Program} {w : World} {A : Around} {s : Shared} {E : Value → Shared → Prop} {x : Str} {f c' b : Addr} {pm ctv : Value} {its : Array Value} {y : Str} {t : Tok} (L : Lam0 x pr body sc) (room : A.depth < recursionLimit) (nolim : s.heap.NoLimit)
    (hf : s.heap.get? f = some (PySem.W.kla_obj "<lambda>" q pr body sc [] pm c' ctv)) (hc : s.heap.CodeRec (.ref c') q) (hb : IsTup s.heap b its) (hx : its[0]? = some (.str y t)) :
    wpAny (model prog w) A (call (.ref f) [.ref b]) (KeyPure (.str y) s) E s := by
  obtain ⟨p1, p2, p3, j, rfl⟩ := L.body
  apply wpAny_call
  apply PySem.W.kla_callFunE room hf rfl L.co L.gen rfl hc
  have bt : BindsTo s (PySem.W.kla_fn "<lambda>" q pr (.Subscript (.Name x p1) (.Constant (.int 0) j p2) p3) sc [] pm (.ref c') ctv) ⟨[.ref b], []⟩ [(x, .ref b)] := .of_eq (L.bind _ _ _ _ _)
  refine bt _ _ _ _ ?_
  apply wpAny_newFunctionEnv_cells L.kind (fun z hz => by rw [List.mem_singleton] at hz; subst hz; exact .inl L.loc)
  rintro env rfl s1 xx
  refine ⟨nolim.keeps xx.toInCall.keep, ?_⟩
  apply PySem.W.kla_codeExpr
  have keep := xx.toInCall.keep
  have hns := xx.toInCall.ns
  obtain ⟨g, tk, rfl⟩ := xx.toInCall.same
  have hk : (newEnv sc s.heap.objs.size mainGlobals (cellsFrom (s.heap.objs.size + 1) sc.names []) (q ++ ".<locals>.") (some f) (.ref c') none builtinsNs).kindOf x = some .local := L.loc
  have hval : ∀ kO : Str → Option NameKind, kO x = some .local → bindL kO [(x, .ref b)] (fun _ => none) x = some (.ref b) := fun kO hk => by simp [bindL, hk]
  have hb2 : IsTup g b its := hb.keeps keep
  refine wpAny_Subscript_Constant_late ?_
  refine wpAny_Name (wpAny_loadName_local L.kind hk hns (hval _ hk) ?_) L.nd
  refine wpAny_Constant_int ⟨"tuple", _, slot_tuple_getitem.lookup, hb2.typeIs, ?_⟩
  refine getItem_tuple hb2 (by decide) (by decide) (j := 0) ?_ hx ?_
  · unfold seqIndex?
    have h0 : 0 < its.size := (Array.getElem?_eq_some_iff.mp hx).1
    simp [h0]
  · exact ⟨g, _, rfl, keep, .str y t⟩
end
def fstD : D → D
  | .tuple (x :: _) => x
  | d => d
def isFst : D → Bool
  | .tuple (.str _ :: _) => true
  | _ => false
theorem isFst_of {d : D} (h : isFst d = true) : ∃ y ds, d = .tuple (.str y :: ds) := by
  unfold isFst at h
  split at h
  · exact ⟨_, _, rfl⟩
  · cases h
abbrev srtL (ds : List D) : List D := ds.mergeSort (dataLe false fstD)
abbrev srtLZ (zs : List (V × D)) : List (V × D) := zs.mergeSort (dataLe false fun z => fstD z.2)
theorem srtLZ_snd (zs : List (V × D)) : (srtLZ zs).map Prod.snd = srtL (zs.map Prod.snd) := PySem.W.sort_maps Prod.snd fun _ _ _ _ => rfl
def FirstR (K : PySem.W.Frag) (H : Hp) (z : V × D) : Prop := ∃ b y xs ds, z.1 = V.ref b ∧ SqT K H b (.str y :: xs) ∧ z.2 = .tuple (.str y :: ds)
def rSortL (K : PySem.W.Frag) (q : Str) (pr : Arguments) (body : Expr) (sc : Scope) : List V → List V → Hp → VK → Prop := fun vs ks H Q => ∃ (a f c' : Addr) (zs : List (V × D)), vs = [V.ref a] ∧ ks = [V.ref f] ∧ H f = some (LamO f c' q pr body sc) ∧ H c' = some (LamX.CodeO c' q) ∧
  SqL K H a (zs.map Prod.fst) ∧ (∀ z ∈ zs, FirstR K H z) ∧ ∀ p : Addr, H p = none → Q (.ref p) (upd H p (.lst ((srtLZ zs).map Prod.fst)))
section
variable {X : Cx} {x q : Str} {pr : Arguments} {body : Expr} {sc : Scope}
theorem cr_sortL (L : Lam0 x pr body sc) (hd : X.A.depth < recursionLimit) (hu : X.A.units + 64 < cLine) : CallRK X (.builtin "sorted") [Str.ofString "key"] (rSortL X.K q pr body sc) := by
  intro pins s σ H vs ks us ws Q I r rz h
  obtain ⟨a, f, c', zs, rfl, rfl, hf, hc, hs, hat, q⟩ := h
  obtain ⟨w1, rfl, e1⟩ := vals1 rz
  obtain rfl : w1 = Value.ref f := e1
  obtain ⟨its, rv, hl, hz⟩ := I.list hs
  rw [Vals.ref1 r]
  have hn : zs.length ≤ sizeLine := by
    rw [List.length_map] at hz
    exact hz
  obtain ⟨⟨pm, ctv, ef⟩, _⟩ := I.hok f _ hf
  obtain ⟨⟨oc, cs, t, o2, d2, v2⟩, _⟩ := I.hok c' _ hc
  have keys : ∀ d ∈ zs.map (fun z => fstD z.2), ∃ y, d = .str y := fun d hd => by
    obtain ⟨z, hz, rfl⟩ := List.mem_map.mp hd
    obtain ⟨b, y, xs, ds, _, _, e⟩ := hat z hz
    exact ⟨y, by rw [e]; rfl⟩
  refine PySem.W.sorted_key_data (fun z : V × D => fstD z.2) hl.isList (each_rel rv) (fun d h1 d' h2 => ?_) (Or.inr (fun d h1 => (show d ≠ PyData.none ∧ ∀ xs, d ≠ .tuple xs from ?_))) hn (fun z hz => ?_) (ksk_s1 _ _) (fun _ => ksk_l1 _ _) (fun _ => ksk_t1 _ _) (fun v z hv hz h' tk kp => ?_) fun out c h' tk kp _ hD hlo eo => ?_
  · obtain ⟨y, rfl⟩ := keys d h1
    obtain ⟨y', rfl⟩ := keys d' h2
    rfl
  · obtain ⟨y, rfl⟩ := keys d h1
    exact ⟨nofun, fun xs => nofun⟩
  · obtain ⟨y, e⟩ := keys (fstD z.2) (List.mem_map_of_mem (f := fun z : V × D => fstD z.2) hz)
    rw [e]
    have : (PyData.str y).depth ≤ 1 := by simp [PyData.depth]
    omega
  · obtain ⟨b, y, xs, ds, e1, sq, e2⟩ := hat z hz
    rw [e1] at hv
    obtain rfl : v = Value.ref b := hv
    rw [e2]
    obtain ⟨its2, r2, tp, _⟩ := I.tuple sq
    cases r2 with
    | cons ry _ =>
      obtain ⟨ty, rfl⟩ := ry
      exact lam0_pure (s := { s with heap := h', toks := tk }) L hd (I.nolimit.keeps kp) (kp _ _ ef) ⟨c', oc, cs, t, rfl, kp _ _ o2, d2, v2⟩ (tp.keeps kp) (t := ty) rfl
  · have sz : ((srtLZ zs).map Prod.fst).length ≤ sizeLine := by
      rw [List.length_map, (List.mergeSort_perm zs _).length_eq]
      exact hn
    refine ⟨.ref (s.heap.objs.size + 1), upd H (s.heap.objs.size + 1) (.lst ((srtLZ zs).map Prod.fst)), ?_, rfl, q _ (I.hok.fresh (Nat.le_succ _))⟩
    exact I.laid (t' := tk) kp (Nat.le_succ _) ⟨sz, out, c, rel_each eo, hD⟩
end
/-- sorted(xs, key=lambda p: p[0]); i: the number of the def's code table -/
def dSortL (i : Nat) (q : Str) : Op1 := fun x μ => match μ[0]? with
  | some (Cell.tab j r) => if j = i ∧ r = q then (match items x μ with
    | some bs => match allD bs with
      | some ds => if ds.all isFst = true then dList ((srtL ds).map .d) μ else .bad
      | none => .bad
    | none => .bad) else .bad
  | _ => .bad
section
variable {X : Cx} {G : GT} {W : WX} {e : Expr} {m : ME} {p pos lpos : Pos} {x q : Str} {kp : Pos} {c P : Addr} {i : Nat} {pr : Arguments} {body : Expr} {sc : Scope}
theorem de_sortL (hK : X.K = G.K) (L : Lam0 x pr body sc) (TB : LamX.TabB X.base X.mg c P) (hcode : X.env.code = .ref c) (hq : X.env.qual ++ "<lambda>" = q) (hFA : G.FA i = some P) (hd : X.A.depth < recursionLimit) (hu : X.A.units + 64 < cLine) (hg : Gl X "sorted") (hm : X.mg "sorted" = none) (ha : DE X G W e m)
    (hdef : defaultsOf pr X.env = ([], []) := by rfl) (hcl : closureFor sc X.env = pure [] := by rfl)
    (hna : starEach [e] X.env = (false, eval e X.env) :: starEach [] X.env := by rfl)
    (he : backTo pos (starEach [e] X.env) = (false, eval e X.env) :: backTo pos (starEach [] X.env) := by rfl) (hpl : (backTo pos (starEach [e] X.env)).any (·.1) = false := by rfl)
    (hall : (backToKw pos (keywordEach [⟨some (Str.ofString "key"), .Lambda pr body sc lpos, kp⟩] X.env)).all (·.1.isSome) = true := by rfl) (hnone : (backToKw pos (keywordEach [⟨some (Str.ofString "key"), .Lambda pr body sc lpos, kp⟩] X.env)).any (·.1.isNone) = false := by rfl) (hks : (backToKw pos (keywordEach [⟨some (Str.ofString "key"), .Lambda pr body sc lpos, kp⟩] X.env)).filterMap (·.1) = [Str.ofString "key"] := by rfl) :
    DE X G W (.Call (.Name "sorted" p) [e] [⟨some (Str.ofString "key"), .Lambda pr body sc lpos, kp⟩] pos) (e1 (dSortL i q) m) := by
  refine PE.imp (pe_callBK (cr_sortL (q := q) L hd hu) hg hm (by decide +kernel) (pa_cons ha pa_nil hna) (pk_cons (pe_lamK TB hcode hq hdef hcl) pk_nil) (by decide) (by decide) he hpl hall hnone hks) ?_
  rintro σ H Q ⟨w, μ, ρ, hl, hen, pp⟩
  refine tD.seq (k := fun ρ x μ => dSortL i q x μ) hl hen pp fun w1 μ1 H1 v b l1 lay1 en1 r1 p1 => ?_
  unfold dSortL at p1
  split at p1
  · rename_i j r e0
    by_cases hjr : j = i ∧ r = q
    · rw [if_pos hjr] at p1
      obtain ⟨rfl, rfl⟩ := hjr
      split at p1
      · rename_i bs ei
        split at p1
        · rename_i ds ed
          by_cases cn : ds.all isFst = true
          · rw [if_pos cn] at p1
            have h0 : 0 < w1.α.length := by rw [lay1.len]; exact (List.getElem?_eq_some_iff.mp e0).1
            have ea : w1.α[0]? = some w1.α[0] := by simp [h0]
            obtain ⟨nI, hF2, ps, hps, ht, hcd⟩ := lay1.at_ 0 _ _ e0 ea
            rw [hFA] at hF2
            generalize w1.α[0] = a0 at *
            cases hF2
            obtain ⟨a, vs, rfl, h1, h2⟩ := items_ok lay1 r1 ei
            rw [allD_eq ed] at h2
            have ra := RpA_of_Rvs h2
            -- the end, in any later world
            have fin : ∀ (w2 : Wd) (H2 : Hp) (f c' : Addr), w1.le w2 → Lay G w2 μ1 H2 → Same w1.I H2 → SqL G.K H2 a vs → H2 f = some (LamO f c' r pr body sc) → H2 c' = some (LamX.CodeO c' r) → rSortL X.K r pr body sc [.ref a] [.ref f] H2 Q := by
              intro w2 H2 f c' le2 lay2 sm sq hf hc
              have ra2 := RpA.mono le2.1 _ _ ra
              obtain ⟨z1, z2, z3⟩ := RpA_zip ra2
              refine ⟨a, f, c', vs.zip ds, rfl, rfl, hf, hc, by rw [hK, z1]; exact sq, fun z hz => ?_, ?_⟩
              · have hd : z.2 ∈ ds := by rw [← z2]; exact List.mem_map_of_mem hz
                obtain ⟨y, es, e2⟩ := isFst_of (List.all_eq_true.mp cn _ hd)
                have rz := z3 z hz
                rw [e2] at rz
                obtain ⟨zv, zd⟩ := z
                simp only at rz e2
                cases rz with
                | tup hs ha2 =>
                  cases ha2 with
                  | cons ry rr =>
                    cases ry
                    exact ⟨_, y, _, es, rfl, by rw [hK]; exact seqT lay2.same hs.t, e2⟩
              · have hr : RpA G.K w2.I ((srtLZ (vs.zip ds)).map Prod.fst) ((srtLZ (vs.zip ds)).map Prod.snd) := RpA_of_zip fun z m => z3 z ((List.mergeSort_perm _ _).mem_iff.mp m)
                rw [srtLZ_snd, z2] at hr
                exact (list_new lay2 (Rvs_of_RpA hr) (p1.mono le2)).2
            refine ⟨ps, hps, ht, fun p u hu => ?_, fun f c' hc' nf => ?_, fun f c' qs nC nf ht2 hu => ?_⟩
            · obtain ⟨c0, e1, e2⟩ := hcd p u hu
              exact ⟨c0, e1, lay1.same _ _ e2⟩
            · obtain ⟨n1, n2, n3⟩ := lay1.na nf
              have lay2 := lay1.other n1 n2 n3 (LamO f c' r pr body sc)
              have sm : Same H1 (upd H1 f (LamO f c' r pr body sc)) := same_upd nf
              exact fin w1 _ f c' w1.le_refl lay2 (lay1.same.trans sm) (seqL sm h1) upd_same (sm _ _ hc')
            · have neP : P ≠ c' := ne_of_none hps nC
              obtain ⟨le2, layA⟩ := lay1.new nC (LamX.CodeO c' r)
              have nI2 : (w1.put c' (LamX.CodeO c' r)).I P = none := by show upd w1.I c' _ P = none; rw [upd_ne neP]; exact nI
              have layB := layA.write (n := 0) (c := .tab j r) (o := .tbl qs) ea nI2 fun H' e => ⟨nI2, hFA, qs, e, ht2, fun p u hu2 => by
                rcases hu p u hu2 with z | z
                · obtain ⟨c0, e1, e2⟩ := hcd p u z
                  exact ⟨c0, e1, le2.1 _ _ e2⟩
                · exact ⟨c', z, upd_same⟩⟩
              have eμ : μ1.set 0 (.tab j r) = μ1 := by
                cases μ1 with
                | nil => rfl
                | cons y ys => simp at e0; subst e0; rfl
              rw [eμ] at layB
              have eH : upd (upd H1 c' (LamX.CodeO c' r)) P (.tbl qs) = upd (upd H1 P (.tbl qs)) c' (LamX.CodeO c' r) := by
                funext z
                by_cases z1 : z = P
                · subst z1; rw [upd_same, upd_ne neP, upd_same]
                · rw [upd_ne z1]
                  by_cases z2 : z = c'
                  · subst z2; rw [upd_same, upd_same]
                  · rw [upd_ne z2, upd_ne z2, upd_ne z1]
              rw [eH] at layB
              obtain ⟨n1, n2, n3⟩ := layB.na nf
              have lay2 := layB.other n1 n2 n3 (LamO f c' r pr body sc)
              have sm : Same (upd (upd H1 P (.tbl qs)) c' (LamX.CodeO c' r)) (upd (upd (upd H1 P (.tbl qs)) c' (LamX.CodeO c' r)) f (LamO f c' r pr body sc)) := same_upd nf
              refine fin _ _ f c' le2 lay2 (le2.1.trans lay2.same) ?_ upd_same (sm _ _ upd_same)
              refine seqL sm ?_
              rcases h1 with (h1 | ⟨o, h1⟩) | h1
              · exact .inl (.inl (by rw [upd_ne (ne_of_none h1 nC), upd_ne (fun z => by rw [z, hps] at h1; cases h1)]; exact h1))
              · exact .inl (.inr ⟨o, by rw [upd_ne (ne_of_none h1 nC), upd_ne (fun z => by rw [z, hps] at h1; cases h1)]; exact h1⟩)
              · exact .inr h1
          · rw [if_neg cn] at p1; exact p1.elim
        · exact p1.elim
      · exact p1.elim
    · rw [if_neg hjr] at p1; exact p1.elim
  · exact p1.elim
end
end DL

namespace DL
open PySem PySem.Spec PyProof.Rows L2
/-- the law's call: its script is frozen, the table is the store's first cell -/
theorem lawGT {P : Program} {w : World} {G : GT} {mg mb : Str → Option Value} {k : Nat} {fa a : Addr} {fd : FuncData} {x q : Str} {F : OpN} {s : Shared} {vs : List Value} {ns : List Int} {μ' : Store} {cc tt : Addr} {i : Nat}
    (inK : G.K.In s.heap) (gl : s.heap.Ns mainGlobals mg) (bl : s.heap.Ns builtinsNs mb) (hbb : ∀ x : Str, x ≠ "__name__" → mb x = bootBuiltins x) (lim : s.heap.NoLimit) (gens : s.gens = #[])
    (tab : s.heap.get? tt = some (PySem.W.tabObj #[])) (offK : G.K.lookup tt = none) (hd : PySem.W.CodeHd s.heap cc tt) (hFA : G.FA i = some tt)
    (mainB : ∃ bm ob, mg "__builtins__" = some (.ref bm) ∧ bm ≠ builtinsNs ∧ s.heap.get? bm = some ob ∧ ob.cls = .type "module" ∧ ob.dict = some builtinsNs ∧ ob.data = .plain)
    (ha : s.heap.get? a = some { cls := .type "list", data := .seq vs.toArray }) (hi : IntsAre vs ns) (hl : ns.length ≤ sizeLine) (room : Room k callerA)
    (hF : ∀ base : Heap, G.K.In base → base.Ns mainGlobals mg → LamX.TabB base mg cc tt → FnG P w G.K mg base k fa fd [x] (spD G 1 F)) (bt : ∀ (s : Shared) (u : Value), BindsTo s fd ⟨[u], []⟩ [(x, u)])
    (hv : F [.d (.list (ns.map PyData.int))] [.tab i q] = .ok (.d (.bool true)) μ') :
    codeAny (model P w) callerA (.call (.ref fa) ⟨[.ref a], []⟩) (fun r t => r = .ok (.ret (.bool true)) ∧ OldK s.heap t.heap ∧ t.os = s.os ∧ AllBare t.gens) s := by
  have rv := vals_ints hi
  have lenV := hi.length
  have nat : a ≠ tt := fun z => by rw [z, tab] at ha; cases ha
  suffices main : ∀ H : Hp, (∀ b, H b ≠ none → (b = a ∧ ∃ xs, H b = some (.frz { cls := .type "list", data := .seq vs.toArray } (.lst xs))) ∨ b = tt) → H tt = some (.tbl #[]) → SqL G.K H a (ns.map V.int) → HOk P w H s.heap → (H a ≠ none → G.K.lookup a = none) →
      codeAny (model P w) callerA (.call (.ref fa) ⟨[.ref a], []⟩) (fun r t => r = .ok (.ret (.bool true)) ∧ OldK s.heap t.heap ∧ t.os = s.os ∧ AllBare t.gens) s by
    cases hk : G.K.lookup a with
    | some o =>
      have e := inK a o hk
      rw [ha] at e
      cases e
      apply main (fun b => if b = tt then some (.tbl #[]) else none)
      · intro b z
        by_cases hb : b = tt
        · exact .inr hb
        · exact absurd (if_neg hb) z
      · exact if_pos rfl
      · exact Or.inr ⟨_, vs.toArray, _, hk, rfl, rfl, rfl, by rw [List.size_toArray, lenV]; exact hl, by simpa using rv⟩
      · intro b u z
        by_cases hb : b = tt
        · cases (if_pos hb).symm.trans z
          rw [hb]
          exact tab
        · cases (if_neg hb).symm.trans z
      · exact fun z => absurd (if_neg nat) z
    | none =>
      have at_ : ∀ b u, (if b = a then some (HO.frz { cls := .type "list", data := .seq vs.toArray } (.lst (ns.map V.int))) else if b = tt then some (.tbl #[]) else none) = some u → (b = a ∧ u = .frz { cls := .type "list", data := .seq vs.toArray } (.lst (ns.map V.int))) ∨ (b = tt ∧ u = .tbl #[]) := by
        intro b u z
        by_cases hb : b = a
        · rw [if_pos hb] at z
          exact .inl ⟨hb, (Option.some.inj z).symm⟩
        · rw [if_neg hb] at z
          by_cases h2 : b = tt
          · rw [if_pos h2] at z
            exact .inr ⟨h2, (Option.some.inj z).symm⟩
          · rw [if_neg h2] at z
            cases z
      apply main (fun b => if b = a then some (.frz { cls := .type "list", data := .seq vs.toArray } (.lst (ns.map V.int))) else if b = tt then some (.tbl #[]) else none)
      · intro b z
        by_cases hb : b = a
        · exact .inl ⟨hb, ns.map V.int, if_pos hb⟩
        · by_cases h2 : b = tt
          · exact .inr h2
          · exact absurd ((if_neg hb).trans (if_neg h2)) z
      · exact (if_neg (Ne.symm nat)).trans (if_pos rfl)
      · exact Or.inl (Or.inr ⟨{ cls := .type "list", data := .seq vs.toArray }, if_pos rfl⟩)
      · intro b u z
        rcases at_ b u z with ⟨rfl, rfl⟩ | ⟨rfl, rfl⟩
        · exact ⟨ha, by rw [List.length_map]; exact hl, vs, _, rv, ha⟩
        · exact tab
      · exact fun _ => hk
  intro H only hT sq ok own
  have keep : ∀ {b : Addr} {o : Obj}, s.heap.get? b = some o → H b = none → (hidT s.heap H).get? b = some o := hidT_get
  have off : ∀ {b : Addr} {o : Obj}, s.heap.get? b = some o → (o.data ≠ .seq vs.toArray) → o.data ≠ .fields #[] → H b = none := by
    intro b o e d1 d2
    cases q : H b with
    | none => rfl
    | some u =>
      rcases only b (by rw [q]; simp) with ⟨rfl, _⟩ | rfl
      · rw [ha] at e
        cases e
        exact absurd rfl d1
      · rw [tab] at e
        cases e
        exact absurd rfl d2
  have isA : ∀ {b : Addr} {o : Obj} {es : Array DictEntry} {ep : Nat}, s.heap.get? b = some o → o.data = .dict es ep → H b = none := by
    intro b o es ep e d
    exact off e (by rw [d]; intro z; cases z) (by rw [d]; intro z; cases z)
  have kb : G.K.In (hidT s.heap H) := by
    intro b o e
    apply keep (inK b o e)
    cases q : H b with
    | none => rfl
    | some u =>
      rcases only b (by rw [q]; simp) with ⟨rfl, _⟩ | rfl
      · rw [own (by rw [q]; simp)] at e
        cases e
      · rw [offK] at e
        cases e
  have nsB : ∀ {b : Addr} {m : Str → Option Value}, s.heap.Ns b m → (hidT s.heap H).Ns b m := by
    rintro b m ⟨o, es, ep, e, d, r⟩
    exact ⟨o, es, ep, keep e (isA e d), d, r⟩
  have md : Mod G.K mg (hidT s.heap H) := ⟨kb, nsB gl, ⟨mb, nsB bl, hbb⟩, by obtain ⟨mc, h1, h2⟩ := lim; exact ⟨mc, nsB h1, h2⟩⟩
  have neT : ∀ {b : Addr} {o : Obj}, s.heap.get? b = some o → o.data ≠ .fields #[] → b ≠ tt := by
    intro b o e d z
    rw [z, tab] at e
    cases e
    exact d rfl
  have tb : LamX.TabB (hidT s.heap H) mg cc tt := by
    refine ⟨?_, ?_, ?_⟩
    · obtain ⟨o, us, file, tf, flags, tg, inF, text, tx, y1, y2, y3, y4, y5, y6⟩ := hd
      refine ⟨o, us, file, tf, flags, tg, inF, text, tx, keep y1 (off y1 ?_ ?_), y2, y3, y4, y5, y6⟩
      · rw [y3]; intro z; cases z
      · rw [y3]; intro z
        cases z
        simp at y4
    · obtain ⟨bm, ob, y1, y2, y3, y4, y5, y6⟩ := mainB
      refine ⟨bm, ob, y1, y2, fun z => ?_, neT y3 (by rw [y6]; intro z; cases z), keep y3 (off y3 (by rw [y6]; intro z; cases z) (by rw [y6]; intro z; cases z)), y4, y5, y6⟩
      obtain ⟨o, es, ep, e, d, _⟩ := gl
      rw [z, e] at y3
      cases y3
      rw [d] at y6
      cases y6
    · intro z
      obtain ⟨o, es, ep, e, d, _⟩ := gl
      exact neT e (by rw [d]; intro z; cases z) z
  have e0 : Env0 P w G.K mg (hidT s.heap H) callerA [] s H := ⟨rfl, md, fun b o e => of_hidT e, Nat.le_of_eq (hidT_size _ _), trivial, fun b hb => absurd (show b ∈ ([] : List Addr) from hb) (by simp), ok, .of_eq gens⟩
  have sp : spD G 1 F [.ref a] H (fun v _ => v = .bl true) (fun _ _ _ => False) := by
    have sq2 : SqL G.K (fun b => if b = tt then none else H b) a (ns.map V.int) := by
      rcases sq with (h | ⟨o, h⟩) | h
      · exact .inl (.inl ((if_neg nat).trans h))
      · exact .inl (.inr ⟨o, (if_neg nat).trans h⟩)
      · exact .inr h
    refine ⟨rfl, ⟨fun b => if b = tt then none else H b, [tt], fun _ => none⟩, [.tab i q], [.d (.list (ns.map PyData.int))], ?_, .cons (.lst sq2 (RpA_ints ns)) .nil, ?_⟩
    · refine ⟨fun b o e => ?_, rfl, by simp, fun b h => ?_, fun b o e => (nomatch e), fun _ _ => rfl, fun b o e => (nomatch e), fun n c b e y => ?_⟩
      · by_cases hb : b = tt
        · have e : (if b = tt then none else H b) = some o := e
          rw [if_pos hb] at e; cases e
        · have e : (if b = tt then none else H b) = some o := e
          rw [if_neg hb] at e; exact e
      · have h : b = tt := by simpa using h
        rw [h]
        exact ⟨_, hT⟩
      · cases n with
        | zero =>
          simp at e y
          subst e
          subst y
          exact ⟨if_pos rfl, hFA, #[], hT, trivial, fun p u hu => by cases hu⟩
        | succ n => simp at e
    · rw [hv]
      intro w' v H' _ _ r
      have r : Rp G.K w'.I v (.bool true) := r
      cases r
      rfl
  apply codeAny_mono ((hF _ kb (nsB gl) tb).run callerA [] s H ⟨[.ref a], []⟩ [.ref a] [.ref a] _ _ rfl room e0 (bt s (.ref a)) (.cons rfl .nil) sp)
  rintro (e | fl) t q
  · obtain ⟨_, _, _, _, _, _, _, _, _, _, _, _, z⟩ := q
    exact z.elim
  cases fl with
  | next => exact q.elim
  | brk => exact q.elim
  | cont => exact q.elim
  | ret u =>
    obtain ⟨v, H', os, bare, un, ok', r, rfl⟩ := q
    obtain rfl : u = Value.bool true := r
    have old : ∀ b o, b ≠ tt → s.heap.get? b = some o → t.heap.get? b = some o := by
      intro b o nb e
      cases q : H b with
      | none => exact un.keep b o e q (fun z => absurd (show b ∈ ([] : List Addr) from z) (by simp)) (by simp)
      | some u =>
        rcases only b (by rw [q]; simp) with ⟨_, xs, z⟩ | z
        · have z2 := un.frzs b _ _ z
          obtain ⟨e1, _⟩ := ok b _ z
          obtain ⟨e2, _⟩ := ok' b _ z2
          rw [e] at e1
          cases e1
          exact e2
        · exact absurd z nb
    obtain ⟨more, gr⟩ := un.tbls tt #[] hT
    have gr : t.heap.get? tt = some (PySem.W.tabObj (#[] ++ more)) := ok' tt _ gr
    refine ⟨rfl, ⟨fun b o e => ?_, fun b o e => ?_⟩, os, bare⟩
    · by_cases hb : b = tt
      · subst hb
        rw [tab] at e
        cases e
        refine .inr (.inl ⟨(hd.tab tab).isCodeTable, rfl, #[], more, rfl, gr⟩)
      · exact .inl (old b o hb e)
    · by_cases hb : b = tt
      · rw [hb]; exact ⟨_, gr⟩
      · exact ⟨o, old b o hb e⟩
/-- the goal behind the head; ts: the tables that grow -/
theorem walkGT {l : PySem.W.OpenLaw} {n k : Nat} {q : Program} {loose : List Str} {XP : (Str → Option Value) → Heap → Prop} {YP : World → Heap → Prop} {d : DefRec} {K : Params → PySem.W.Frag} {x : Str} {i : Nat} {lq : Str} {ts : List Addr}
    (hn : l.most = some n) (hn2 : n ≤ sizeLine) (hdf : d.params.defaults = []) (hr : Room k callerA) (hY : ∀ (w : World) (h : Heap), YP w h → (K w.params).In h) (hT : ∀ (w : World) (h : Heap), YP w h → ∀ P ∈ ts, h.get? P = some (PySem.W.tabObj #[]))
    (F : ∀ (w : World) (mg : Str → Option Value) (fa : Addr) (h : Heap), (K w.params).In h → h.Ns mainGlobals mg → mg d.name = some (.ref fa) →
      ∃ (fd : FuncData) (G : GT) (F : OpN) (cc tt : Addr), PySem.W.codeHdIn (K w.params) cc tt = true ∧ tt ∈ ts ∧ (K w.params).lookup tt = none ∧ G.FA i = some tt ∧ G.K = K w.params ∧ (∀ (s : Shared) (u : Value), BindsTo s fd ⟨[u], []⟩ [(x, u)]) ∧
        (∀ base : Heap, (K w.params).In base → base.Ns mainGlobals mg → LamX.TabB base mg cc tt → FnG l.prog w (K w.params) mg base k fa fd [x] (spD G 1 F)) ∧
        ∀ ns : List Int, ns.length ≤ n → (∀ i ∈ ns, Builtin.Int.intBits i ≤ 1048576) → ∃ μ', F [.d (.list (ns.map PyData.int))] [.tab i lq] = .ok (.d (.bool true)) μ') :
    PySem.W.WalkO q loose XP YP l.row.toRowW d [] (fun f vs => PySem.call f vs) := by
  apply Att.attach_callB hn hdf
  intro w s₀ s₁ mg mb fa o pm cd doc a vs ns T Y ho hd hcd hmg hobj hints hlen bits hg
  have inK := hY w _ Y
  obtain ⟨fd, G, F, cc, tt, hc, ht, hoff, hFA, eK, hb, hF, hv⟩ := F w mg fa _ inK T.T.g hmg
  obtain ⟨μ', hv⟩ := hv ns hlen bits
  have t1 := PySem.W.codeHd_of_K inK hc
  have t2 := hT w _ Y tt ht
  rw [← eK] at inK hF hoff
  exact lawGT inK T.T.g T.T.b T.T.builtins T.T.nolimit hg t2 hoff t1 hFA T.T.bmain hobj hints (Nat.le_trans hlen hn2) hr hF hb hv
section
variable {P : Program} {w : World} {mg : Str → Option Value} {base : Heap}
/-- as fn_okG; the code object is the one that fd tells -/
theorem fn_okGc {G : GT} {x qual : Str} {st : Stmt} {f : Addr} {fd : FuncData} {N ps : List Str} {k : Nat} {B : MS} (F : Fun G.K x qual st f fd) (S : FnScope N ps (defScope st))
    (hB : ∀ (cdv : Value) (A : Around) (outer : List Env) (s : Shared) (H : Hp) (E : XK), fd.code = cdv → (cxOf (L2.CX P w) P w G.K mg base N qual (defScope st) f cdv A outer s H E).A.guards = some [] → Room k (cxOf (L2.CX P w) P w G.K mg base N qual (defScope st) f cdv A outer s H E).A →
      Takes (cxOf (L2.CX P w) P w G.K mg base N qual (defScope st) f cdv A outer s H E) (fun cls d _ H => E cls d H) →
      PassesOwn (model P w) (cxOf (L2.CX P w) P w G.K mg base N qual (defScope st) f cdv A outer s H E).A (cxOf (L2.CX P w) P w G.K mg base N qual (defScope st) f cdv A outer s H E).env (cxOf (L2.CX P w) P w G.K mg base N qual (defScope st) f cdv A outer s H E).xe →
      DSs (cxOf (L2.CX P w) P w G.K mg base N qual (defScope st) f cdv A outer s H E) G (fun cls d _ H => E cls d H) (defBody st) B) :
    FnG P w G.K mg base (k + 1) f fd ps (spD G ps.length (runB N.length B)) := by
  obtain ⟨oc, od, kV, doc, pm, an, cdv, ct, osl, rfl, lk, hcd⟩ := F.ex
  apply fnG_of lk hcd S (fun vs H Q E h => h.1)
  intro A outer s H vs Q E g hr h
  obtain ⟨hn, w0, μ, bs, lay, r, p⟩ := h
  have tk : Takes (cxOf (L2.CX P w) P w G.K mg base N qual (defScope st) f cdv A outer s H E) (fun cls d _ H => E cls d H) := takes_of rfl rfl rfl rfl
  refine ⟨_, hB cdv A outer s H E rfl g hr tk (passes_of rfl), w0, μ, _, lay, env_start r, ?_⟩
  unfold runB at p
  cases q : B (bs.map some ++ List.replicate (N.length - bs.length) none) μ with
  | bad => rw [q] at p; exact p.elim
  | ex e μ' =>
    rw [q] at p
    exact fun w' cls d _ H' l lay' r' => p w' cls d H' l lay' r'
  | ok fl μ' =>
    rw [q] at p
    cases fl with
    | nx ρ => exact fun w' σ' H' l lay' _ => p w' .non H' l lay' .non
    | rt b => exact p
    | bk ρ => exact p.elim
    | ct ρ => exact p.elim
end
end DL

namespace DL
open PySem PySem.Spec PyProof.Rows L2
/-- a text's cps stand behind another one's, or are the same -/
def leS (a b : Str) : Bool := !ltCps b.cps.toList a.cps.toList
theorem leS_iff {a b : Str} : leS a b = true ↔ a.cps.toList ≤ b.cps.toList := by
  unfold leS
  rw [ltCps_eq, Bool.not_eq_true', decide_eq_false_iff_not, List.not_lt]
theorem cps_inj {a b : Str} (h : a.cps.toList = b.cps.toList) : a = b := by
  cases a; cases b
  simp only [Str.mk.injEq]
  exact Array.toList_inj.mp h
def srtS (ks : List Str) : List Str := ks.mergeSort leS
theorem srtS_perm (ks : List Str) : (srtS ks).Perm ks := List.mergeSort_perm ks _
theorem leS_trans (a b c : Str) (h : leS a b = true) (k : leS b c = true) : leS a c = true := leS_iff.mpr (List.le_trans (leS_iff.mp h) (leS_iff.mp k))
theorem leS_total (a b : Str) : (leS a b || leS b a) = true := by
  rcases List.le_total a.cps.toList b.cps.toList with h | h
  · rw [leS_iff.mpr h]; rfl
  · rw [leS_iff.mpr h, Bool.or_true]
theorem rising_pair : ∀ (r : List Str) (x : Str), risingS x r = true → (x :: r).Pairwise (fun a b => leS a b = true)
  | [], x, _ => by simp
  | y :: r, x, h => by
    unfold risingS at h
    rw [Bool.and_eq_true] at h
    have ih := rising_pair r y h.2
    refine List.pairwise_cons.mpr ⟨fun z hz => ?_, ih⟩
    rcases List.mem_cons.mp hz with rfl | hz
    · exact h.1
    · exact leS_trans x y z h.1 ((List.pairwise_cons.mp ih).1 z hz)
theorem sorted_one {ys ks : List Str} (h : ys.Perm ks) (s : sortedS ys = true) : ys = srtS ks := by
  refine List.Perm.eq_of_pairwise (le := fun a b => leS a b = true) (fun a b _ _ h1 h2 => cps_inj (List.le_antisymm (leS_iff.mp h1) (leS_iff.mp h2))) ?_ (List.pairwise_mergeSort leS_trans leS_total ks) (h.trans (srtS_perm ks).symm)
  cases ys with
  | nil => simp
  | cons x r => exact rising_pair r x s
def keysS : List (D × D) → Option (List Str)
  | [] => some []
  | (.str x, _) :: ps => (keysS ps).map (x :: ·)
  | _ :: _ => none
theorem RpK_keys {K : PySem.W.Frag} {I : Hp} : ∀ {ps : List (D × D)} {kvs : List (Key × V)} {ks : List Str}, RpK K I kvs ps → keysS ps = some ks → kvs.map (·.1) = ks.map Sum.inr
  | _, _, ks, .nil, e => by
    cases e; rfl
  | _, _, ks, .cons (k := k) r t, e => by
    cases k with
    | inl i => simp [kD, keysS] at e
    | inr x =>
      simp only [kD, keysS] at e
      obtain ⟨ls, e1, e2⟩ := Option.map_eq_some_iff.mp e
      subst e2
      have ih := RpK_keys t e1
      rw [List.map_cons, List.map_cons, ih]
/-- sorted(d) -/
def dSortDk : OpN := n1 fun b μ => match b with
  | .d (.dict ps) => match keysS ps with
    | some ks => if ks.length < 64 then dList (((srtS ks).map PyData.str).map .d) μ else .bad
    | none => .bad
  | _ => .bad
abbrev rSortDk : List V → Hp → VK → Prop := fun xs H Q => ∃ (a : Addr) (kvs : List (Key × V)) (ks : List Str), xs = [V.ref a] ∧ Rd H a (.dK kvs) ∧ kvs.map (·.1) = ks.map Sum.inr ∧ ks.length < 64 ∧ ∀ ys p, ys.Perm ks → sortedS ys = true → H p = none → Q (.ref p) (upd H p (.lst (ys.map V.str)))
section
variable {G : GT}
theorem ok_sortDk : OkN G rSortDk dSortDk := by
  apply ok_n1
  intro W σ w μ H x b Q l r p
  split at p
  · rename_i ps
    split at p
    · rename_i ks e
      by_cases h : ks.length < 64
      · rw [if_pos h] at p
        have r : Rp G.K w.I x (.dict ps) := r
        cases r with
        | dic hI hk =>
          refine ⟨_, _, ks, rfl, .inl (l.same _ _ hI), RpK_keys hk e, h, fun ys q pm ss nq => ?_⟩
          rw [sorted_one pm ss]
          exact (list_new l (Rvs_of_RpA (RpA_strs _)) p).2 q nq
      · rw [if_neg h] at p; exact p.elim
    · exact p.elim
  · exact p.elim
end
end DL

namespace DL
open PySem PySem.Spec PyProof.Rows L2
def CPowW (i j : Int) : Prop := 0 ≤ j ∧ (Builtin.Int.intBits i : Int) * j ≤ 2 ^ 27
theorem op_powW {X : Cx} : OpR X (binaryOp .Pow) (rI CPowW fun i j => .int (i ^ j.toNat)) := opI fun _ _ _ _ _ _ _ hc q => pow_int hc.1 hc.2 q
def cPowW (i j : Int) : Bool := decide (0 ≤ j) && decide ((Builtin.Int.intBits i : Int) * j ≤ 2 ^ 27)
abbrev dPowW : Op2 := dNum cPowW fun i j => i ^ j.toNat
theorem ok_powW {G : GT} : Ok2 G (rI CPowW fun i j => .int (i ^ j.toNat)) dPowW := ok_num fun i j h => by
  unfold cPowW at h
  simp only [Bool.and_eq_true, decide_eq_true_eq] at h
  exact h
end DL

namespace LW
open PySem PySem.Spec PyProof.Rows L2 DL
@[simp] theorem S_0 : ("0123456789" : Str) = T [48, 49, 50, 51, 52, 53, 54, 55, 56, 57] := by decide +kernel
@[simp] theorem S_1 : ("-./" : Str) = T [45, 46, 47] := by decide +kernel
@[simp] theorem S_2 : ("cut" : Str) = T [99, 117, 116] := by decide +kernel
@[simp] theorem S_3 : ("glue" : Str) = T [103, 108, 117, 101] := by decide +kernel
@[simp] theorem S_4 : ("spell" : Str) = T [115, 112, 101, 108, 108] := by decide +kernel
@[simp] theorem S_5 : ("read" : Str) = T [114, 101, 97, 100] := by decide +kernel
@[simp] theorem S_6 : ("put" : Str) = T [112, 117, 116] := by decide +kernel
@[simp] theorem S_7 : ("given" : Str) = T [103, 105, 118, 101, 110] := by decide +kernel
@[simp] theorem S_8 : ("within" : Str) = T [119, 105, 116, 104, 105, 110] := by decide +kernel
@[simp] theorem S_9 : ("among" : Str) = T [97, 109, 111, 110, 103] := by decide +kernel
@[simp] theorem S_10 : ("before" : Str) = T [98, 101, 102, 111, 114, 101] := by decide +kernel
@[simp] theorem S_11 : ("." : Str) = T [46] := by decide +kernel
@[simp] theorem S_12 : ("whole" : Str) = T [119, 104, 111, 108, 101] := by decide +kernel
@[simp] theorem S_13 : (" " : Str) = T [32] := by decide +kernel
@[simp] theorem S_14 : ("amount" : Str) = T [97, 109, 111, 117, 110, 116] := by decide +kernel
@[simp] theorem S_15 : ("y" : Str) = T [121] := by decide +kernel
@[simp] theorem S_16 : ("m" : Str) = T [109] := by decide +kernel
@[simp] theorem S_17 : ("d" : Str) = T [100] := by decide +kernel
@[simp] theorem S_18 : ("day" : Str) = T [100, 97, 121] := by decide +kernel
@[simp] theorem S_19 : ("ta" : Str) = T [116, 97] := by decide +kernel
@[simp] theorem S_20 : ("tb" : Str) = T [116, 98] := by decide +kernel
@[simp] theorem S_21 : ("na" : Str) = T [110, 97] := by decide +kernel
@[simp] theorem S_22 : ("nb" : Str) = T [110, 98] := by decide +kernel
@[simp] theorem S_23 : ("-" : Str) = T [45] := by decide +kernel
@[simp] theorem S_24 : ("" : Str) = T [] := by decide +kernel
@[simp] theorem S_25 : ("+" : Str) = T [43] := by decide +kernel
@[simp] theorem S_26 : ("ymd" : Str) = T [121, 109, 100] := by decide +kernel
@[simp] theorem S_27 : ("/" : Str) = T [47] := by decide +kernel
@[simp] theorem S_28 : ("=" : Str) = T [61] := by decide +kernel
@[simp] theorem S_29 : ("2" : Str) = T [50] := by decide +kernel
@[simp] theorem S_30 : ("02" : Str) = T [48, 50] := by decide +kernel
@[simp] theorem S_31 : ("12" : Str) = T [49, 50] := by decide +kernel
@[simp] theorem S_32 : ("13" : Str) = T [49, 51] := by decide +kernel
@[simp] theorem S_33 : ("0" : Str) = T [48] := by decide +kernel
@[simp] theorem S_34 : ("4" : Str) = T [52] := by decide +kernel
@[simp] theorem S_35 : ("1" : Str) = T [49] := by decide +kernel
@[simp] theorem S_36 : ("29" : Str) = T [50, 57] := by decide +kernel
@[simp] theorem S_37 : ("28" : Str) = T [50, 56] := by decide +kernel
@[simp] theorem S_38 : ("31" : Str) = T [51, 49] := by decide +kernel
@[simp] theorem S_39 : ("30" : Str) = T [51, 48] := by decide +kernel
@[simp] theorem S_40 : ("00" : Str) = T [48, 48] := by decide +kernel
@[simp] theorem S_41 : ("123" : Str) = T [49, 50, 51] := by decide +kernel
@[simp] theorem S_42 : ("007" : Str) = T [48, 48, 55] := by decide +kernel
@[simp] theorem S_43 : ("12345678" : Str) = T [49, 50, 51, 52, 53, 54, 55, 56] := by decide +kernel
@[simp] theorem S_44 : ("123456789" : Str) = T [49, 50, 51, 52, 53, 54, 55, 56, 57] := by decide +kernel
@[simp] theorem S_45 : ("1234567890" : Str) = T [49, 50, 51, 52, 53, 54, 55, 56, 57, 48] := by decide +kernel
@[simp] theorem S_46 : ("1a" : Str) = T [49, 97] := by decide +kernel
@[simp] theorem S_47 : ("99999999" : Str) = T [57, 57, 57, 57, 57, 57, 57, 57] := by decide +kernel
@[simp] theorem S_48 : (".5" : Str) = T [46, 53] := by decide +kernel
@[simp] theorem S_49 : (".25" : Str) = T [46, 50, 53] := by decide +kernel
@[simp] theorem S_50 : (".1234" : Str) = T [46, 49, 50, 51, 52] := by decide +kernel
@[simp] theorem S_51 : (".12345" : Str) = T [46, 49, 50, 51, 52, 53] := by decide +kernel
@[simp] theorem S_52 : (".x" : Str) = T [46, 120] := by decide +kernel
@[simp] theorem S_53 : (".0" : Str) = T [46, 48] := by decide +kernel
@[simp] theorem S_54 : ("dmy" : Str) = T [100, 109, 121] := by decide +kernel
@[simp] theorem S_55 : ("mdy" : Str) = T [109, 100, 121] := by decide +kernel
@[simp] theorem S_56 : ("," : Str) = T [44] := by decide +kernel
@[simp] theorem S_57 : ("s" : Str) = T [115] := by decide +kernel
@[simp] theorem S_58 : ("st" : Str) = T [115, 116] := by decide +kernel
@[simp] theorem S_59 : ("zzzzzzzz" : Str) = T [122, 122, 122, 122, 122, 122, 122, 122] := by decide +kernel
@[simp] theorem S_60 : ("a" : Str) = T [97] := by decide +kernel
@[simp] theorem S_61 : ("b c" : Str) = T [98, 32, 99] := by decide +kernel
@[simp] theorem S_62 : ("x" : Str) = T [120] := by decide +kernel
@[simp] theorem S_63 : ("2000" : Str) = T [50, 48, 48, 48] := by decide +kernel
@[simp] theorem S_64 : ("1900" : Str) = T [49, 57, 48, 48] := by decide +kernel
@[simp] theorem S_65 : ("0001" : Str) = T [48, 48, 48, 49] := by decide +kernel
@[simp] theorem S_66 : ("0000" : Str) = T [48, 48, 48, 48] := by decide +kernel
@[simp] theorem S_67 : ("2023" : Str) = T [50, 48, 50, 51] := by decide +kernel
@[simp] theorem S_68 : ("99" : Str) = T [57, 57] := by decide +kernel
@[simp] theorem S_69 : ("2024" : Str) = T [50, 48, 50, 52] := by decide +kernel
@[simp] theorem S_70 : ("b" : Str) = T [98] := by decide +kernel
@[simp] theorem S_71 : ("c" : Str) = T [99] := by decide +kernel
@[simp] theorem S_72 : ("'" : Str) = T [39] := by decide +kernel
@[simp] theorem S_73 : ("new" : Str) = T [110, 101, 119] := by decide +kernel
@[simp] theorem S_74 : ("q" : Str) = T [113] := by decide +kernel
@[simp] theorem S_75 : ("a b" : Str) = T [97, 32, 98] := by decide +kernel
@[simp] theorem S_76 : ("--" : Str) = T [45, 45] := by decide +kernel
@[simp] theorem S_77 : ("p" : Str) = T [112] := by decide +kernel
@[simp] theorem S_78 : ("r" : Str) = T [114] := by decide +kernel
@[simp] theorem S_79 : ("u" : Str) = T [117] := by decide +kernel
@[simp] theorem S_80 : ("md" : Str) = T [109, 100] := by decide +kernel
def top (i : Nat) : Stmt := PySem.Challenge.pw_cleanedtables_k21_steps_on_rows.main.body.getD i (.Pass ⟨0, 0, 0, 0⟩)
abbrev s_l_hand : Stmt := top 30
abbrev N_l_hand : List Str := ["_law_script", "_law_k", "_law_cell", "_law_great"]
def r1_l_hand : MS := sRet (eN cList (aCons (eVar 3) (aCons (e2 dMod (e2 dAdd (e2 dAdd (e2 dMod (eVar 2) (eC (.d (.int 2305843009213693951)))) (e2 dMulA (eC (.d (.int 104729))) (eVar 1))) (eC (.d (.int 7)))) (eC (.d (.int 2305843009213693951)))) (aCons (eC (.d (.int 0))) (aNil)))))
def r2_l_hand : MS := sSeq (sSet 3 (e2 dMulA (e2 dMod (eN dAbs (aCons (eVar 2) (aNil))) (e2 dPowW (e2 dPowW (eC (.d (.int 10))) (eC (.d (.int 60)))) (eC (.d (.int 5))))) (eN dInt (aCons (e2 dGe (eN dAbs (aCons (eVar 2) (aNil))) (e2 dPowW (eC (.d (.int 10))) (eC (.d (.int 18))))) (aNil))))) (r1_l_hand)
def B_l_hand : MS := sSeq (sSet 2 (eIf (tV (e2 dLt (eVar 1) (eN dLen (aCons (eVar 0) (aNil))))) (e2 dIx (eVar 0) (eVar 1)) (e2 dAdd (e2 dMulA (eC (.d (.int 7))) (eVar 1)) (eN dLen (aCons (eVar 0) (aNil)))))) (r2_l_hand)
def F_l_hand : OpN := runB 4 B_l_hand
abbrev s_l_take : Stmt := top 31
abbrev N_l_take : List Str := ["_law_hand_here", "_law_many", "_law_digit", "_law_primes", "_law_prime", "_law_drawn"]
def r1_l_take : MS := sRet (eVar 2)
def r2_l_take : MS := sSeq (sSetIx (e2 dDiv (e2 dIx (eVar 0) (eC (.d (.int 0)))) (eVar 1)) (eVar 0) (eC (.d (.int 0)))) (r1_l_take)
def r3_l_take : MS := sRet (e2 dMod (e2 dDiv (e2 dMod (e2 dMulA (eVar 5) (e2 dAdd (e2 dMod (eVar 5) (eC (.d (.int 1009)))) (e2 dIx (eVar 0) (eC (.d (.int 2)))))) (eVar 4)) (eC (.d (.int 7)))) (eVar 1))
def r4_l_take : MS := sSeq (sSet 5 (e2 dMod (e2 dPow (e2 dAdd (e2 dIx (eVar 0) (eC (.d (.int 1)))) (e2 dMulA (eC (.d (.int 7919))) (e2 dIx (eVar 0) (eC (.d (.int 2)))))) (eC (.d (.int 5)))) (eVar 4))) (r3_l_take)
def r5_l_take : MS := sSeq (sSet 4 (e2 dIx (eVar 3) (e2 dMod (e2 dIx (eVar 0) (eC (.d (.int 2)))) (eC (.d (.int 8)))))) (r4_l_take)
def r6_l_take : MS := sSeq (sSet 3 (eN dList (aCons (eC (.d (.int 2147483647))) (aCons (eC (.d (.int 2147483629))) (aCons (eC (.d (.int 2147483587))) (aCons (eC (.d (.int 2147483579))) (aCons (eC (.d (.int 2147483563))) (aCons (eC (.d (.int 2147483549))) (aCons (eC (.d (.int 2147483543))) (aCons (eC (.d (.int 2147483497))) (aNil))))))))))) (r5_l_take)
def r7_l_take : MS := sSeq (sSetIx (e2 dAdd (e2 dIx (eVar 0) (eC (.d (.int 2)))) (eC (.d (.int 1)))) (eVar 0) (eC (.d (.int 2)))) (r6_l_take)
def B_l_take : MS := sSeq (sIf (tV (e2 dGt (e2 dIx (eVar 0) (eC (.d (.int 0)))) (eC (.d (.int 0))))) (sSeq (sSet 2 (e2 dMod (e2 dIx (eVar 0) (eC (.d (.int 0)))) (eVar 1))) (r2_l_take)) (sNext)) (r7_l_take)
def F_l_take : OpN := runB 6 B_l_take
abbrev s_l_of : Stmt := top 32
abbrev N_l_of : List Str := ["_law_hand_here", "_law_some"]
def B_l_of : MS := sRet (e2 dIx (eVar 1) (eN (fCall 2 F_l_take) (aCons (eVar 0) (aCons (eN dLen (aCons (eVar 1) (aNil))) (aNil)))))
def F_l_of : OpN := runB 2 B_l_of
abbrev s_l_text : Stmt := top 39
abbrev N_l_text : List Str := ["_law_hand_here", "_law_sign", "_law_parts", "_law_text_here", "_law_k"]
def c1_l_text : ME := eN (fCall 2 F_l_of) (aCons (eVar 0) (aCons (eN dList (aCons (eC (.d (.str "a"))) (aCons (eC (.d (.str "b c"))) (aCons (eC (.d (.str ""))) (aCons (eC (.d (.str " "))) (aCons (eC (.d (.str "x"))) (aCons (eC (.d (.str "1"))) (aNil)))))))) (aNil)))
def r1_l_text : MS := sRet (eIf (tV (e2 (dEq true) (eVar 3) (eC (.d (.str ""))))) (eN (fCall 2 F_l_of) (aCons (eVar 0) (aCons (eN dList (aCons (eVar 3) (aCons (eVar 3) (aCons (eVar 3) (aCons (eC (.d .none)) (aCons (eC (.d (.str "a"))) (aNil))))))) (aNil)))) (eC (.d .none)))
def r2_l_text : MS := sSeq (sSet 3 (eM isStr dStripC (eM isStr dJoin (eVar 1) (aCons (eVar 2) (aNil))) (aCons (eC (.d (.str " "))) (aNil)))) (r1_l_text)
def B_l_text : MS := sSeq (sSet 2 (eLc dList (iRng rng1 (aCons (e2 dAdd (eC (.d (.int 1))) (eN (fCall 2 F_l_take) (aCons (eVar 0) (aCons (eC (.d (.int 5))) (aNil))))) (aNil))) (gN 4) (tYesM) (c1_l_text) [4])) (r2_l_text)
def F_l_text : OpN := runB 5 B_l_text
abbrev s_l_spelled : Stmt := top 42
abbrev N_l_spelled : List Str := ["_law_hand_here", "_law_name", "_law_column", "_law_own", "_law_pairs"]
abbrev lq_l_spelled : Str := ("_law_spelled" : Str) ++ ".<locals>." ++ "<lambda>"
def r1_l_spelled : MS := sRet (eN dTup (aCons (eVar 1) (aCons (eC (.d (.str "spell"))) (aCons (eVar 2) (aCons (e1 dToTup (eSl (e1 (dSortL 9 lq_l_spelled) (eVar 4)) (oSome (eN (fCall 2 F_l_take) (aCons (eVar 0) (aCons (eC (.d (.int 2))) (aNil))))) (oNone))) (aNil))))))
def B_l_spelled : MS := sSeq (sSet 4 (e2 dAdd (eN dList (aCons (eN dTup (aCons (eC (.d (.str "a"))) (aCons (eC (.d (.str "b"))) (aNil)))) (aCons (eN dTup (aCons (eC (.d (.str "b"))) (aCons (eC (.d (.str "c"))) (aNil)))) (aCons (eN dTup (aCons (eC (.d (.str "x"))) (aCons (eC (.d .none)) (aNil)))) (aNil))))) (e1 dFrzA (eRepC (aCons (eN dTup (aCons (eVar 3) (aCons (eC (.d (.str "a b"))) (aNil)))) (aNil)) (eN dInt (aCons (e2 (dIn true) (eVar 3) (eN dTup (aCons (eC (.d .none)) (aCons (eC (.d (.str "a"))) (aCons (eC (.d (.str "b"))) (aCons (eC (.d (.str "x"))) (aNil))))))) (aNil))))))) (r1_l_spelled)
def F_l_spelled : OpN := runB 5 B_l_spelled
abbrev s_l_form : Stmt := top 43
abbrev N_l_form : List Str := ["_law_hand_here", "_law_order"]
def r1_l_form : MS := sRet (eN (fCall 2 F_l_of) (aCons (eVar 0) (aCons (eN dList (aCons (eN dTup (aCons (eC (.d (.str "whole"))) (aNil))) (aCons (eN dTup (aCons (eC (.d (.str "amount"))) (aCons (e2 dAdd (eC (.d (.int 1))) (eN (fCall 2 F_l_take) (aCons (eVar 0) (aCons (eC (.d (.int 4))) (aNil))))) (aNil)))) (aCons (eN dTup (aCons (eC (.d (.str "day"))) (aCons (eVar 1) (aNil)))) (aCons (eN dTup (aCons (eC (.d (.str "day"))) (aCons (eVar 1) (aNil)))) (aNil)))))) (aNil))))
def B_l_form : MS := sSeq (sSet 1 (eN (fCall 2 F_l_of) (aCons (eVar 0) (aCons (eN dList (aCons (eC (.d (.str "ymd"))) (aCons (eC (.d (.str "dmy"))) (aCons (eC (.d (.str "mdy"))) (aNil))))) (aNil))))) (r1_l_form)
def F_l_form : OpN := runB 2 B_l_form
abbrev s_l_near_day : Stmt := top 40
abbrev N_l_near_day : List Str := ["_law_hand_here", "_law_order", "_law_sign", "_law_parts", "_law_one"]
def c1_l_near_day : ME := e2 dDG (eVar 3) (eVar 4)
def r1_l_near_day : MS := sRet (e2 dAdd (eM isStr dJoin (eVar 2) (aCons (eLc dList (iSeq (eVar 1)) (gN 4) (tYesM) (c1_l_near_day) [4]) (aNil))) (eN (fCall 2 F_l_of) (aCons (eVar 0) (aCons (eN dList (aCons (eC (.d (.str ""))) (aCons (eC (.d (.str ""))) (aCons (eC (.d (.str ""))) (aCons (eC (.d (.str "-"))) (aCons (eC (.d (.str "1"))) (aNil))))))) (aNil)))))
def r2_l_near_day : MS := sSeq (sSetD (eN (fCall 2 F_l_of) (aCons (eVar 0) (aCons (eN dList (aCons (eC (.d (.str "29"))) (aCons (eC (.d (.str "28"))) (aCons (eC (.d (.str "31"))) (aCons (eC (.d (.str "30"))) (aCons (eC (.d (.str "1"))) (aCons (eC (.d (.str "00"))) (aCons (eC (.d (.str "123"))) (aNil))))))))) (aNil)))) (eVar 3) (eC (.d (.str "d")))) (r1_l_near_day)
def r3_l_near_day : MS := sSeq (sSetD (eN (fCall 2 F_l_of) (aCons (eVar 0) (aCons (eN dList (aCons (eC (.d (.str "2"))) (aCons (eC (.d (.str "02"))) (aCons (eC (.d (.str "12"))) (aCons (eC (.d (.str "13"))) (aCons (eC (.d (.str "0"))) (aCons (eC (.d (.str "4"))) (aCons (eC (.d (.str "1"))) (aNil))))))))) (aNil)))) (eVar 3) (eC (.d (.str "m")))) (r2_l_near_day)
def r4_l_near_day : MS := sSeq (sSet 3 (cDic (((eC (.d (.str "y"))), (eN (fCall 2 F_l_of) (aCons (eVar 0) (aCons (eN dList (aCons (eC (.d (.str "2000"))) (aCons (eC (.d (.str "1900"))) (aCons (eC (.d (.str "0001"))) (aCons (eC (.d (.str "0000"))) (aCons (eC (.d (.str "2023"))) (aCons (eC (.d (.str "99"))) (aCons (eC (.d (.str "2024"))) (aNil))))))))) (aNil))))) :: []))) (r3_l_near_day)
def B_l_near_day : MS := sSeq (sSet 2 (eN (fCall 2 F_l_of) (aCons (eVar 0) (aCons (eN dList (aCons (eC (.d (.str "-"))) (aCons (eC (.d (.str "."))) (aCons (eC (.d (.str "/"))) (aCons (eC (.d (.str "-"))) (aCons (eC (.d (.str "="))) (aNil))))))) (aNil))))) (r4_l_near_day)
def F_l_near_day : OpN := runB 5 B_l_near_day
abbrev s_l_near : Stmt := top 41
abbrev N_l_near : List Str := ["_law_hand_here", "_law_form_here", "_law_figures_here", "_law_last"]
def r1_l_near : MS := sRet (e2 dAdd (e2 dAdd (eN (fCall 2 F_l_of) (aCons (eVar 0) (aCons (eN dList (aCons (eC (.d (.str ""))) (aCons (eC (.d (.str ""))) (aCons (eC (.d (.str "+"))) (aCons (eC (.d (.str "-"))) (aCons (eC (.d (.str "--"))) (aNil))))))) (aNil)))) (eVar 2)) (e2 dMulA (eVar 3) (eN dInt (aCons (e2 (dEq false) (e2 dIx (eVar 1) (eC (.d (.int 0)))) (eC (.d (.str "amount")))) (aNil)))))
def r2_l_near : MS := sSeq (sSet 3 (eN (fCall 2 F_l_of) (aCons (eVar 0) (aCons (eN dList (aCons (eC (.d (.str ""))) (aCons (eC (.d (.str ""))) (aCons (eC (.d (.str ".5"))) (aCons (eC (.d (.str ".25"))) (aCons (eC (.d (.str ".1234"))) (aCons (eC (.d (.str ".12345"))) (aCons (eC (.d (.str "."))) (aCons (eC (.d (.str ".x"))) (aCons (eC (.d (.str ".0"))) (aNil))))))))))) (aNil))))) (r1_l_near)
def r3_l_near : MS := sSeq (sSet 2 (eN (fCall 2 F_l_of) (aCons (eVar 0) (aCons (eN dList (aCons (eC (.d (.str "0"))) (aCons (eC (.d (.str "007"))) (aCons (eC (.d (.str "1"))) (aCons (eC (.d (.str "12345678"))) (aCons (eC (.d (.str "123456789"))) (aCons (eC (.d (.str "1234567890"))) (aCons (eC (.d (.str ""))) (aCons (eC (.d (.str "1a"))) (aCons (eC (.d (.str "99999999"))) (aNil))))))))))) (aNil))))) (r2_l_near)
def B_l_near : MS := sSeq (sIf (tV (e2 (dEq false) (e2 dIx (eVar 1) (eC (.d (.int 0)))) (eC (.d (.str "day"))))) (sRet (eN (fCall 2 F_l_near_day) (aCons (eVar 0) (aCons (e2 dIx (eVar 1) (eC (.d (.int 1)))) (aNil))))) (sNext)) (r3_l_near)
def F_l_near : OpN := runB 4 B_l_near
abbrev s_l_case : Stmt := top 44
abbrev N_l_case : List Str := ["_law_hand_here", "_law_lot", "_law_here", "_law_column", "_law_sign", "_law_name", "_law_columns", "_law_form_here", "_law_near_here", "_law_menus", "_law_word"]
def r1_l_case : MS := sRet (eN dTup (aCons (eN dTup (aCons (eVar 5) (aCons (eC (.d (.str "glue"))) (aCons (eN (fCall 2 F_l_of) (aCons (eVar 0) (aCons (eVar 6) (aNil)))) (aCons (eVar 4) (aCons (eC (.d (.str "new"))) (aNil))))))) (aCons (e1 dFrzA (eVar 2)) (aNil))))
def r2_l_case : MS := sRet (eN dTup (aCons (eN dTup (aCons (eVar 5) (aCons (eC (.d (.str "read"))) (aCons (eVar 3) (aCons (eVar 7) (aCons (eC (.d (.str "new"))) (aNil))))))) (aCons (e1 dFrzA (eVar 2)) (aNil))))
def r3_l_case : MS := sSeq (sSetD (eIf (tAndM (tV (e2 (dEq true) (eVar 8) (eC (.d (.str ""))))) (tV (e2 dGt (eN (fCall 2 F_l_take) (aCons (eVar 0) (aCons (eC (.d (.int 9))) (aNil)))) (eC (.d (.int 0)))))) (eVar 8) (eC (.d .none))) (eVar 2) (eVar 3)) (r2_l_case)
def r4_l_case : MS := sSeq (sSet 8 (eN (fCall 2 F_l_near) (aCons (eVar 0) (aCons (eVar 7) (aNil))))) (r3_l_case)
def r5_l_case : MS := sRet (eN dTup (aCons (e2 dAdd (eN dTup (aCons (eVar 5) (aCons (eVar 10) (aNil)))) (eN (fCall 2 F_l_of) (aCons (eVar 0) (aCons (e2 dIx (eVar 9) (e2 dSub (eVar 1) (eC (.d (.int 4))))) (aNil))))) (aCons (e1 dFrzA (eVar 2)) (aNil))))
def r6_l_case : MS := sSeq (sSet 10 (e2 dIx (eN dList (aCons (eC (.d (.str "put"))) (aCons (eC (.d (.str "given"))) (aCons (eC (.d (.str "within"))) (aCons (eC (.d (.str "among"))) (aCons (eC (.d (.str "before"))) (aNil))))))) (e2 dSub (eVar 1) (eC (.d (.int 4)))))) (r5_l_case)
def r7_l_case : MS := sSeq (sDrop (eM isLst dAppend (eVar 9) (aCons (eN dList (aCons (eN dTup (aCons (eC (.d (.str "na"))) (aCons (eC (.d (.str "nb"))) (aNil)))) (aCons (eN dTup (aCons (eC (.d (.str "nb"))) (aCons (eC (.d (.str "na"))) (aNil)))) (aCons (eN dTup (aCons (eC (.d (.str "ta"))) (aCons (eC (.d (.str "tb"))) (aNil)))) (aCons (eN dTup (aCons (eC (.d (.str "tb"))) (aCons (eC (.d (.str "ta"))) (aNil)))) (aNil)))))) (aNil)))) (r6_l_case)
def r8_l_case : MS := sSeq (sDrop (eM isLst dAppend (eVar 9) (aCons (eN dList (aCons (eN dTup (aCons (eC (.d (.str "ta"))) (aCons (eN dTup (aCons (eC (.d (.str "a"))) (aNil))) (aNil)))) (aCons (eN dTup (aCons (eC (.d (.str "tb"))) (aCons (eN dTup (aCons (eC (.d (.str "a"))) (aCons (eC (.d (.str "b c"))) (aCons (eC (.d (.str "x"))) (aNil))))) (aNil)))) (aCons (eN dTup (aCons (eC (.d (.str "na"))) (aCons (eN dTup (aCons (eC (.d (.int 0))) (aCons (eC (.d (.int 5))) (aNil)))) (aNil)))) (aCons (eN dTup (aCons (eC (.d (.str "nb"))) (aCons (eN dTup (aCons (eC (.d (.int 5))) (aNil))) (aNil)))) (aNil)))))) (aNil)))) (r7_l_case)
def r9_l_case : MS := sSeq (sDrop (eM isLst dAppend (eVar 9) (aCons (eN dList (aCons (eN dTup (aCons (eC (.d (.str "na"))) (aCons (eC (.d (.int 0))) (aCons (eC (.d (.int 5))) (aNil))))) (aCons (eN dTup (aCons (eC (.d (.str "nb"))) (aCons (eC (.d (.int 5))) (aCons (eC (.d (.int 5))) (aNil))))) (aCons (eN dTup (aCons (eC (.d (.str "na"))) (aCons (e1 dNeg (eC (.d (.int 7)))) (aCons (e2 dPow (eC (.d (.int 10))) (eC (.d (.int 8)))) (aNil))))) (aCons (eN dTup (aCons (eC (.d (.str "ta"))) (aCons (eC (.d (.str "a"))) (aCons (eC (.d (.str "b"))) (aNil))))) (aCons (eN dTup (aCons (eC (.d (.str "tb"))) (aCons (eC (.d (.str "a"))) (aCons (eC (.d (.str "a"))) (aNil))))) (aCons (eN dTup (aCons (eC (.d (.str "nb"))) (aCons (eC (.d (.int 6))) (aCons (eC (.d (.int 9))) (aNil))))) (aNil)))))))) (aNil)))) (r8_l_case)
def r10_l_case : MS := sSeq (sSet 9 (eN cList (aCons (eN dList (aCons (eN dTup (aCons (eC (.d (.str "ta"))) (aCons (eC (.d (.str "q"))) (aNil)))) (aCons (eN dTup (aCons (eC (.d (.str "na"))) (aCons (eC (.d (.int 0))) (aNil)))) (aCons (eN dTup (aCons (eC (.d (.str "nb"))) (aCons (e1 dNeg (eC (.d (.int 1)))) (aNil)))) (aCons (eN dTup (aCons (eC (.d (.str "tb"))) (aCons (eC (.d (.str "a b"))) (aNil)))) (aNil)))))) (aCons (eN dList (aCons (eN dTup (aCons (eC (.d (.str "ta"))) (aNil))) (aCons (eN dTup (aCons (eC (.d (.str "tb"))) (aNil))) (aCons (eN dTup (aCons (eC (.d (.str "na"))) (aNil))) (aCons (eN dTup (aCons (eC (.d (.str "nb"))) (aNil))) (aNil)))))) (aNil))))) (r9_l_case)
def r11_l_case : MS := sSeq (sIf (tV (e2 (dEq false) (eVar 1) (eC (.d (.int 3))))) (sSeq (sSet 7 (eN (fCall 1 F_l_form) (aCons (eVar 0) (aNil)))) (r4_l_case)) (sNext)) (r10_l_case)
def r12_l_case : MS := sSeq (sIf (tV (e2 (dEq false) (eVar 1) (eC (.d (.int 2))))) (sRet (eN dTup (aCons (eN (fCall 4 F_l_spelled) (aCons (eVar 0) (aCons (eVar 5) (aCons (eVar 3) (aCons (e2 dDG (eVar 2) (eVar 3)) (aNil)))))) (aCons (e1 dFrzA (eVar 2)) (aNil))))) (sNext)) (r11_l_case)
def r13_l_case : MS := sSeq (sIf (tV (e2 (dEq false) (eVar 1) (eC (.d (.int 1))))) (sSeq (sSet 6 (eN dList (aCons (eN dTup (aCons (eC (.d (.str "ta"))) (aNil))) (aCons (eN dTup (aCons (eC (.d (.str "ta"))) (aCons (eC (.d (.str "tb"))) (aNil)))) (aCons (eN dTup (aCons (eC (.d (.str "tb"))) (aCons (eC (.d (.str "ta"))) (aCons (eC (.d (.str "tb"))) (aNil))))) (aCons (eN dTup (aCons (eC (.d (.str "tb"))) (aCons (eC (.d (.str "tb"))) (aCons (eC (.d (.str "ta"))) (aCons (eC (.d (.str "ta"))) (aNil)))))) (aNil))))))) (r1_l_case)) (sNext)) (r12_l_case)
def r14_l_case : MS := sSeq (sIf (tV (e2 (dEq false) (eVar 1) (eC (.d (.int 0))))) (sRet (eN dTup (aCons (eN dTup (aCons (eVar 5) (aCons (eC (.d (.str "cut"))) (aCons (eVar 3) (aCons (eVar 4) (aCons (eSl (eN dTup (aCons (eC (.d (.str "p"))) (aCons (eC (.d (.str "q"))) (aCons (eC (.d (.str "r"))) (aCons (eC (.d (.str "u"))) (aNil)))))) (oNone) (oSome (e2 dAdd (eC (.d (.int 2))) (eN (fCall 2 F_l_take) (aCons (eVar 0) (aCons (eC (.d (.int 3))) (aNil))))))) (aNil))))))) (aCons (e1 dFrzA (eVar 2)) (aNil))))) (sNext)) (r13_l_case)
def r15_l_case : MS := sSeq (sSet 5 (eN (fCall 2 F_l_of) (aCons (eVar 0) (aCons (eN dList (aCons (eC (.d (.str "s"))) (aCons (eC (.d (.str "st"))) (aCons (eC (.d (.str "zzzzzzzz"))) (aNil))))) (aNil))))) (r14_l_case)
def r16_l_case : MS := sSeq (sPar 3 4 (aCons (eN (fCall 2 F_l_of) (aCons (eVar 0) (aCons (eN dList (aCons (eC (.d (.str "ta"))) (aCons (eC (.d (.str "tb"))) (aNil)))) (aNil)))) (aCons (eN (fCall 2 F_l_of) (aCons (eVar 0) (aCons (eN dList (aCons (eC (.d (.str "-"))) (aCons (eC (.d (.str ","))) (aCons (eC (.d (.str " "))) (aCons (eC (.d (.str "'"))) (aCons (eC (.d (.str "a"))) (aNil))))))) (aNil)))) (aNil)))) (r15_l_case)
def r17_l_case : MS := sSeq (sSetD (eN (fCall 2 F_l_of) (aCons (eVar 0) (aCons (eN dList (aCons (eC (.d .none)) (aCons (eC (.d (.int 5))) (aCons (eC (.d (.int 6))) (aCons (e2 dDG (eVar 2) (eC (.d (.str "na")))) (aNil)))))) (aNil)))) (eVar 2) (eC (.d (.str "nb")))) (r16_l_case)
def B_l_case : MS := sSeq (sSet 2 (cDic (((eC (.d (.str "ta"))), (eN (fCall 2 F_l_text) (aCons (eVar 0) (aCons (eC (.d (.str "-"))) (aNil))))) :: ((eC (.d (.str "tb"))), (eN (fCall 2 F_l_text) (aCons (eVar 0) (aCons (eC (.d (.str ","))) (aNil))))) :: ((eC (.d (.str "na"))), (eN (fCall 2 F_l_of) (aCons (eVar 0) (aCons (eN dList (aCons (eC (.d .none)) (aCons (eC (.d (.int 0))) (aCons (eC (.d (.int 5))) (aCons (e1 dNeg (eC (.d (.int 7)))) (aCons (e2 dPow (eC (.d (.int 10))) (eC (.d (.int 8)))) (aNil))))))) (aNil))))) :: []))) (r17_l_case)
def F_l_case : OpN := runB 11 B_l_case
abbrev s_l_worth : Stmt := top 37
abbrev N_l_worth : List Str := ["_law_text_here"]
def B_l_worth : MS := sRet (eIf (tV (e2 (dEq true) (eM isStr dStripC (eVar 0) (aCons (eC (.d (.str " "))) (aNil))) (eC (.d (.str ""))))) (eM isStr dStripC (eVar 0) (aCons (eC (.d (.str " "))) (aNil))) (eC (.d .none)))
def F_l_worth : OpN := runB 1 B_l_worth
abbrev s_l_are_figures : Stmt := top 34
abbrev N_l_are_figures : List Str := ["_law_text_here", "_law_most", "_law_sign"]
def c1_l_are_figures : ME := e2 (dIn false) (eVar 2) (eC (.d (.str "0123456789")))
def B_l_are_figures : MS := sRet (eAnd (eChain dLe dLe (eC (.d (.int 1))) (eN dLen (aCons (eVar 0) (aNil))) (eVar 1)) (eN (dAll fun ks => ks.all id) (aCons (eLc dList (iSeq (eVar 0)) (gN 2) (tYesM) (c1_l_are_figures) [2]) (aNil))))
def F_l_are_figures : OpN := runB 3 B_l_are_figures
abbrev s_l_figures : Stmt := top 35
abbrev N_l_figures : List Str := ["_law_text_here", "_law_found", "_law_sign"]
def w1_l_figures : MS := sSet 1 (e2 dAdd (e2 dMulA (eVar 1) (eC (.d (.int 10)))) (eM isStr dIndexS (eC (.d (.str "0123456789"))) (aCons (eVar 2) (aNil))))
def r1_l_figures : MS := sRet (eVar 1)
def r2_l_figures : MS := sSeq (sFor (iSeq (eVar 0)) (gN 2) (w1_l_figures)) (r1_l_figures)
def B_l_figures : MS := sSeq (sSet 1 (eC (.d (.int 0)))) (r2_l_figures)
def F_l_figures : OpN := runB 3 B_l_figures
abbrev s_l_day : Stmt := top 36
abbrev N_l_day : List Str := ["_law_order", "_law_text_here", "_law_signs", "_law_parts", "_law_year", "_law_month", "_law_day_here", "_law_y", "_law_m", "_law_d", "_law_leap", "_law_months", "_law_sign", "_law_part"]
def c1_l_day : ME := eVar 12
def t1_l_day : MT := tV (e2 (dIn true) (eVar 12) (eC (.d (.str "0123456789"))))
def c2_l_day : ME := e2 dIx (eVar 3) (eM isStr dIndexS (eVar 0) (aCons (eVar 12) (aNil)))
def c3_l_day : ME := eChain dLe dLe (eC (.d (.int 1))) (eN dLen (aCons (eVar 13) (aNil))) (eC (.d (.int 2)))
def r1_l_day : MS := sRet (e2 dSub (e2 dAdd (e2 dAdd (e2 dAdd (e2 dSub (e2 dAdd (e2 dMulA (e2 dSub (eVar 7) (eC (.d (.int 1)))) (eC (.d (.int 365)))) (e2 dDiv (e2 dSub (eVar 7) (eC (.d (.int 1)))) (eC (.d (.int 4))))) (e2 dDiv (e2 dSub (eVar 7) (eC (.d (.int 1)))) (eC (.d (.int 100))))) (e2 dDiv (e2 dSub (eVar 7) (eC (.d (.int 1)))) (eC (.d (.int 400))))) (eN dSum (aCons (eSl (eVar 11) (oNone) (oSome (e2 dSub (eVar 8) (eC (.d (.int 1)))))) (aNil)))) (eVar 9)) (eC (.d (.int 1))))
def r2_l_day : MS := sSeq (sIf (tOrM (tV (e2 (dEq false) (eVar 7) (eC (.d (.int 0))))) (tOrM (tNotM (tV (eChain dLe dLe (eC (.d (.int 1))) (eVar 8) (eC (.d (.int 12)))))) (tNotM (tV (eChain dLe dLe (eC (.d (.int 1))) (eVar 9) (e2 dIx (eVar 11) (e2 dSub (eVar 8) (eC (.d (.int 1)))))))))) (sRet (eC (.d .none))) (sNext)) (r1_l_day)
def r3_l_day : MS := sSeq (sSet 11 (eN dList (aCons (eC (.d (.int 31))) (aCons (e2 dAdd (eC (.d (.int 28))) (eVar 10)) (aCons (eC (.d (.int 31))) (aCons (eC (.d (.int 30))) (aCons (eC (.d (.int 31))) (aCons (eC (.d (.int 30))) (aCons (eC (.d (.int 31))) (aCons (eC (.d (.int 31))) (aCons (eC (.d (.int 30))) (aCons (eC (.d (.int 31))) (aCons (eC (.d (.int 30))) (aCons (eC (.d (.int 31))) (aNil))))))))))))))) (r2_l_day)
def r4_l_day : MS := sSeq (sSet 10 (eN dInt (aCons (eAnd (e2 (dEq false) (e2 dMod (eVar 7) (eC (.d (.int 4)))) (eC (.d (.int 0)))) (eOr (e2 dGt (e2 dMod (eVar 7) (eC (.d (.int 100)))) (eC (.d (.int 0)))) (e2 (dEq false) (e2 dMod (eVar 7) (eC (.d (.int 400)))) (eC (.d (.int 0)))))) (aNil)))) (r3_l_day)
def r5_l_day : MS := sSeq (sPar3 7 8 9 (aCons (eN (fCall 1 F_l_figures) (aCons (eVar 4) (aNil))) (aCons (eN (fCall 1 F_l_figures) (aCons (eVar 5) (aNil))) (aCons (eN (fCall 1 F_l_figures) (aCons (eVar 6) (aNil))) (aNil))))) (r4_l_day)
def r6_l_day : MS := sSeq (sIf (tOrM (tV (e2 (dEq true) (eN dLen (aCons (eVar 4) (aNil))) (eC (.d (.int 4))))) (tNotM (tV (eN (dAll fun ks => ks.all id) (aCons (eLc dList (iSeq (eN dTup (aCons (eVar 5) (aCons (eVar 6) (aNil))))) (gN 13) (tYesM) (c3_l_day) [13]) (aNil)))))) (sRet (eC (.d .none))) (sNext)) (r5_l_day)
def r7_l_day : MS := sSeq (sAsg (eLc dList (iSeq (eC (.d (.str "ymd")))) (gN 12) (tYesM) (c2_l_day) [12]) (gL 3 (gsCons (gN 4) (gsCons (gN 5) (gsCons (gN 6) (gsNil)))))) (r6_l_day)
def r8_l_day : MS := sSeq (sSet 3 (eM isStr dSplit (eVar 1) (aCons (e2 dIx (eVar 2) (eC (.d (.int 0)))) (aNil)))) (r7_l_day)
def r9_l_day : MS := sSeq (sIf (tOrM (tV (e2 (dEq true) (eN dLen (aCons (eVar 2) (aNil))) (eC (.d (.int 2))))) (tOrM (tV (e2 (dEq true) (e2 dIx (eVar 2) (eC (.d (.int 0)))) (e2 dIx (eVar 2) (eC (.d (.int 1)))))) (tV (e2 (dIn true) (e2 dIx (eVar 2) (eC (.d (.int 0)))) (eC (.d (.str "-./"))))))) (sRet (eC (.d .none))) (sNext)) (r8_l_day)
def B_l_day : MS := sSeq (sSet 2 (eLc dList (iSeq (eVar 1)) (gN 12) (t1_l_day) (c1_l_day) [12])) (r9_l_day)
def F_l_day : OpN := runB 14 B_l_day
abbrev s_l_number : Stmt := top 33
abbrev N_l_number : List Str := ["_law_form_here", "_law_text_here", "_law_sign", "_law_rest", "_law_parts", "_law_last"]
def r1_l_number : MS := sRet (e2 dMulA (eVar 2) (eN (fCall 1 F_l_figures) (aCons (e2 dAdd (e2 dAdd (e2 dIx (eVar 4) (eC (.d (.int 0)))) (eVar 5)) (e2 dMulA (eC (.d (.str "0"))) (e2 dSub (e2 dIx (eVar 0) (eC (.d (.int 1)))) (eN dLen (aCons (eVar 5) (aNil)))))) (aNil))))
def r2_l_number : MS := sSeq (sSet 5 (eIf (tV (e2 (dEq false) (eN dLen (aCons (eVar 4) (aNil))) (eC (.d (.int 2))))) (e2 dIx (eVar 4) (eC (.d (.int 1)))) (eC (.d (.str ""))))) (r1_l_number)
def r3_l_number : MS := sSeq (sIf (tAndM (tV (e2 (dEq false) (eN dLen (aCons (eVar 4) (aNil))) (eC (.d (.int 2))))) (tNotM (tV (eN (fCall 2 F_l_are_figures) (aCons (e2 dIx (eVar 4) (eC (.d (.int 1)))) (aCons (e2 dIx (eVar 0) (eC (.d (.int 1)))) (aNil))))))) (sRet (eC (.d .none))) (sNext)) (r2_l_number)
def r4_l_number : MS := sSeq (sIf (tOrM (tV (e2 dGt (eN dLen (aCons (eVar 4) (aNil))) (eC (.d (.int 2))))) (tNotM (tV (eN (fCall 2 F_l_are_figures) (aCons (e2 dIx (eVar 4) (eC (.d (.int 0)))) (aCons (eC (.d (.int 8))) (aNil))))))) (sRet (eC (.d .none))) (sNext)) (r3_l_number)
def r5_l_number : MS := sRet (eN (fCall 2 F_l_day) (aCons (e2 dIx (eVar 0) (eC (.d (.int 1)))) (aCons (eVar 1) (aNil))))
def r6_l_number : MS := sSeq (sIf (tV (e2 (dEq false) (e2 dIx (eVar 0) (eC (.d (.int 0)))) (eC (.d (.str "amount"))))) (sSeq (sSet 4 (eM isStr dSplit (eVar 3) (aCons (eC (.d (.str "."))) (aNil)))) (r4_l_number)) (sNext)) (r5_l_number)
def r7_l_number : MS := sSeq (sIf (tV (e2 (dEq false) (e2 dIx (eVar 0) (eC (.d (.int 0)))) (eC (.d (.str "whole"))))) (sRet (eIf (tV (eN (fCall 2 F_l_are_figures) (aCons (eVar 3) (aCons (eC (.d (.int 9))) (aNil))))) (e2 dMulA (eVar 2) (eN (fCall 1 F_l_figures) (aCons (eVar 3) (aNil)))) (eC (.d .none)))) (sNext)) (r6_l_number)
def r8_l_number : MS := sSeq (sIf (tV (e2 (dIn false) (eSl (eVar 1) (oNone) (oSome (eC (.d (.int 1))))) (eN dTup (aCons (eC (.d (.str "+"))) (aCons (eC (.d (.str "-"))) (aNil)))))) (sPar 2 3 (aCons (e2 dSub (eC (.d (.int 1))) (e2 dMulA (eC (.d (.int 2))) (eN dInt (aCons (e2 (dEq false) (e2 dIx (eVar 1) (eC (.d (.int 0)))) (eC (.d (.str "-")))) (aNil))))) (aCons (eSl (eVar 1) (oSome (eC (.d (.int 1)))) (oNone)) (aNil)))) (sNext)) (r7_l_number)
def B_l_number : MS := sSeq (sPar 2 3 (aCons (eC (.d (.int 1))) (aCons (eVar 1) (aNil)))) (r8_l_number)
def F_l_number : OpN := runB 6 B_l_number
abbrev s_l_does : Stmt := top 38
abbrev N_l_does : List Str := ["_law_deed", "_law_here", "_law_word", "_law_column", "_law_own", "_law_parts", "_law_given", "_law_number_here", "_law_part", "_law_new", "_law_one", "_law_ahead", "_law_after"]
def c1_l_does : ME := eN (fCall 1 F_l_worth) (aCons (eVar 8) (aNil))
def c2_l_does : ME := eN dTup (aCons (eVar 9) (aCons (eC (.d .none)) (aNil)))
def r1_l_does : MS := sRet (eN dTup (aCons (eN dDictP (aCons (eLc dList (iSeq (e2 dIx (eVar 0) (eC (.d (.int 4))))) (gN 9) (tYesM) (c2_l_does) [9]) (aNil))) (aCons (eIsN true (eVar 4)) (aNil))))
def r2_l_does : MS := sSeq (sIf (tV (e2 (dEq false) (eN dLen (aCons (eVar 5) (aNil))) (eN dLen (aCons (e2 dIx (eVar 0) (eC (.d (.int 4)))) (aNil))))) (sRet (eN dTup (aCons (eN (dZipF finDat) (aCons (e2 dIx (eVar 0) (eC (.d (.int 4)))) (aCons (eVar 5) (aNil)))) (aCons (eC (.d (.bool false))) (aNil))))) (sNext)) (r1_l_does)
def c3_l_does : ME := e2 dDG (eVar 1) (eVar 10)
def t1_l_does : MT := tV (eIsN true (e2 dDG (eVar 1) (eVar 10)))
def r3_l_does : MS := sRet (eN dTup (aCons (eDic (((e2 dIx (eVar 0) (eC (.d (.int 4)))), (eIf (tV (e2 (dEq true) (eVar 5) (eN dList (aNil)))) (eM isStr dJoin (e2 dIx (eVar 0) (eC (.d (.int 3)))) (aCons (eVar 5) (aNil))) (eC (.d .none)))) :: [])) (aCons (eC (.d (.bool false))) (aNil))))
def c4_l_does : ME := eVar 12
def t2_l_does : MT := tV (e2 (dEq false) (eVar 11) (eVar 4))
def r4_l_does : MS := sRet (eN dTup (aCons (eDic (((eVar 3), (eIf (tV (e2 (dEq true) (eVar 6) (eN dList (aNil)))) (e2 dIx (eVar 6) (eC (.d (.int 0)))) (eVar 4))) :: [])) (aCons (eC (.d (.bool false))) (aNil))))
def r5_l_does : MS := sRet (eN dTup (aCons (eDic (((e2 dIx (eVar 0) (eC (.d (.int 4)))), (eVar 7)) :: [])) (aCons (eAnd (eIsN true (eVar 4)) (eIsN false (eVar 7))) (aNil))))
def r6_l_does : MS := sRet (eN dTup (aCons (eDic0) (aCons (eAnd (eIsN true (eVar 4)) (eAnd (eIsN true (e2 dDG (eVar 1) (e2 dIx (eVar 0) (eC (.d (.int 3)))))) (eNot (e2 dLt (eVar 4) (e2 dDG (eVar 1) (e2 dIx (eVar 0) (eC (.d (.int 3))))))))) (aNil))))
def r7_l_does : MS := sSeq (sIf (tV (e2 (dEq false) (eVar 2) (eC (.d (.str "among"))))) (sRet (eN dTup (aCons (eDic0) (aCons (eAnd (eIsN true (eVar 4)) (e2 (dIn true) (eVar 4) (e2 dIx (eVar 0) (eC (.d (.int 3)))))) (aNil))))) (sNext)) (r6_l_does)
def r8_l_does : MS := sSeq (sIf (tV (e2 (dEq false) (eVar 2) (eC (.d (.str "within"))))) (sRet (eN dTup (aCons (eDic0) (aCons (eAnd (eIsN true (eVar 4)) (eOr (e2 dLt (eVar 4) (e2 dIx (eVar 0) (eC (.d (.int 3))))) (e2 dLt (e2 dIx (eVar 0) (eC (.d (.int 4)))) (eVar 4)))) (aNil))))) (sNext)) (r7_l_does)
def r9_l_does : MS := sSeq (sIf (tV (e2 (dEq false) (eVar 2) (eC (.d (.str "given"))))) (sRet (eN dTup (aCons (eDic0) (aCons (eIsN false (eVar 4)) (aNil))))) (sNext)) (r8_l_does)
def r10_l_does : MS := sSeq (sIf (tV (e2 (dEq false) (eVar 2) (eC (.d (.str "put"))))) (sRet (eN dTup (aCons (eDic (((eVar 3), (eIf (tV (eIsN false (eVar 4))) (e2 dIx (eVar 0) (eC (.d (.int 3)))) (eVar 4))) :: [])) (aCons (eC (.d (.bool false))) (aNil))))) (sNext)) (r9_l_does)
def r11_l_does : MS := sSeq (sIf (tV (e2 (dEq false) (eVar 2) (eC (.d (.str "read"))))) (sSeq (sSet 7 (eIf (tV (eIsN true (eVar 4))) (eN (fCall 2 F_l_number) (aCons (e2 dIx (eVar 0) (eC (.d (.int 3)))) (aCons (eVar 4) (aNil)))) (eC (.d .none)))) (r5_l_does)) (sNext)) (r10_l_does)
def r12_l_does : MS := sSeq (sIf (tV (e2 (dEq false) (eVar 2) (eC (.d (.str "spell"))))) (sSeq (sSet 6 (eLc dList (iSeq (e2 dIx (eVar 0) (eC (.d (.int 3))))) (gT 2 (gsCons (gN 11) (gsCons (gN 12) (gsNil)))) (t2_l_does) (c4_l_does) [11, 12])) (r4_l_does)) (sNext)) (r11_l_does)
def r13_l_does : MS := sSeq (sIf (tV (e2 (dEq false) (eVar 2) (eC (.d (.str "glue"))))) (sSeq (sSet 5 (eLc dList (iSeq (eVar 3)) (gN 10) (t1_l_does) (c3_l_does) [10])) (r3_l_does)) (sNext)) (r12_l_does)
def r14_l_does : MS := sSeq (sIf (tV (e2 (dEq false) (eVar 2) (eC (.d (.str "cut"))))) (sSeq (sSet 5 (eIf (tV (eIsN true (eVar 4))) (eLc dList (iSeq (eM isStr dSplit (eVar 4) (aCons (e2 dIx (eVar 0) (eC (.d (.int 3)))) (aNil)))) (gN 8) (tYesM) (c1_l_does) [8]) (eN dList (aNil)))) (r2_l_does)) (sNext)) (r13_l_does)
def r15_l_does : MS := sSeq (sSet 4 (eIf (tV (e1 (dIsi "str") (eVar 3))) (e2 dDG (eVar 1) (eVar 3)) (eC (.d .none)))) (r14_l_does)
def B_l_does : MS := sSeq (sPar 2 3 (aCons (e2 dIx (eVar 0) (eC (.d (.int 1)))) (aCons (e2 dIx (eVar 0) (eC (.d (.int 2)))) (aNil)))) (r15_l_does)
def F_l_does : OpN := runB 13 B_l_does
abbrev s_l_told_right : Stmt := top 45
abbrev N_l_told_right : List Str := ["_law_told", "_law_due", "_law_some", "_law_column"]
def c1_l_told_right : ME := eN dTup (aCons (eVar 3) (aCons (eN dReprG (aCons (e2 dDG (e2 dIx (eVar 0) (eC (.d (.int 0)))) (eVar 3)) (aNil))) (aNil)))
def c2_l_told_right : ME := eN dTup (aCons (eVar 3) (aCons (eN dReprG (aCons (e2 dDG (e2 dIx (eVar 1) (eC (.d (.int 0)))) (eVar 3)) (aNil))) (aNil)))
def r1_l_told_right : MS := sRet (eAnd (e2 (dEq false) (eVar 2) (eLc dList (iSeq (eN dSortDk (aCons (e2 dIx (eVar 1) (eC (.d (.int 0)))) (aNil)))) (gN 3) (tYesM) (c2_l_told_right) [3])) (e2 (dEq false) (e2 dIx (eVar 0) (eC (.d (.int 1)))) (e2 dIx (eVar 1) (eC (.d (.int 1))))))
def r2_l_told_right : MS := sSeq (sSet 2 (eLc dList (iSeq (eN dSortDk (aCons (e2 dIx (eVar 0) (eC (.d (.int 0)))) (aNil)))) (gN 3) (tYesM) (c1_l_told_right) [3])) (r1_l_told_right)
def B_l_told_right : MS := sSeq (sIf (tOrM (tNotM (tV (e1 (dIsi "tuple") (eVar 0)))) (tOrM (tV (e2 (dEq true) (eN dLen (aCons (eVar 0) (aNil))) (eC (.d (.int 2))))) (tOrM (tNotM (tV (e1 (dIsi "dict") (e2 dIx (eVar 0) (eC (.d (.int 0))))))) (tNotM (tV (e1 (dIsi "bool") (e2 dIx (eVar 0) (eC (.d (.int 1)))))))))) (sRet (eC (.d (.bool false)))) (sNext)) (r2_l_told_right)
def F_l_told_right : OpN := runB 4 B_l_told_right
abbrev s_cell_worth : Stmt := top 16
abbrev N_cell_worth : List Str := ["text", "bare"]
def r1_cell_worth : MS := sRet (eIf (tV (e2 (dEq true) (eVar 1) (eC (.d (.str ""))))) (eVar 1) (eC (.d .none)))
def B_cell_worth : MS := sSeq (sSet 1 (eM isStr dStripC (eVar 0) (aCons (eC (.d (.str " "))) (aNil)))) (r1_cell_worth)
def F_cell_worth : OpN := runB 2 B_cell_worth
abbrev s_cut_step : Stmt := top 18
abbrev N_cut_step : List Str := ["step", "worths", "name", "word", "column", "sign", "news", "text", "parts", "part", "new"]
def c1_cut_step : ME := eN (fCall 1 F_cell_worth) (aCons (eVar 9) (aNil))
def r1_cut_step : MS := sRet (eN dTup (aCons (eDc (iSeq (eVar 6)) (gN 10) (tYesM) (eVar 10) (eC (.d .none)) [10]) (aCons (eIsN true (eVar 7)) (aNil))))
def r2_cut_step : MS := sSeq (sIf (tV (e2 (dEq false) (eN dLen (aCons (eVar 8) (aNil))) (eN dLen (aCons (eVar 6) (aNil))))) (sRet (eN dTup (aCons (eN (dZipF finDat) (aCons (eVar 6) (aCons (eVar 8) (aNil)))) (aCons (eC (.d (.bool false))) (aNil))))) (sNext)) (r1_cut_step)
def r3_cut_step : MS := sSeq (sSet 8 (eIf (tV (eIsN false (eVar 7))) (eN dList (aNil)) (eLc dList (iSeq (eM isStr dSplit (eVar 7) (aCons (eVar 5) (aNil)))) (gN 9) (tYesM) (c1_cut_step) [9]))) (r2_cut_step)
def r4_cut_step : MS := sSeq (sSet 7 (e2 dDG (eVar 1) (eVar 4))) (r3_cut_step)
def B_cut_step : MS := sSeq (sAsg (eVar 0) (gT 5 (gsCons (gN 2) (gsCons (gN 3) (gsCons (gN 4) (gsCons (gN 5) (gsCons (gN 6) (gsNil)))))))) (r4_cut_step)
def F_cut_step : OpN := runB 11 B_cut_step
abbrev s_glue_step : Stmt := top 19
abbrev N_glue_step : List Str := ["step", "worths", "name", "word", "columns", "sign", "new", "texts", "column"]
def c1_glue_step : ME := e2 dDG (eVar 1) (eVar 8)
def t1_glue_step : MT := tV (eIsN true (e2 dDG (eVar 1) (eVar 8)))
def r1_glue_step : MS := sRet (eN dTup (aCons (eDic (((eVar 6), (eIf (tV (e2 (dEq true) (eVar 7) (eN dList (aNil)))) (eM isStr dJoin (eVar 5) (aCons (eVar 7) (aNil))) (eC (.d .none)))) :: [])) (aCons (eC (.d (.bool false))) (aNil))))
def r2_glue_step : MS := sSeq (sSet 7 (eLc dList (iSeq (eVar 4)) (gN 8) (t1_glue_step) (c1_glue_step) [8])) (r1_glue_step)
def B_glue_step : MS := sSeq (sAsg (eVar 0) (gT 5 (gsCons (gN 2) (gsCons (gN 3) (gsCons (gN 4) (gsCons (gN 5) (gsCons (gN 6) (gsNil)))))))) (r2_glue_step)
def F_glue_step : OpN := runB 9 B_glue_step
abbrev s_spell_step : Stmt := top 20
abbrev N_spell_step : List Str := ["step", "worths", "name", "word", "column", "pairs", "text", "told"]
def r1_spell_step : MS := sRet (eN dTup (aCons (eDic (((eVar 4), (eGet2 (eVar 7) (eVar 6) (eVar 6))) :: [])) (aCons (eC (.d (.bool false))) (aNil))))
def r2_spell_step : MS := sSeq (sSet 7 (eN dDictP (aCons (eVar 5) (aNil)))) (r1_spell_step)
def r3_spell_step : MS := sSeq (sSet 6 (e2 dDG (eVar 1) (eVar 4))) (r2_spell_step)
def B_spell_step : MS := sSeq (sAsg (eVar 0) (gT 4 (gsCons (gN 2) (gsCons (gN 3) (gsCons (gN 4) (gsCons (gN 5) (gsNil))))))) (r3_spell_step)
def F_spell_step : OpN := runB 8 B_spell_step
abbrev s_are_figures : Stmt := top 6
abbrev N_are_figures : List Str := ["text", "least", "most", "sign"]
def c1_are_figures : ME := e2 (dIn false) (eVar 3) (eC (.d (.str "0123456789")))
def B_are_figures : MS := sRet (eAnd (eChain dLe dLe (eVar 1) (eN dLen (aCons (eVar 0) (aNil))) (eVar 2)) (eN (dAll fun ks => ks.all id) (aCons (eLc dList (iSeq (eVar 0)) (gN 3) (tYesM) (c1_are_figures) [3]) (aNil))))
def F_are_figures : OpN := runB 4 B_are_figures
abbrev s_read_whole : Stmt := top 7
abbrev N_read_whole : List Str := ["text", "most", "body"]
def r1_read_whole : MS := sRet (eIf (tV (e2 (dEq false) (e2 dIx (eVar 0) (eC (.d (.int 0)))) (eC (.d (.str "-"))))) (e1 dNeg (eN dInt (aCons (eVar 2) (aNil)))) (eN dInt (aCons (eVar 2) (aNil))))
def r2_read_whole : MS := sSeq (sIf (tNotM (tV (eN (fCall 3 F_are_figures) (aCons (eVar 2) (aCons (eC (.d (.int 1))) (aCons (eVar 1) (aNil))))))) (sRet (eC (.d .none))) (sNext)) (r1_read_whole)
def B_read_whole : MS := sSeq (sSet 2 (eIf (tV (e2 (dIn false) (eSl (eVar 0) (oNone) (oSome (eC (.d (.int 1))))) (eN dTup (aCons (eC (.d (.str "+"))) (aCons (eC (.d (.str "-"))) (aNil)))))) (eSl (eVar 0) (oSome (eC (.d (.int 1)))) (oNone)) (eVar 0))) (r2_read_whole)
def F_read_whole : OpN := runB 3 B_read_whole
abbrev s_read_amount : Stmt := top 8
abbrev N_read_amount : List Str := ["text", "places", "ahead", "point", "behind"]
def r1_read_amount : MS := sRet (eN (fCall 2 F_read_whole) (aCons (e2 dAdd (eVar 2) (eM isStr (dPadF Txt.ljustF) (eVar 4) (aCons (eVar 1) (aCons (eC (.d (.str "0"))) (aNil))))) (aCons (e2 dAdd (eC (.d (.int 8))) (eVar 1)) (aNil))))
def r2_read_amount : MS := sSeq (sIf (tV (eIsN false (eN (fCall 2 F_read_whole) (aCons (eVar 2) (aCons (eC (.d (.int 8))) (aNil)))))) (sRet (eC (.d .none))) (sNext)) (r1_read_amount)
def r3_read_amount : MS := sSeq (sIf (tAndM (tV (e2 (dEq true) (eVar 3) (eC (.d (.str ""))))) (tNotM (tV (eN (fCall 3 F_are_figures) (aCons (eVar 4) (aCons (eC (.d (.int 1))) (aCons (eVar 1) (aNil)))))))) (sRet (eC (.d .none))) (sNext)) (r2_read_amount)
def B_read_amount : MS := sSeq (sPart (eVar 0) (eC (.d (.str "."))) (gsCons (gN 2) (gsCons (gN 3) (gsCons (gN 4) (gsNil))))) (r3_read_amount)
def F_read_amount : OpN := runB 5 B_read_amount
abbrev s_is_leap : Stmt := top 9
abbrev N_is_leap : List Str := ["year"]
def B_is_leap : MS := sRet (eAnd (e2 (dEq false) (e2 dMod (eVar 0) (eC (.d (.int 4)))) (eC (.d (.int 0)))) (eOr (e2 (dEq true) (e2 dMod (eVar 0) (eC (.d (.int 100)))) (eC (.d (.int 0)))) (e2 (dEq false) (e2 dMod (eVar 0) (eC (.d (.int 400)))) (eC (.d (.int 0))))))
def F_is_leap : OpN := runB 1 B_is_leap
abbrev s_month_days : Stmt := top 11
abbrev N_month_days : List Str := ["year", "month"]
def B_month_days : MS := sRet (e2 dAdd (e2 dIx (eC (.d (.tuple [.int 31, .int 28, .int 31, .int 30, .int 31, .int 30, .int 31, .int 31, .int 30, .int 31, .int 30, .int 31]))) (e2 dSub (eVar 1) (eC (.d (.int 1))))) (eN dInt (aCons (eAnd (e2 (dEq false) (eVar 1) (eC (.d (.int 2)))) (eN (fCall 1 F_is_leap) (aCons (eVar 0) (aNil)))) (aNil))))
def F_month_days : OpN := runB 2 B_month_days
abbrev s_days_ahead : Stmt := top 10
abbrev N_days_ahead : List Str := ["year", "ahead"]
def r1_days_ahead : MS := sRet (e2 dAdd (e2 dSub (e2 dAdd (e2 dMulA (eC (.d (.int 365))) (eVar 1)) (e2 dDiv (eVar 1) (eC (.d (.int 4))))) (e2 dDiv (eVar 1) (eC (.d (.int 100))))) (e2 dDiv (eVar 1) (eC (.d (.int 400)))))
def B_days_ahead : MS := sSeq (sSet 1 (e2 dSub (eVar 0) (eC (.d (.int 1))))) (r1_days_ahead)
def F_days_ahead : OpN := runB 2 B_days_ahead
abbrev s_day_number : Stmt := top 12
abbrev N_day_number : List Str := ["year", "month", "day", "one"]
def c1_day_number : ME := eN (fCall 2 F_month_days) (aCons (eVar 0) (aCons (eVar 3) (aNil)))
def r1_day_number : MS := sRet (e2 dSub (e2 dAdd (e2 dAdd (eN (fCall 1 F_days_ahead) (aCons (eVar 0) (aNil))) (eN dSum (aCons (eLc dList (iRng rng2 (aCons (eC (.d (.int 1))) (aCons (eVar 1) (aNil)))) (gN 3) (tYesM) (c1_day_number) [3]) (aNil)))) (eVar 2)) (eC (.d (.int 1))))
def B_day_number : MS := sSeq (sIf (tOrM (tV (e2 (dEq false) (eVar 0) (eC (.d (.int 0))))) (tOrM (tNotM (tV (eChain dLe dLe (eC (.d (.int 1))) (eVar 1) (eN dLen (aCons (eC (.d (.tuple [.int 31, .int 28, .int 31, .int 30, .int 31, .int 30, .int 31, .int 31, .int 30, .int 31, .int 30, .int 31]))) (aNil)))))) (tNotM (tV (eChain dLe dLe (eC (.d (.int 1))) (eVar 2) (eN (fCall 2 F_month_days) (aCons (eVar 0) (aCons (eVar 1) (aNil))))))))) (sRet (eC (.d .none))) (sNext)) (r1_day_number)
def F_day_number : OpN := runB 4 B_day_number
abbrev s_read_day : Stmt := top 13
abbrev N_read_day : List Str := ["text", "order", "sign", "parts", "told", "letter", "part", "one"]
def c1_read_day : ME := eN (fCall 3 F_are_figures) (aCons (e2 dDG (eVar 4) (eVar 7)) (aCons (eC (.d (.int 1))) (aCons (eC (.d (.int 2))) (aNil))))
def r1_read_day : MS := sRet (eN (fCall 3 F_day_number) (aCons (eN dInt (aCons (e2 dDG (eVar 4) (eC (.d (.str "y")))) (aNil))) (aCons (eN dInt (aCons (e2 dDG (eVar 4) (eC (.d (.str "m")))) (aNil))) (aCons (eN dInt (aCons (e2 dDG (eVar 4) (eC (.d (.str "d")))) (aNil))) (aNil)))))
def r2_read_day : MS := sSeq (sIf (tOrM (tNotM (tV (eN (fCall 3 F_are_figures) (aCons (e2 dDG (eVar 4) (eC (.d (.str "y")))) (aCons (eC (.d (.int 4))) (aCons (eC (.d (.int 4))) (aNil))))))) (tNotM (tV (eN (dAll fun ks => ks.all id) (aCons (eLc dList (iSeq (eC (.d (.str "md")))) (gN 7) (tYesM) (c1_read_day) [7]) (aNil)))))) (sRet (eC (.d .none))) (sNext)) (r1_read_day)
def r3_read_day : MS := sIf (tV (e2 (dEq false) (eN dLen (aCons (eVar 3) (aNil))) (eC (.d (.int 3))))) (sSeq (sSet 4 (eDc (iRng zipD (aCons (eVar 1) (aCons (eVar 3) (aNil)))) (gT 2 (gsCons (gN 5) (gsCons (gN 6) (gsNil)))) (tYesM) (eVar 5) (eVar 6) [5, 6])) (r2_read_day)) (sNext)
def w1_read_day : MS := sSeq (sSet 3 (eM isStr dSplit (eVar 0) (aCons (eVar 2) (aNil)))) (r3_read_day)
def r4_read_day : MS := sRet (eC (.d .none))
def B_read_day : MS := sSeq (sFor (iSeq (eC (.d (.str "-./")))) (gN 2) (w1_read_day)) (r4_read_day)
def F_read_day : OpN := runB 8 B_read_day
abbrev s_read_as : Stmt := top 14
abbrev N_read_as : List Str := ["form", "text", "word", "rest"]
def r1_read_as : MS := sRet (eIf (tV (e2 (dEq false) (eVar 2) (eC (.d (.str "amount"))))) (eN (fCall 2 F_read_amount) (aCons (eVar 1) (aCons (e2 dIx (eVar 3) (eC (.d (.int 0)))) (aNil)))) (eN (fCall 2 F_read_day) (aCons (eVar 1) (aCons (e2 dIx (eVar 3) (eC (.d (.int 0)))) (aNil)))))
def r2_read_as : MS := sSeq (sIf (tV (e2 (dEq false) (eVar 2) (eC (.d (.str "whole"))))) (sRet (eN (fCall 2 F_read_whole) (aCons (eVar 1) (aCons (eC (.d (.int 9))) (aNil))))) (sNext)) (r1_read_as)
def B_read_as : MS := sSeq (sAsg (eVar 0) (gStar 1 (gsCons (gN 2) (gsCons (gN 3) (gsNil))))) (r2_read_as)
def F_read_as : OpN := runB 4 B_read_as
abbrev s_read_step : Stmt := top 21
abbrev N_read_step : List Str := ["step", "worths", "name", "word", "column", "form", "new", "text", "number"]
def r1_read_step : MS := sRet (eN dTup (aCons (eDic (((eVar 6), (eVar 8)) :: [])) (aCons (eAnd (eIsN true (eVar 7)) (eIsN false (eVar 8))) (aNil))))
def r2_read_step : MS := sSeq (sSet 8 (eIf (tV (eIsN false (eVar 7))) (eC (.d .none)) (eN (fCall 2 F_read_as) (aCons (eVar 5) (aCons (eVar 7) (aNil)))))) (r1_read_step)
def r3_read_step : MS := sSeq (sSet 7 (e2 dDG (eVar 1) (eVar 4))) (r2_read_step)
def B_read_step : MS := sSeq (sAsg (eVar 0) (gT 5 (gsCons (gN 2) (gsCons (gN 3) (gsCons (gN 4) (gsCons (gN 5) (gsCons (gN 6) (gsNil)))))))) (r3_read_step)
def F_read_step : OpN := runB 9 B_read_step
abbrev s_put_step : Stmt := top 22
abbrev N_put_step : List Str := ["step", "worths", "name", "word", "column", "worth", "kept"]
def r1_put_step : MS := sRet (eN dTup (aCons (eDic (((eVar 4), (eIf (tV (eIsN false (eVar 6))) (eVar 5) (eVar 6))) :: [])) (aCons (eC (.d (.bool false))) (aNil))))
def r2_put_step : MS := sSeq (sSet 6 (e2 dDG (eVar 1) (eVar 4))) (r1_put_step)
def B_put_step : MS := sSeq (sAsg (eVar 0) (gT 4 (gsCons (gN 2) (gsCons (gN 3) (gsCons (gN 4) (gsCons (gN 5) (gsNil))))))) (r2_put_step)
def F_put_step : OpN := runB 7 B_put_step
abbrev s_given_step : Stmt := top 23
abbrev N_given_step : List Str := ["step", "worths"]
def B_given_step : MS := sRet (eN dTup (aCons (eDic0) (aCons (eIsN false (e2 dDG (eVar 1) (e2 dIx (eVar 0) (eC (.d (.int 2)))))) (aNil))))
def F_given_step : OpN := runB 2 B_given_step
abbrev s_within_step : Stmt := top 24
abbrev N_within_step : List Str := ["step", "worths", "name", "word", "column", "low", "high", "kept"]
def r1_within_step : MS := sRet (eN dTup (aCons (eDic0) (aCons (eAnd (eIsN true (eVar 7)) (eNot (eChain dLe dLe (eVar 5) (eVar 7) (eVar 6)))) (aNil))))
def r2_within_step : MS := sSeq (sSet 7 (e2 dDG (eVar 1) (eVar 4))) (r1_within_step)
def B_within_step : MS := sSeq (sAsg (eVar 0) (gT 5 (gsCons (gN 2) (gsCons (gN 3) (gsCons (gN 4) (gsCons (gN 5) (gsCons (gN 6) (gsNil)))))))) (r2_within_step)
def F_within_step : OpN := runB 8 B_within_step
abbrev s_among_step : Stmt := top 25
abbrev N_among_step : List Str := ["step", "worths", "name", "word", "column", "told", "kept"]
def r1_among_step : MS := sRet (eN dTup (aCons (eDic0) (aCons (eAnd (eIsN true (eVar 6)) (e2 (dIn true) (eVar 6) (eVar 5))) (aNil))))
def r2_among_step : MS := sSeq (sSet 6 (e2 dDG (eVar 1) (eVar 4))) (r1_among_step)
def B_among_step : MS := sSeq (sAsg (eVar 0) (gT 4 (gsCons (gN 2) (gsCons (gN 3) (gsCons (gN 4) (gsCons (gN 5) (gsNil))))))) (r2_among_step)
def F_among_step : OpN := runB 7 B_among_step
abbrev s_before_step : Stmt := top 26
abbrev N_before_step : List Str := ["step", "worths", "name", "word", "one", "other", "first", "second"]
def r1_before_step : MS := sRet (eN dTup (aCons (eDic0) (aCons (eAnd (eIsN true (eVar 6)) (eAnd (eIsN true (eVar 7)) (e2 dGe (eVar 6) (eVar 7)))) (aNil))))
def r2_before_step : MS := sSeq (sPar 6 7 (aCons (e2 dDG (eVar 1) (eVar 4)) (aCons (e2 dDG (eVar 1) (eVar 5)) (aNil)))) (r1_before_step)
def B_before_step : MS := sSeq (sAsg (eVar 0) (gT 4 (gsCons (gN 2) (gsCons (gN 3) (gsCons (gN 4) (gsCons (gN 5) (gsNil))))))) (r2_before_step)
def F_before_step : OpN := runB 8 B_before_step
abbrev s_done : Stmt := top 28
abbrev N_done : List Str := ["step", "worths", "doing"]
def tab_DONE : List (Str × Nat) := [("cut", 0), ("glue", 1), ("spell", 2), ("read", 3), ("put", 4), ("given", 5), ("within", 6), ("among", 7), ("before", 8)]
def Fs_DONE : Nat → Option OpN
  | 0 => some F_cut_step
  | 1 => some F_glue_step
  | 2 => some F_spell_step
  | 3 => some F_read_step
  | 4 => some F_put_step
  | 5 => some F_given_step
  | 6 => some F_within_step
  | 7 => some F_among_step
  | 8 => some F_before_step
  | _ => none
def r1_done : MS := sRet (eCallV 2 2 Fs_DONE (aCons (eVar 0) (aCons (eVar 1) (aNil))))
def B_done : MS := sSeq (sSet 2 (e1 (dFTab tab_DONE) (e2 dIx (eVar 0) (eC (.d (.int 1)))))) (r1_done)
def F_done : OpN := runB 3 B_done
abbrev s_law : Stmt := top 46
abbrev N_law : List Str := ["_law_script", "_law_k", "_law_hand_here", "_law_first", "_law_turn", "_law_one", "_law_here", "_law_kept", "_law_due"]
def r1_law : MS := sIf (tV (e2 (dEq true) (eN dReprG (aCons (eN dTup (aCons (eVar 5) (aCons (eVar 6) (aNil)))) (aNil))) (eVar 7))) (sRet (eC (.d (.bool false)))) (sNext)
def r2_law : MS := sSeq (sIf (tOrM (tNotM (tV (eN (fCall 2 F_l_told_right) (aCons (eN (fCall 2 F_done) (aCons (eVar 5) (aCons (eVar 6) (aNil)))) (aCons (eVar 8) (aNil)))))) (tNotM (tV (eN (fCall 2 F_l_told_right) (aCons (eCallK 2 2 [1, 0] F_done aNil (aCons (eVar 6) (aCons (eVar 5) (aNil)))) (aCons (eVar 8) (aNil))))))) (sRet (eC (.d (.bool false)))) (sNext)) (r1_law)
def r3_law : MS := sSeq (sPar 7 8 (aCons (eN dReprG (aCons (eN dTup (aCons (eVar 5) (aCons (eVar 6) (aNil)))) (aNil))) (aCons (eN (fCall 2 F_l_does) (aCons (eVar 5) (aCons (eVar 6) (aNil)))) (aNil)))) (r2_law)
def w1_law : MS := sSeq (sAsg (eN (fCall 2 F_l_case) (aCons (eVar 2) (aCons (e2 dMod (e2 dAdd (eVar 3) (eVar 4)) (eC (.d (.int 9)))) (aNil)))) (gT 2 (gsCons (gN 5) (gsCons (gN 6) (gsNil))))) (r3_law)
def r4_law : MS := sFor (iRng rng1 (aCons (eC (.d (.int 18))) (aNil))) (gN 4) (w1_law)
def r5_law : MS := sSeq (sSet 3 (eN (fCall 2 F_l_take) (aCons (eVar 2) (aCons (eC (.d (.int 9))) (aNil))))) (r4_law)
def w2_law : MS := sSeq (sSet 2 (eN (fCall 2 F_l_hand) (aCons (eVar 0) (aCons (eVar 1) (aNil))))) (r5_law)
def r6_law : MS := sRet (eC (.d (.bool true)))
def B_law : MS := sSeq (sFor (iRng rng1 (aCons (eN dMax (aCons (eC (.d (.int 1))) (aCons (eN dMin (aCons (eC (.d (.int 6))) (aCons (eN dLen (aCons (eVar 0) (aNil))) (aNil)))) (aNil)))) (aNil))) (gN 1) (w2_law)) (r6_law)
def F_law : OpN := runB 9 B_law
abbrev GG (K : PySem.W.Frag) (fa : Nat → Option Addr) : GT := ⟨K, fa⟩
structure Tx (K : PySem.W.Frag) (mg : Str → Option Value) : Prop where
  b_abs : mg "abs" = none
  b_all : mg "all" = none
  b_bool : mg "bool" = none
  b_dict : mg "dict" = none
  b_int : mg "int" = none
  b_isinstance : mg "isinstance" = none
  b_len : mg "len" = none
  b_max : mg "max" = none
  b_min : mg "min" = none
  b_range : mg "range" = none
  b_repr : mg "repr" = none
  b_sorted : mg "sorted" = none
  b_str : mg "str" = none
  b_sum : mg "sum" = none
  b_tuple : mg "tuple" = none
  b_zip : mg "zip" = none
  c_FIGURES : ∃ t, mg "FIGURES" = some (.str "0123456789" t)
  c_MONTHS : ∃ a, mg "MONTHS" = some (.ref a) ∧ ∀ I : Hp, Rp K I (.ref a) (.tuple [.int 31, .int 28, .int 31, .int 30, .int 31, .int 30, .int 31, .int 31, .int 30, .int 31, .int 30, .int 31])
  c_MOST_AMOUNT : ∃ t, mg "MOST_AMOUNT" = some (.int 8 t)
  c_MOST_WHOLE : ∃ t, mg "MOST_WHOLE" = some (.int 9 t)
  c_PARTINGS : ∃ t, mg "PARTINGS" = some (.str "-./" t)
section
variable {P : Program} {w : World} {K : PySem.W.Frag} {mg : Str → Option Value} {base : Heap} {fa : Nat → Option Addr}
theorem sc_l_hand : FnScope N_l_hand ["_law_script", "_law_k"] (defScope s_l_hand) := ⟨rfl, rfl, rfl, by decide +kernel, rfl, by decide +kernel, by decide +kernel⟩
theorem ok_l_hand {f : Addr} {fd : FuncData} (F : Fun K "_law_hand" "_law_hand" s_l_hand f fd) (T : Tx K mg) : FnG P w K mg base 1 f fd ["_law_script", "_law_k"] (spD (GG K fa) 2 F_l_hand) := by
  have sc := sc_l_hand
  refine fn_okG (G := GG K fa) F sc fun cdv A outer s H E g hr tk po => ?_
  exact dss_cons (ds_set (i := 2) sc.nd (de_ifExp (dt_cmp op_ltA ok_cmp (de_var 1) (de_callB call_len ok_len (by rfl) T.b_len (by decide +kernel) (da_cons (de_var 0) (da_nil)))) (de_ix ix_seq ok_ix (de_var 0) (de_var 1)) (de_op op_addA ok_add (de_op op_mulA ok_mulA (de_int) (de_var 1)) (de_callB call_len ok_len (by rfl) T.b_len (by decide +kernel) (da_cons (de_var 0) (da_nil)))))) (dss_cons (ds_set (i := 3) sc.nd (de_op op_mulA ok_mulA (de_op op_mod ok_mod (de_callB call_abs ok_abs (by rfl) T.b_abs (by decide +kernel) (da_cons (de_var 2) (da_nil))) (de_op op_powW ok_powW (de_op op_powW ok_powW (de_int) (de_int)) (de_int))) (de_callTy call_intA ok_int (by rfl) T.b_int (by decide +kernel) (da_cons (de_cmp op_geA ok_cmp (de_callB call_abs ok_abs (by rfl) T.b_abs (by decide +kernel) (da_cons (de_var 2) (da_nil))) (de_op op_powW ok_powW (de_int) (de_int))) (da_nil))))) (dss_one (ds_ret (de_lstC (da_cons (de_var 3) (da_cons (de_op op_mod ok_mod (de_op op_addA ok_add (de_op op_addA ok_add (de_op op_mod ok_mod (de_var 2) (de_int)) (de_op op_mulA ok_mulA (de_int) (de_var 1))) (de_int)) (de_int)) (da_cons (de_int) (da_nil))))))))
theorem sc_l_take : FnScope N_l_take ["_law_hand_here", "_law_many"] (defScope s_l_take) := ⟨rfl, rfl, rfl, by decide +kernel, rfl, by decide +kernel, by decide +kernel⟩
theorem ok_l_take {f : Addr} {fd : FuncData} (F : Fun K "_law_take" "_law_take" s_l_take f fd) (T : Tx K mg) : FnG P w K mg base 1 f fd ["_law_hand_here", "_law_many"] (spD (GG K fa) 2 F_l_take) := by
  have sc := sc_l_take
  refine fn_okG (G := GG K fa) F sc fun cdv A outer s H E g hr tk po => ?_
  exact dss_cons (ds_if (dt_cmp op_gtA ok_cmp (de_ix ix_seq ok_ix (de_var 0) (de_int)) (de_int)) (dss_cons (ds_set (i := 2) sc.nd (de_op op_mod ok_mod (de_ix ix_seq ok_ix (de_var 0) (de_int)) (de_var 1))) (dss_cons (ds_setIx (de_op op_fdivW ok_div (de_ix ix_seq ok_ix (de_var 0) (de_int)) (de_var 1)) (de_var 0) (de_int)) (dss_one (ds_ret (de_var 2))))) (dss_nil)) (dss_cons (ds_setIx (de_op op_addA ok_add (de_ix ix_seq ok_ix (de_var 0) (de_int)) (de_int)) (de_var 0) (de_int)) (dss_cons (ds_set (i := 3) sc.nd (de_lst (da_cons (de_int) (da_cons (de_int) (da_cons (de_int) (da_cons (de_int) (da_cons (de_int) (da_cons (de_int) (da_cons (de_int) (da_cons (de_int) (da_nil))))))))))) (dss_cons (ds_set (i := 4) sc.nd (de_ix ix_seq ok_ix (de_var 3) (de_op op_mod ok_mod (de_ix ix_seq ok_ix (de_var 0) (de_int)) (de_int)))) (dss_cons (ds_set (i := 5) sc.nd (de_op op_mod ok_mod (de_op op_pow ok_pow (de_op op_addA ok_add (de_ix ix_seq ok_ix (de_var 0) (de_int)) (de_op op_mulA ok_mulA (de_int) (de_ix ix_seq ok_ix (de_var 0) (de_int)))) (de_int)) (de_var 4))) (dss_one (ds_ret (de_op op_mod ok_mod (de_op op_fdivW ok_div (de_op op_mod ok_mod (de_op op_mulA ok_mulA (de_var 5) (de_op op_addA ok_add (de_op op_mod ok_mod (de_var 5) (de_int)) (de_ix ix_seq ok_ix (de_var 0) (de_int)))) (de_var 4)) (de_int)) (de_var 1))))))))
theorem sc_l_of : FnScope N_l_of ["_law_hand_here", "_law_some"] (defScope s_l_of) := ⟨rfl, rfl, rfl, by decide +kernel, rfl, by decide +kernel, by decide +kernel⟩
theorem ok_l_of {f : Addr} {fd : FuncData} (F : Fun K "_law_of" "_law_of" s_l_of f fd) (T : Tx K mg) (C_l_take : Cal P w (GG K fa) mg base "_law_take" 1 ["_law_hand_here", "_law_many"] [] F_l_take) : FnG P w K mg base 2 f fd ["_law_hand_here", "_law_some"] (spD (GG K fa) 2 F_l_of) := by
  have sc := sc_l_of
  refine fn_okG (G := GG K fa) F sc fun cdv A outer s H E g hr tk po => ?_
  exact dss_one (ds_ret (de_ix ix_seq ok_ix (de_var 1) (de_calC rfl C_l_take (by exact g) (by exact hr.mono (by decide)) tk (by rfl) (da_cons (de_var 0) (da_cons (de_callB call_len ok_len (by rfl) T.b_len (by decide +kernel) (da_cons (de_var 1) (da_nil))) (da_nil))))))
theorem sc_l_text : FnScope N_l_text ["_law_hand_here", "_law_sign"] (defScope s_l_text) := ⟨rfl, rfl, rfl, by decide +kernel, rfl, by decide +kernel, by decide +kernel⟩
theorem ok_l_text {f : Addr} {fd : FuncData} (F : Fun K "_law_text" "_law_text" s_l_text f fd) (T : Tx K mg) (C_l_take : Cal P w (GG K fa) mg base "_law_take" 1 ["_law_hand_here", "_law_many"] [] F_l_take) (C_l_of : Cal P w (GG K fa) mg base "_law_of" 2 ["_law_hand_here", "_law_some"] [] F_l_of) : FnG P w K mg base 3 f fd ["_law_hand_here", "_law_sign"] (spD (GG K fa) 2 F_l_text) := by
  have sc := sc_l_text
  refine fn_okG (G := GG K fa) F sc fun cdv A outer s H E g hr tk po => ?_
  exact dss_cons (ds_setLc (i := 2) [("_law_k", 4)] fin_list rfl sc.nd (di_range1 (by rfl) T.b_range (da_cons (de_op op_addA ok_add (de_int) (de_calC rfl C_l_take (by exact g) (by exact hr.mono (by decide)) tk (by rfl) (da_cons (de_var 0) (da_cons (de_int) (da_nil))))) (da_nil))) (blkOk_by (N := N_l_text) (sc := defScope s_l_text) (by decide +kernel)) (fun _ _ _ _ _ => dg_name (i := 4) sc.nd) (fun _ _ _ _ _ => dts_nil) (fun _ _ _ _ _ => de_calC rfl C_l_of (by exact g) (by exact hr.mono (by decide)) takes0 (by rfl) (da_cons (de_var 0) (da_cons (de_lst (da_cons (de_str) (da_cons (de_str) (da_cons (de_str) (da_cons (de_str) (da_cons (de_str) (da_cons (de_str) (da_nil)))))))) (da_nil))))) (dss_cons (ds_set (i := 3) sc.nd (de_bm PySem.F.plainAttrs_str PySem.F.slot_str_strip PySem.F.type_str_strip mt_stripChars ok_stripC ty_str rfl (de_bm PySem.F.plainAttrs_str PySem.F.slot_str_join PySem.F.type_str_join mt_join ok_join ty_str rfl (de_var 1) (da_cons (de_var 2) (da_nil))) (da_cons (de_str) (da_nil)))) (dss_one (ds_ret (de_ifExp (dt_cmp (op_neA (by exact hr.units)) ok_ne (de_var 3) (de_str)) (de_calC rfl C_l_of (by exact g) (by exact hr.mono (by decide)) tk (by rfl) (da_cons (de_var 0) (da_cons (de_lst (da_cons (de_var 3) (da_cons (de_var 3) (da_cons (de_var 3) (da_cons (de_non) (da_cons (de_str) (da_nil))))))) (da_nil)))) (de_non)))))
theorem sc_l_spelled : FnScope N_l_spelled ["_law_hand_here", "_law_name", "_law_column", "_law_own"] (defScope s_l_spelled) := ⟨rfl, rfl, rfl, by decide +kernel, rfl, by decide +kernel, by decide +kernel⟩
theorem ok_l_spelled {f : Addr} {fd : FuncData} (F : Fun K "_law_spelled" "_law_spelled" s_l_spelled f fd) (T : Tx K mg) (C_l_take : Cal P w (GG K fa) mg base "_law_take" 1 ["_law_hand_here", "_law_many"] [] F_l_take) (TL : ∃ cc tt, fd.code = .ref cc ∧ LamX.TabB base mg cc tt ∧ fa 9 = some tt) : FnG P w K mg base 2 f fd ["_law_hand_here", "_law_name", "_law_column", "_law_own"] (spD (GG K fa) 4 F_l_spelled) := by
  have sc := sc_l_spelled
  obtain ⟨cc, tt, tl1, tl2, tl3⟩ := TL
  refine fn_okGc (G := GG K fa) F sc fun cdv A outer s H E hcd g hr tk po => ?_
  exact dss_cons (ds_set (i := 4) sc.nd (de_op op_addA ok_add (de_lst (da_cons (de_tup (da_cons (de_str) (da_cons (de_str) (da_nil)))) (da_cons (de_tup (da_cons (de_str) (da_cons (de_str) (da_nil)))) (da_cons (de_tup (da_cons (de_str) (da_cons (de_non) (da_nil)))) (da_nil))))) (de_frzA (de_repC (da_cons (de_tup (da_cons (de_var 3) (da_cons (de_str) (da_nil)))) (da_nil)) (de_callTy call_intA ok_int (by rfl) T.b_int (by decide +kernel) (da_cons (de_cmp op_notInA ok_in (de_var 3) (de_tup (da_cons (de_non) (da_cons (de_str) (da_cons (de_str) (da_cons (de_str) (da_nil))))))) (da_nil))))))) (dss_one (ds_ret (de_tup (da_cons (de_var 1) (da_cons (de_str) (da_cons (de_var 2) (da_cons (de_tupleOf rfl (by rfl) T.b_tuple (de_slice rfl (de_sortL rfl (x := "_law_pair") ⟨rfl, rfl, rfl, by decide +kernel, by decide, fun _ _ _ _ _ => rfl, ⟨_, _, _, _, rfl⟩⟩ tl2 (hcd.symm.trans tl1) rfl tl3 (by exact hr.depth) (by exact hr.units) (by rfl) T.b_sorted (de_var 4)) (do_some (de_calC rfl C_l_take (by exact g) (by exact hr.mono (by decide)) tk (by rfl) (da_cons (de_var 0) (da_cons (de_int) (da_nil))))) (do_none))) (da_nil))))))))
theorem sc_l_form : FnScope N_l_form ["_law_hand_here"] (defScope s_l_form) := ⟨rfl, rfl, rfl, by decide +kernel, rfl, by decide +kernel, by decide +kernel⟩
theorem ok_l_form {f : Addr} {fd : FuncData} (F : Fun K "_law_form" "_law_form" s_l_form f fd) (T : Tx K mg) (C_l_of : Cal P w (GG K fa) mg base "_law_of" 2 ["_law_hand_here", "_law_some"] [] F_l_of) (C_l_take : Cal P w (GG K fa) mg base "_law_take" 1 ["_law_hand_here", "_law_many"] [] F_l_take) : FnG P w K mg base 3 f fd ["_law_hand_here"] (spD (GG K fa) 1 F_l_form) := by
  have sc := sc_l_form
  refine fn_okG (G := GG K fa) F sc fun cdv A outer s H E g hr tk po => ?_
  exact dss_cons (ds_set (i := 1) sc.nd (de_calC rfl C_l_of (by exact g) (by exact hr.mono (by decide)) tk (by rfl) (da_cons (de_var 0) (da_cons (de_lst (da_cons (de_str) (da_cons (de_str) (da_cons (de_str) (da_nil))))) (da_nil))))) (dss_one (ds_ret (de_calC rfl C_l_of (by exact g) (by exact hr.mono (by decide)) tk (by rfl) (da_cons (de_var 0) (da_cons (de_lst (da_cons (de_tup (da_cons (de_str) (da_nil))) (da_cons (de_tup (da_cons (de_str) (da_cons (de_op op_addA ok_add (de_int) (de_calC rfl C_l_take (by exact g) (by exact hr.mono (by decide)) tk (by rfl) (da_cons (de_var 0) (da_cons (de_int) (da_nil))))) (da_nil)))) (da_cons (de_tup (da_cons (de_str) (da_cons (de_var 1) (da_nil)))) (da_cons (de_tup (da_cons (de_str) (da_cons (de_var 1) (da_nil)))) (da_nil)))))) (da_nil))))))
theorem sc_l_near_day : FnScope N_l_near_day ["_law_hand_here", "_law_order"] (defScope s_l_near_day) := ⟨rfl, rfl, rfl, by decide +kernel, rfl, by decide +kernel, by decide +kernel⟩
theorem ok_l_near_day {f : Addr} {fd : FuncData} (F : Fun K "_law_near_day" "_law_near_day" s_l_near_day f fd) (T : Tx K mg) (C_l_of : Cal P w (GG K fa) mg base "_law_of" 2 ["_law_hand_here", "_law_some"] [] F_l_of) : FnG P w K mg base 3 f fd ["_law_hand_here", "_law_order"] (spD (GG K fa) 2 F_l_near_day) := by
  have sc := sc_l_near_day
  refine fn_okG (G := GG K fa) F sc fun cdv A outer s H E g hr tk po => ?_
  exact dss_cons (ds_set (i := 2) sc.nd (de_calC rfl C_l_of (by exact g) (by exact hr.mono (by decide)) tk (by rfl) (da_cons (de_var 0) (da_cons (de_lst (da_cons (de_str) (da_cons (de_str) (da_cons (de_str) (da_cons (de_str) (da_cons (de_str) (da_nil))))))) (da_nil))))) (dss_cons (ds_set (i := 3) sc.nd (de_cdic (dp_cons (de_str) (de_calC rfl C_l_of (by exact g) (by exact hr.mono (by decide)) tk (by rfl) (da_cons (de_var 0) (da_cons (de_lst (da_cons (de_str) (da_cons (de_str) (da_cons (de_str) (da_cons (de_str) (da_cons (de_str) (da_cons (de_str) (da_cons (de_str) (da_nil))))))))) (da_nil)))) (dp_nil)))) (dss_cons (ds_setD (by exact hr.units) (de_calC rfl C_l_of (by exact g) (by exact hr.mono (by decide)) tk (by rfl) (da_cons (de_var 0) (da_cons (de_lst (da_cons (de_str) (da_cons (de_str) (da_cons (de_str) (da_cons (de_str) (da_cons (de_str) (da_cons (de_str) (da_cons (de_str) (da_nil))))))))) (da_nil)))) (de_var 3) (de_str)) (dss_cons (ds_setD (by exact hr.units) (de_calC rfl C_l_of (by exact g) (by exact hr.mono (by decide)) tk (by rfl) (da_cons (de_var 0) (da_cons (de_lst (da_cons (de_str) (da_cons (de_str) (da_cons (de_str) (da_cons (de_str) (da_cons (de_str) (da_cons (de_str) (da_cons (de_str) (da_nil))))))))) (da_nil)))) (de_var 3) (de_str)) (dss_one (ds_ret (de_op op_addA ok_add (de_bm PySem.F.plainAttrs_str PySem.F.slot_str_join PySem.F.type_str_join mt_join ok_join ty_str rfl (de_var 2) (da_cons (de_lc [("_law_one", 4)] fin_list rfl sc.nd (di_seq rfl (de_var 1)) (blkOk_by (N := N_l_near_day) (sc := defScope s_l_near_day) (by decide +kernel)) (fun _ _ _ _ _ => dg_name (i := 4) sc.nd) (fun _ _ _ _ _ => dts_nil) (fun _ _ _ _ _ => de_dg (by exact hr.units) (de_var 3) (de_var 4))) (da_nil))) (de_calC rfl C_l_of (by exact g) (by exact hr.mono (by decide)) tk (by rfl) (da_cons (de_var 0) (da_cons (de_lst (da_cons (de_str) (da_cons (de_str) (da_cons (de_str) (da_cons (de_str) (da_cons (de_str) (da_nil))))))) (da_nil))))))))))
theorem sc_l_near : FnScope N_l_near ["_law_hand_here", "_law_form_here"] (defScope s_l_near) := ⟨rfl, rfl, rfl, by decide +kernel, rfl, by decide +kernel, by decide +kernel⟩
theorem ok_l_near {f : Addr} {fd : FuncData} (F : Fun K "_law_near" "_law_near" s_l_near f fd) (T : Tx K mg) (C_l_near_day : Cal P w (GG K fa) mg base "_law_near_day" 3 ["_law_hand_here", "_law_order"] [] F_l_near_day) (C_l_of : Cal P w (GG K fa) mg base "_law_of" 2 ["_law_hand_here", "_law_some"] [] F_l_of) : FnG P w K mg base 4 f fd ["_law_hand_here", "_law_form_here"] (spD (GG K fa) 2 F_l_near) := by
  have sc := sc_l_near
  refine fn_okG (G := GG K fa) F sc fun cdv A outer s H E g hr tk po => ?_
  exact dss_cons (ds_if (dt_cmp (op_eqA (by exact hr.units)) ok_eq (de_ix ix_seq ok_ix (de_var 1) (de_int)) (de_str)) (dss_one (ds_ret (de_calC rfl C_l_near_day (by exact g) (by exact hr.mono (by decide)) tk (by rfl) (da_cons (de_var 0) (da_cons (de_ix ix_seq ok_ix (de_var 1) (de_int)) (da_nil)))))) (dss_nil)) (dss_cons (ds_set (i := 2) sc.nd (de_calC rfl C_l_of (by exact g) (by exact hr.mono (by decide)) tk (by rfl) (da_cons (de_var 0) (da_cons (de_lst (da_cons (de_str) (da_cons (de_str) (da_cons (de_str) (da_cons (de_str) (da_cons (de_str) (da_cons (de_str) (da_cons (de_str) (da_cons (de_str) (da_cons (de_str) (da_nil))))))))))) (da_nil))))) (dss_cons (ds_set (i := 3) sc.nd (de_calC rfl C_l_of (by exact g) (by exact hr.mono (by decide)) tk (by rfl) (da_cons (de_var 0) (da_cons (de_lst (da_cons (de_str) (da_cons (de_str) (da_cons (de_str) (da_cons (de_str) (da_cons (de_str) (da_cons (de_str) (da_cons (de_str) (da_cons (de_str) (da_cons (de_str) (da_nil))))))))))) (da_nil))))) (dss_one (ds_ret (de_op op_addA ok_add (de_op op_addA ok_add (de_calC rfl C_l_of (by exact g) (by exact hr.mono (by decide)) tk (by rfl) (da_cons (de_var 0) (da_cons (de_lst (da_cons (de_str) (da_cons (de_str) (da_cons (de_str) (da_cons (de_str) (da_cons (de_str) (da_nil))))))) (da_nil)))) (de_var 2)) (de_op op_mulA ok_mulA (de_var 3) (de_callTy call_intA ok_int (by rfl) T.b_int (by decide +kernel) (da_cons (de_cmp (op_eqA (by exact hr.units)) ok_eq (de_ix ix_seq ok_ix (de_var 1) (de_int)) (de_str)) (da_nil)))))))))
theorem sc_l_case : FnScope N_l_case ["_law_hand_here", "_law_lot"] (defScope s_l_case) := ⟨rfl, rfl, rfl, by decide +kernel, rfl, by decide +kernel, by decide +kernel⟩
theorem ok_l_case {f : Addr} {fd : FuncData} (F : Fun K "_law_case" "_law_case" s_l_case f fd) (T : Tx K mg) (C_l_of : Cal P w (GG K fa) mg base "_law_of" 2 ["_law_hand_here", "_law_some"] [] F_l_of) (C_l_text : Cal P w (GG K fa) mg base "_law_text" 3 ["_law_hand_here", "_law_sign"] [] F_l_text) (C_l_take : Cal P w (GG K fa) mg base "_law_take" 1 ["_law_hand_here", "_law_many"] [] F_l_take) (C_l_spelled : Cal P w (GG K fa) mg base "_law_spelled" 2 ["_law_hand_here", "_law_name", "_law_column", "_law_own"] [] F_l_spelled) (C_l_form : Cal P w (GG K fa) mg base "_law_form" 3 ["_law_hand_here"] [] F_l_form) (C_l_near : Cal P w (GG K fa) mg base "_law_near" 4 ["_law_hand_here", "_law_form_here"] [] F_l_near) : FnG P w K mg base 5 f fd ["_law_hand_here", "_law_lot"] (spD (GG K fa) 2 F_l_case) := by
  have sc := sc_l_case
  refine fn_okG (G := GG K fa) F sc fun cdv A outer s H E g hr tk po => ?_
  exact dss_cons (ds_set (i := 2) sc.nd (de_cdic (dp_cons (de_str) (de_calC rfl C_l_text (by exact g) (by exact hr.mono (by decide)) tk (by rfl) (da_cons (de_var 0) (da_cons (de_str) (da_nil)))) (dp_cons (de_str) (de_calC rfl C_l_text (by exact g) (by exact hr.mono (by decide)) tk (by rfl) (da_cons (de_var 0) (da_cons (de_str) (da_nil)))) (dp_cons (de_str) (de_calC rfl C_l_of (by exact g) (by exact hr.mono (by decide)) tk (by rfl) (da_cons (de_var 0) (da_cons (de_lst (da_cons (de_non) (da_cons (de_int) (da_cons (de_int) (da_cons (de_un un_neg ok_neg (de_int)) (da_cons (de_op op_pow ok_pow (de_int) (de_int)) (da_nil))))))) (da_nil)))) (dp_nil)))))) (dss_cons (ds_setD (by exact hr.units) (de_calC rfl C_l_of (by exact g) (by exact hr.mono (by decide)) tk (by rfl) (da_cons (de_var 0) (da_cons (de_lst (da_cons (de_non) (da_cons (de_int) (da_cons (de_int) (da_cons (de_dg (by exact hr.units) (de_var 2) (de_str)) (da_nil)))))) (da_nil)))) (de_var 2) (de_str)) (dss_cons (ds_par (i := 3) (j := 4) rfl sc.nd (da_cons (de_calC rfl C_l_of (by exact g) (by exact hr.mono (by decide)) tk (by rfl) (da_cons (de_var 0) (da_cons (de_lst (da_cons (de_str) (da_cons (de_str) (da_nil)))) (da_nil)))) (da_cons (de_calC rfl C_l_of (by exact g) (by exact hr.mono (by decide)) tk (by rfl) (da_cons (de_var 0) (da_cons (de_lst (da_cons (de_str) (da_cons (de_str) (da_cons (de_str) (da_cons (de_str) (da_cons (de_str) (da_nil))))))) (da_nil)))) (da_nil)))) (dss_cons (ds_set (i := 5) sc.nd (de_calC rfl C_l_of (by exact g) (by exact hr.mono (by decide)) tk (by rfl) (da_cons (de_var 0) (da_cons (de_lst (da_cons (de_str) (da_cons (de_str) (da_cons (de_str) (da_nil))))) (da_nil))))) (dss_cons (ds_if (dt_cmp (op_eqA (by exact hr.units)) ok_eq (de_var 1) (de_int)) (dss_one (ds_ret (de_tup (da_cons (de_tup (da_cons (de_var 5) (da_cons (de_str) (da_cons (de_var 3) (da_cons (de_var 4) (da_cons (de_slice rfl (de_tup (da_cons (de_str) (da_cons (de_str) (da_cons (de_str) (da_cons (de_str) (da_nil)))))) (do_none) (do_some (de_op op_addA ok_add (de_int) (de_calC rfl C_l_take (by exact g) (by exact hr.mono (by decide)) tk (by rfl) (da_cons (de_var 0) (da_cons (de_int) (da_nil))))))) (da_nil))))))) (da_cons (de_frzA (de_var 2)) (da_nil)))))) (dss_nil)) (dss_cons (ds_if (dt_cmp (op_eqA (by exact hr.units)) ok_eq (de_var 1) (de_int)) (dss_cons (ds_set (i := 6) sc.nd (de_lst (da_cons (de_tup (da_cons (de_str) (da_nil))) (da_cons (de_tup (da_cons (de_str) (da_cons (de_str) (da_nil)))) (da_cons (de_tup (da_cons (de_str) (da_cons (de_str) (da_cons (de_str) (da_nil))))) (da_cons (de_tup (da_cons (de_str) (da_cons (de_str) (da_cons (de_str) (da_cons (de_str) (da_nil)))))) (da_nil))))))) (dss_one (ds_ret (de_tup (da_cons (de_tup (da_cons (de_var 5) (da_cons (de_str) (da_cons (de_calC rfl C_l_of (by exact g) (by exact hr.mono (by decide)) tk (by rfl) (da_cons (de_var 0) (da_cons (de_var 6) (da_nil)))) (da_cons (de_var 4) (da_cons (de_str) (da_nil))))))) (da_cons (de_frzA (de_var 2)) (da_nil))))))) (dss_nil)) (dss_cons (ds_if (dt_cmp (op_eqA (by exact hr.units)) ok_eq (de_var 1) (de_int)) (dss_one (ds_ret (de_tup (da_cons (de_calC rfl C_l_spelled (by exact g) (by exact hr.mono (by decide)) tk (by rfl) (da_cons (de_var 0) (da_cons (de_var 5) (da_cons (de_var 3) (da_cons (de_dg (by exact hr.units) (de_var 2) (de_var 3)) (da_nil)))))) (da_cons (de_frzA (de_var 2)) (da_nil)))))) (dss_nil)) (dss_cons (ds_if (dt_cmp (op_eqA (by exact hr.units)) ok_eq (de_var 1) (de_int)) (dss_cons (ds_set (i := 7) sc.nd (de_calC rfl C_l_form (by exact g) (by exact hr.mono (by decide)) tk (by rfl) (da_cons (de_var 0) (da_nil)))) (dss_cons (ds_set (i := 8) sc.nd (de_calC rfl C_l_near (by exact g) (by exact hr.mono (by decide)) tk (by rfl) (da_cons (de_var 0) (da_cons (de_var 7) (da_nil))))) (dss_cons (ds_setD (by exact hr.units) (de_ifExp (dw_pt (dw_and (dt_cmp (op_neA (by exact hr.units)) ok_ne (de_var 8) (de_str)) (dw_and1 (dt_cmp op_gtA ok_cmp (de_calC rfl C_l_take (by exact g) (by exact hr.mono (by decide)) tk (by rfl) (da_cons (de_var 0) (da_cons (de_int) (da_nil)))) (de_int))))) (de_var 8) (de_non)) (de_var 2) (de_var 3)) (dss_one (ds_ret (de_tup (da_cons (de_tup (da_cons (de_var 5) (da_cons (de_str) (da_cons (de_var 3) (da_cons (de_var 7) (da_cons (de_str) (da_nil))))))) (da_cons (de_frzA (de_var 2)) (da_nil))))))))) (dss_nil)) (dss_cons (ds_set (i := 9) sc.nd (de_lstC (da_cons (de_lst (da_cons (de_tup (da_cons (de_str) (da_cons (de_str) (da_nil)))) (da_cons (de_tup (da_cons (de_str) (da_cons (de_int) (da_nil)))) (da_cons (de_tup (da_cons (de_str) (da_cons (de_un un_neg ok_neg (de_int)) (da_nil)))) (da_cons (de_tup (da_cons (de_str) (da_cons (de_str) (da_nil)))) (da_nil)))))) (da_cons (de_lst (da_cons (de_tup (da_cons (de_str) (da_nil))) (da_cons (de_tup (da_cons (de_str) (da_nil))) (da_cons (de_tup (da_cons (de_str) (da_nil))) (da_cons (de_tup (da_cons (de_str) (da_nil))) (da_nil)))))) (da_nil))))) (dss_cons (ds_expr (de_bm PySem.F.plainAttrs_list PySem.F.slot_list_append PySem.F.type_list_append mt_append ok_append ty_lst rfl (de_var 9) (da_cons (de_lst (da_cons (de_tup (da_cons (de_str) (da_cons (de_int) (da_cons (de_int) (da_nil))))) (da_cons (de_tup (da_cons (de_str) (da_cons (de_int) (da_cons (de_int) (da_nil))))) (da_cons (de_tup (da_cons (de_str) (da_cons (de_un un_neg ok_neg (de_int)) (da_cons (de_op op_pow ok_pow (de_int) (de_int)) (da_nil))))) (da_cons (de_tup (da_cons (de_str) (da_cons (de_str) (da_cons (de_str) (da_nil))))) (da_cons (de_tup (da_cons (de_str) (da_cons (de_str) (da_cons (de_str) (da_nil))))) (da_cons (de_tup (da_cons (de_str) (da_cons (de_int) (da_cons (de_int) (da_nil))))) (da_nil)))))))) (da_nil)))) (dss_cons (ds_expr (de_bm PySem.F.plainAttrs_list PySem.F.slot_list_append PySem.F.type_list_append mt_append ok_append ty_lst rfl (de_var 9) (da_cons (de_lst (da_cons (de_tup (da_cons (de_str) (da_cons (de_tup (da_cons (de_str) (da_nil))) (da_nil)))) (da_cons (de_tup (da_cons (de_str) (da_cons (de_tup (da_cons (de_str) (da_cons (de_str) (da_cons (de_str) (da_nil))))) (da_nil)))) (da_cons (de_tup (da_cons (de_str) (da_cons (de_tup (da_cons (de_int) (da_cons (de_int) (da_nil)))) (da_nil)))) (da_cons (de_tup (da_cons (de_str) (da_cons (de_tup (da_cons (de_int) (da_nil))) (da_nil)))) (da_nil)))))) (da_nil)))) (dss_cons (ds_expr (de_bm PySem.F.plainAttrs_list PySem.F.slot_list_append PySem.F.type_list_append mt_append ok_append ty_lst rfl (de_var 9) (da_cons (de_lst (da_cons (de_tup (da_cons (de_str) (da_cons (de_str) (da_nil)))) (da_cons (de_tup (da_cons (de_str) (da_cons (de_str) (da_nil)))) (da_cons (de_tup (da_cons (de_str) (da_cons (de_str) (da_nil)))) (da_cons (de_tup (da_cons (de_str) (da_cons (de_str) (da_nil)))) (da_nil)))))) (da_nil)))) (dss_cons (ds_set (i := 10) sc.nd (de_ix ix_seq ok_ix (de_lst (da_cons (de_str) (da_cons (de_str) (da_cons (de_str) (da_cons (de_str) (da_cons (de_str) (da_nil))))))) (de_op op_sub ok_sub (de_var 1) (de_int)))) (dss_one (ds_ret (de_tup (da_cons (de_op op_addA ok_add (de_tup (da_cons (de_var 5) (da_cons (de_var 10) (da_nil)))) (de_calC rfl C_l_of (by exact g) (by exact hr.mono (by decide)) tk (by rfl) (da_cons (de_var 0) (da_cons (de_ix ix_seq ok_ix (de_var 9) (de_op op_sub ok_sub (de_var 1) (de_int))) (da_nil))))) (da_cons (de_frzA (de_var 2)) (da_nil))))))))))))))))))
theorem sc_l_worth : FnScope N_l_worth ["_law_text_here"] (defScope s_l_worth) := ⟨rfl, rfl, rfl, by decide +kernel, rfl, by decide +kernel, by decide +kernel⟩
theorem ok_l_worth {f : Addr} {fd : FuncData} (F : Fun K "_law_worth" "_law_worth" s_l_worth f fd) (T : Tx K mg) : FnG P w K mg base 1 f fd ["_law_text_here"] (spD (GG K fa) 1 F_l_worth) := by
  have sc := sc_l_worth
  refine fn_okG (G := GG K fa) F sc fun cdv A outer s H E g hr tk po => ?_
  exact dss_one (ds_ret (de_ifExp (dt_cmp (op_neA (by exact hr.units)) ok_ne (de_bm PySem.F.plainAttrs_str PySem.F.slot_str_strip PySem.F.type_str_strip mt_stripChars ok_stripC ty_str rfl (de_var 0) (da_cons (de_str) (da_nil))) (de_str)) (de_bm PySem.F.plainAttrs_str PySem.F.slot_str_strip PySem.F.type_str_strip mt_stripChars ok_stripC ty_str rfl (de_var 0) (da_cons (de_str) (da_nil))) (de_non)))
theorem sc_l_are_figures : FnScope N_l_are_figures ["_law_text_here", "_law_most"] (defScope s_l_are_figures) := ⟨rfl, rfl, rfl, by decide +kernel, rfl, by decide +kernel, by decide +kernel⟩
theorem ok_l_are_figures {f : Addr} {fd : FuncData} (F : Fun K "_law_are_figures" "_law_are_figures" s_l_are_figures f fd) (T : Tx K mg) : FnG P w K mg base 1 f fd ["_law_text_here", "_law_most"] (spD (GG K fa) 2 F_l_are_figures) := by
  have sc := sc_l_are_figures
  refine fn_okG (G := GG K fa) F sc fun cdv A outer s H E g hr tk po => ?_
  exact dss_one (ds_ret (de_and (de_chain op_leA ok_cmp op_leA ok_cmp (de_int) (de_callB call_len ok_len (by rfl) T.b_len (by decide +kernel) (da_cons (de_var 0) (da_nil))) (de_var 1)) (de_one (de_callB (cr_all rfl) ok_all (by rfl) T.b_all (by decide +kernel) (da_cons (de_lc [("_law_sign", 2)] fin_list rfl sc.nd (di_seq rfl (de_var 0)) (blkOk_by (N := N_l_are_figures) (sc := defScope s_l_are_figures) (by decide +kernel)) (fun _ _ _ _ _ => dg_name (i := 2) sc.nd) (fun _ _ _ _ _ => dts_nil) (fun _ _ _ _ _ => de_cmp op_inA ok_in (de_var 2) (de_str))) (da_nil))))))
theorem sc_l_figures : FnScope N_l_figures ["_law_text_here"] (defScope s_l_figures) := ⟨rfl, rfl, rfl, by decide +kernel, rfl, by decide +kernel, by decide +kernel⟩
theorem ok_l_figures {f : Addr} {fd : FuncData} (F : Fun K "_law_figures" "_law_figures" s_l_figures f fd) (T : Tx K mg) : FnG P w K mg base 1 f fd ["_law_text_here"] (spD (GG K fa) 1 F_l_figures) := by
  have sc := sc_l_figures
  refine fn_okG (G := GG K fa) F sc fun cdv A outer s H E g hr tk po => ?_
  exact dss_cons (ds_set (i := 1) sc.nd (de_int)) (dss_cons (ds_for po rfl (di_seq rfl (de_var 0)) (dg_name (i := 2) sc.nd) (dss_one (ds_set (i := 1) sc.nd (de_op op_addA ok_add (de_op op_mulA ok_mulA (de_var 1) (de_int)) (de_bm PySem.F.plainAttrs_str PySem.F.slot_str_index PySem.F.type_str_index mt_sindex ok_indexS ty_str rfl (de_str) (da_cons (de_var 2) (da_nil))))))) (dss_one (ds_ret (de_var 1))))
theorem sc_l_day : FnScope N_l_day ["_law_order", "_law_text_here"] (defScope s_l_day) := ⟨rfl, rfl, rfl, by decide +kernel, rfl, by decide +kernel, by decide +kernel⟩
theorem ok_l_day {f : Addr} {fd : FuncData} (F : Fun K "_law_day" "_law_day" s_l_day f fd) (T : Tx K mg) (C_l_figures : Cal P w (GG K fa) mg base "_law_figures" 1 ["_law_text_here"] [] F_l_figures) : FnG P w K mg base 2 f fd ["_law_order", "_law_text_here"] (spD (GG K fa) 2 F_l_day) := by
  have sc := sc_l_day
  refine fn_okG (G := GG K fa) F sc fun cdv A outer s H E g hr tk po => ?_
  exact dss_cons (ds_setLc (i := 2) [("_law_sign", 12)] fin_list rfl sc.nd (di_seq rfl (de_var 1)) (blkOk_by (N := N_l_day) (sc := defScope s_l_day) (by decide +kernel)) (fun _ _ _ _ _ => dg_name (i := 12) sc.nd) (fun _ _ _ _ _ => dts_one (dt_cmp op_notInA ok_in (de_var 12) (de_str))) (fun _ _ _ _ _ => de_var 12)) (dss_cons (ds_if (dw_pt (dw_or (dt_cmp (op_neA (by exact hr.units)) ok_ne (de_callB call_len ok_len (by rfl) T.b_len (by decide +kernel) (da_cons (de_var 2) (da_nil))) (de_int)) (dw_or (dt_cmp (op_neA (by exact hr.units)) ok_ne (de_ix ix_seq ok_ix (de_var 2) (de_int)) (de_ix ix_seq ok_ix (de_var 2) (de_int))) (dw_or1 (dt_cmp op_notInA ok_in (de_ix ix_seq ok_ix (de_var 2) (de_int)) (de_str)))))) (dss_one (ds_ret (de_non))) (dss_nil)) (dss_cons (ds_set (i := 3) sc.nd (de_bm PySem.F.plainAttrs_str PySem.F.slot_str_split PySem.F.type_str_split mt_split ok_split ty_str rfl (de_var 1) (da_cons (de_ix ix_seq ok_ix (de_var 2) (de_int)) (da_nil)))) (dss_cons (ds_asg (de_lc [("_law_sign", 12)] fin_list rfl sc.nd (di_seq rfl (de_str)) (blkOk_by (N := N_l_day) (sc := defScope s_l_day) (by decide +kernel)) (fun _ _ _ _ _ => dg_name (i := 12) sc.nd) (fun _ _ _ _ _ => dts_nil) (fun _ _ _ _ _ => de_ix ix_seq ok_ix (de_var 3) (de_bm PySem.F.plainAttrs_str PySem.F.slot_str_index PySem.F.type_str_index mt_sindex ok_indexS ty_str rfl (de_var 0) (da_cons (de_var 12) (da_nil))))) (dg_lst rfl rfl (dgs_cons (dg_name (i := 4) sc.nd) (dgs_cons (dg_name (i := 5) sc.nd) (dgs_cons (dg_name (i := 6) sc.nd) (dgs_nil)))))) (dss_cons (ds_if (dw_pt (dw_or (dt_cmp (op_neA (by exact hr.units)) ok_ne (de_callB call_len ok_len (by rfl) T.b_len (by decide +kernel) (da_cons (de_var 4) (da_nil))) (de_int)) (dw_or1 (dt_not (dt_val (de_callB (cr_all rfl) ok_all (by rfl) T.b_all (by decide +kernel) (da_cons (de_lc [("_law_part", 13)] fin_list rfl sc.nd (di_seq rfl (de_tup (da_cons (de_var 5) (da_cons (de_var 6) (da_nil))))) (blkOk_by (N := N_l_day) (sc := defScope s_l_day) (by decide +kernel)) (fun _ _ _ _ _ => dg_name (i := 13) sc.nd) (fun _ _ _ _ _ => dts_nil) (fun _ _ _ _ _ => de_chain op_leA ok_cmp op_leA ok_cmp (de_int) (de_callB call_len ok_len (by rfl) T.b_len (by decide +kernel) (da_cons (de_var 13) (da_nil))) (de_int))) (da_nil)))))))) (dss_one (ds_ret (de_non))) (dss_nil)) (dss_cons (ds_par3 (i := 7) (j := 8) (l := 9) rfl sc.nd (da_cons (de_calC rfl C_l_figures (by exact g) (by exact hr.mono (by decide)) tk (by rfl) (da_cons (de_var 4) (da_nil))) (da_cons (de_calC rfl C_l_figures (by exact g) (by exact hr.mono (by decide)) tk (by rfl) (da_cons (de_var 5) (da_nil))) (da_cons (de_calC rfl C_l_figures (by exact g) (by exact hr.mono (by decide)) tk (by rfl) (da_cons (de_var 6) (da_nil))) (da_nil))))) (dss_cons (ds_set (i := 10) sc.nd (de_callTy call_intA ok_int (by rfl) T.b_int (by decide +kernel) (da_cons (de_and (de_cmp (op_eqA (by exact hr.units)) ok_eq (de_op op_mod ok_mod (de_var 7) (de_int)) (de_int)) (de_one (de_or (de_cmp op_gtA ok_cmp (de_op op_mod ok_mod (de_var 7) (de_int)) (de_int)) (de_one (de_cmp (op_eqA (by exact hr.units)) ok_eq (de_op op_mod ok_mod (de_var 7) (de_int)) (de_int)))))) (da_nil)))) (dss_cons (ds_set (i := 11) sc.nd (de_lst (da_cons (de_int) (da_cons (de_op op_addA ok_add (de_int) (de_var 10)) (da_cons (de_int) (da_cons (de_int) (da_cons (de_int) (da_cons (de_int) (da_cons (de_int) (da_cons (de_int) (da_cons (de_int) (da_cons (de_int) (da_cons (de_int) (da_cons (de_int) (da_nil))))))))))))))) (dss_cons (ds_if (dw_pt (dw_or (dt_cmp (op_eqA (by exact hr.units)) ok_eq (de_var 7) (de_int)) (dw_or (dt_not (dt_chain op_leA ok_cmp op_leA ok_cmp (de_int) (de_var 8) (de_int))) (dw_or1 (dt_not (dt_chain op_leA ok_cmp op_leA ok_cmp (de_int) (de_var 9) (de_ix ix_seq ok_ix (de_var 11) (de_op op_sub ok_sub (de_var 8) (de_int))))))))) (dss_one (ds_ret (de_non))) (dss_nil)) (dss_one (ds_ret (de_op op_sub ok_sub (de_op op_addA ok_add (de_op op_addA ok_add (de_op op_addA ok_add (de_op op_sub ok_sub (de_op op_addA ok_add (de_op op_mulA ok_mulA (de_op op_sub ok_sub (de_var 7) (de_int)) (de_int)) (de_op op_fdivW ok_div (de_op op_sub ok_sub (de_var 7) (de_int)) (de_int))) (de_op op_fdivW ok_div (de_op op_sub ok_sub (de_var 7) (de_int)) (de_int))) (de_op op_fdivW ok_div (de_op op_sub ok_sub (de_var 7) (de_int)) (de_int))) (de_callB (cr_sum rfl) ok_sum (by rfl) T.b_sum (by decide +kernel) (da_cons (de_slice rfl (de_var 11) (do_none) (do_some (de_op op_sub ok_sub (de_var 8) (de_int)))) (da_nil)))) (de_var 9)) (de_int))))))))))))
theorem sc_l_number : FnScope N_l_number ["_law_form_here", "_law_text_here"] (defScope s_l_number) := ⟨rfl, rfl, rfl, by decide +kernel, rfl, by decide +kernel, by decide +kernel⟩
theorem ok_l_number {f : Addr} {fd : FuncData} (F : Fun K "_law_number" "_law_number" s_l_number f fd) (T : Tx K mg) (C_l_are_figures : Cal P w (GG K fa) mg base "_law_are_figures" 1 ["_law_text_here", "_law_most"] [] F_l_are_figures) (C_l_figures : Cal P w (GG K fa) mg base "_law_figures" 1 ["_law_text_here"] [] F_l_figures) (C_l_day : Cal P w (GG K fa) mg base "_law_day" 2 ["_law_order", "_law_text_here"] [] F_l_day) : FnG P w K mg base 3 f fd ["_law_form_here", "_law_text_here"] (spD (GG K fa) 2 F_l_number) := by
  have sc := sc_l_number
  refine fn_okG (G := GG K fa) F sc fun cdv A outer s H E g hr tk po => ?_
  exact dss_cons (ds_par (i := 2) (j := 3) rfl sc.nd (da_cons (de_int) (da_cons (de_var 1) (da_nil)))) (dss_cons (ds_if (dt_cmp op_inA ok_in (de_slice rfl (de_var 1) (do_none) (do_some (de_int))) (de_tup (da_cons (de_str) (da_cons (de_str) (da_nil))))) (dss_one (ds_par (i := 2) (j := 3) rfl sc.nd (da_cons (de_op op_sub ok_sub (de_int) (de_op op_mulA ok_mulA (de_int) (de_callTy call_intA ok_int (by rfl) T.b_int (by decide +kernel) (da_cons (de_cmp (op_eqA (by exact hr.units)) ok_eq (de_ix ix_seq ok_ix (de_var 1) (de_int)) (de_str)) (da_nil))))) (da_cons (de_slice rfl (de_var 1) (do_some (de_int)) (do_none)) (da_nil))))) (dss_nil)) (dss_cons (ds_if (dt_cmp (op_eqA (by exact hr.units)) ok_eq (de_ix ix_seq ok_ix (de_var 0) (de_int)) (de_str)) (dss_one (ds_ret (de_ifExp (dt_val (de_calC rfl C_l_are_figures (by exact g) (by exact hr.mono (by decide)) tk (by rfl) (da_cons (de_var 3) (da_cons (de_int) (da_nil))))) (de_op op_mulA ok_mulA (de_var 2) (de_calC rfl C_l_figures (by exact g) (by exact hr.mono (by decide)) tk (by rfl) (da_cons (de_var 3) (da_nil)))) (de_non)))) (dss_nil)) (dss_cons (ds_if (dt_cmp (op_eqA (by exact hr.units)) ok_eq (de_ix ix_seq ok_ix (de_var 0) (de_int)) (de_str)) (dss_cons (ds_set (i := 4) sc.nd (de_bm PySem.F.plainAttrs_str PySem.F.slot_str_split PySem.F.type_str_split mt_split ok_split ty_str rfl (de_var 3) (da_cons (de_str) (da_nil)))) (dss_cons (ds_if (dw_pt (dw_or (dt_cmp op_gtA ok_cmp (de_callB call_len ok_len (by rfl) T.b_len (by decide +kernel) (da_cons (de_var 4) (da_nil))) (de_int)) (dw_or1 (dt_not (dt_val (de_calC rfl C_l_are_figures (by exact g) (by exact hr.mono (by decide)) tk (by rfl) (da_cons (de_ix ix_seq ok_ix (de_var 4) (de_int)) (da_cons (de_int) (da_nil))))))))) (dss_one (ds_ret (de_non))) (dss_nil)) (dss_cons (ds_if (dw_pt (dw_and (dt_cmp (op_eqA (by exact hr.units)) ok_eq (de_callB call_len ok_len (by rfl) T.b_len (by decide +kernel) (da_cons (de_var 4) (da_nil))) (de_int)) (dw_and1 (dt_not (dt_val (de_calC rfl C_l_are_figures (by exact g) (by exact hr.mono (by decide)) tk (by rfl) (da_cons (de_ix ix_seq ok_ix (de_var 4) (de_int)) (da_cons (de_ix ix_seq ok_ix (de_var 0) (de_int)) (da_nil))))))))) (dss_one (ds_ret (de_non))) (dss_nil)) (dss_cons (ds_set (i := 5) sc.nd (de_ifExp (dt_cmp (op_eqA (by exact hr.units)) ok_eq (de_callB call_len ok_len (by rfl) T.b_len (by decide +kernel) (da_cons (de_var 4) (da_nil))) (de_int)) (de_ix ix_seq ok_ix (de_var 4) (de_int)) (de_str))) (dss_one (ds_ret (de_op op_mulA ok_mulA (de_var 2) (de_calC rfl C_l_figures (by exact g) (by exact hr.mono (by decide)) tk (by rfl) (da_cons (de_op op_addA ok_add (de_op op_addA ok_add (de_ix ix_seq ok_ix (de_var 4) (de_int)) (de_var 5)) (de_op op_mulA ok_mulA (de_str) (de_op op_sub ok_sub (de_ix ix_seq ok_ix (de_var 0) (de_int)) (de_callB call_len ok_len (by rfl) T.b_len (by decide +kernel) (da_cons (de_var 5) (da_nil)))))) (da_nil)))))))))) (dss_nil)) (dss_one (ds_ret (de_calC rfl C_l_day (by exact g) (by exact hr.mono (by decide)) tk (by rfl) (da_cons (de_ix ix_seq ok_ix (de_var 0) (de_int)) (da_cons (de_var 1) (da_nil)))))))))
theorem sc_l_does : FnScope N_l_does ["_law_deed", "_law_here"] (defScope s_l_does) := ⟨rfl, rfl, rfl, by decide +kernel, rfl, by decide +kernel, by decide +kernel⟩
theorem ok_l_does {f : Addr} {fd : FuncData} (F : Fun K "_law_does" "_law_does" s_l_does f fd) (T : Tx K mg) (C_l_worth : Cal P w (GG K fa) mg base "_law_worth" 1 ["_law_text_here"] [] F_l_worth) (C_l_number : Cal P w (GG K fa) mg base "_law_number" 3 ["_law_form_here", "_law_text_here"] [] F_l_number) : FnG P w K mg base 4 f fd ["_law_deed", "_law_here"] (spD (GG K fa) 2 F_l_does) := by
  have sc := sc_l_does
  refine fn_okG (G := GG K fa) F sc fun cdv A outer s H E g hr tk po => ?_
  exact dss_cons (ds_par (i := 2) (j := 3) rfl sc.nd (da_cons (de_ix ix_seq ok_ix (de_var 0) (de_int)) (da_cons (de_ix ix_seq ok_ix (de_var 0) (de_int)) (da_nil)))) (dss_cons (ds_set (i := 4) sc.nd (de_ifExp (dt_val (de_isi (T := "str") rfl (by decide) (by rfl) T.b_isinstance (by rfl) T.b_str (by decide +kernel) (de_var 3))) (de_dg (by exact hr.units) (de_var 1) (de_var 3)) (de_non))) (dss_cons (ds_if (dt_cmp (op_eqA (by exact hr.units)) ok_eq (de_var 2) (de_str)) (dss_cons (ds_set (i := 5) sc.nd (de_ifExp (dt_notN (de_var 4)) (de_lc [("_law_part", 8)] fin_list rfl sc.nd (di_seq rfl (de_bm PySem.F.plainAttrs_str PySem.F.slot_str_split PySem.F.type_str_split mt_split ok_split ty_str rfl (de_var 4) (da_cons (de_ix ix_seq ok_ix (de_var 0) (de_int)) (da_nil)))) (blkOk_by (N := N_l_does) (sc := defScope s_l_does) (by decide +kernel)) (fun _ _ _ _ _ => dg_name (i := 8) sc.nd) (fun _ _ _ _ _ => dts_nil) (fun _ _ _ _ _ => de_calC rfl C_l_worth (by exact g) (by exact hr.mono (by decide)) takes0 (by rfl) (da_cons (de_var 8) (da_nil)))) (de_lst (da_nil)))) (dss_cons (ds_if (dt_cmp (op_eqA (by exact hr.units)) ok_eq (de_callB call_len ok_len (by rfl) T.b_len (by decide +kernel) (da_cons (de_var 5) (da_nil))) (de_callB call_len ok_len (by rfl) T.b_len (by decide +kernel) (da_cons (de_ix ix_seq ok_ix (de_var 0) (de_int)) (da_nil)))) (dss_one (ds_ret (de_tup (da_cons (de_dictZip ok_finDat rfl rfl (by rfl) T.b_dict (by rfl) T.b_zip (da_cons (de_ix ix_seq ok_ix (de_var 0) (de_int)) (da_cons (de_var 5) (da_nil)))) (da_cons (de_bl) (da_nil)))))) (dss_nil)) (dss_one (ds_ret (de_tup (da_cons (de_callTy (call_dictP2 rfl) ok_dictP (by rfl) T.b_dict (by decide +kernel) (da_cons (de_lc [("_law_new", 9)] fin_list rfl sc.nd (di_seq rfl (de_ix ix_seq ok_ix (de_var 0) (de_int))) (blkOk_by (N := N_l_does) (sc := defScope s_l_does) (by decide +kernel)) (fun _ _ _ _ _ => dg_name (i := 9) sc.nd) (fun _ _ _ _ _ => dts_nil) (fun _ _ _ _ _ => de_tup (da_cons (de_var 9) (da_cons (de_non) (da_nil))))) (da_nil))) (da_cons (de_notN (de_var 4)) (da_nil)))))))) (dss_nil)) (dss_cons (ds_if (dt_cmp (op_eqA (by exact hr.units)) ok_eq (de_var 2) (de_str)) (dss_cons (ds_setLc (i := 5) [("_law_one", 10)] fin_list rfl sc.nd (di_seq rfl (de_var 3)) (blkOk_by (N := N_l_does) (sc := defScope s_l_does) (by decide +kernel)) (fun _ _ _ _ _ => dg_name (i := 10) sc.nd) (fun _ _ _ _ _ => dts_one (dt_notN (de_dg (by exact hr.units) (de_var 1) (de_var 10)))) (fun _ _ _ _ _ => de_dg (by exact hr.units) (de_var 1) (de_var 10))) (dss_one (ds_ret (de_tup (da_cons (de_dic (dp_cons (de_ix ix_seq ok_ix (de_var 0) (de_int)) (de_ifExp (dt_cmp (op_neA (by exact hr.units)) ok_ne (de_var 5) (de_lst (da_nil))) (de_bm PySem.F.plainAttrs_str PySem.F.slot_str_join PySem.F.type_str_join mt_join ok_join ty_str rfl (de_ix ix_seq ok_ix (de_var 0) (de_int)) (da_cons (de_var 5) (da_nil))) (de_non)) (dp_nil))) (da_cons (de_bl) (da_nil))))))) (dss_nil)) (dss_cons (ds_if (dt_cmp (op_eqA (by exact hr.units)) ok_eq (de_var 2) (de_str)) (dss_cons (ds_setLc (i := 6) [("_law_ahead", 11), ("_law_after", 12)] fin_list rfl sc.nd (di_seq rfl (de_ix ix_seq ok_ix (de_var 0) (de_int))) (blkOk_by (N := N_l_does) (sc := defScope s_l_does) (by decide +kernel)) (fun _ _ _ _ _ => dg_tup rfl rfl (dgs_cons (dg_name (i := 11) sc.nd) (dgs_cons (dg_name (i := 12) sc.nd) (dgs_nil)))) (fun _ _ _ _ _ => dts_one (dt_cmp (op_eqA (by exact hr.units)) ok_eq (de_var 11) (de_var 4))) (fun _ _ _ _ _ => de_var 12)) (dss_one (ds_ret (de_tup (da_cons (de_dic (dp_cons (de_var 3) (de_ifExp (dt_cmp (op_neA (by exact hr.units)) ok_ne (de_var 6) (de_lst (da_nil))) (de_ix ix_seq ok_ix (de_var 6) (de_int)) (de_var 4)) (dp_nil))) (da_cons (de_bl) (da_nil))))))) (dss_nil)) (dss_cons (ds_if (dt_cmp (op_eqA (by exact hr.units)) ok_eq (de_var 2) (de_str)) (dss_cons (ds_set (i := 7) sc.nd (de_ifExp (dt_notN (de_var 4)) (de_calC rfl C_l_number (by exact g) (by exact hr.mono (by decide)) tk (by rfl) (da_cons (de_ix ix_seq ok_ix (de_var 0) (de_int)) (da_cons (de_var 4) (da_nil)))) (de_non))) (dss_one (ds_ret (de_tup (da_cons (de_dic (dp_cons (de_ix ix_seq ok_ix (de_var 0) (de_int)) (de_var 7) (dp_nil))) (da_cons (de_and (de_notN (de_var 4)) (de_one (de_isN (de_var 7)))) (da_nil))))))) (dss_nil)) (dss_cons (ds_if (dt_cmp (op_eqA (by exact hr.units)) ok_eq (de_var 2) (de_str)) (dss_one (ds_ret (de_tup (da_cons (de_dic (dp_cons (de_var 3) (de_ifExp (dt_isN (de_var 4)) (de_ix ix_seq ok_ix (de_var 0) (de_int)) (de_var 4)) (dp_nil))) (da_cons (de_bl) (da_nil)))))) (dss_nil)) (dss_cons (ds_if (dt_cmp (op_eqA (by exact hr.units)) ok_eq (de_var 2) (de_str)) (dss_one (ds_ret (de_tup (da_cons (de_dic0) (da_cons (de_isN (de_var 4)) (da_nil)))))) (dss_nil)) (dss_cons (ds_if (dt_cmp (op_eqA (by exact hr.units)) ok_eq (de_var 2) (de_str)) (dss_one (ds_ret (de_tup (da_cons (de_dic0) (da_cons (de_and (de_notN (de_var 4)) (de_one (de_or (de_cmp op_ltA ok_cmp (de_var 4) (de_ix ix_seq ok_ix (de_var 0) (de_int))) (de_one (de_cmp op_ltA ok_cmp (de_ix ix_seq ok_ix (de_var 0) (de_int)) (de_var 4)))))) (da_nil)))))) (dss_nil)) (dss_cons (ds_if (dt_cmp (op_eqA (by exact hr.units)) ok_eq (de_var 2) (de_str)) (dss_one (ds_ret (de_tup (da_cons (de_dic0) (da_cons (de_and (de_notN (de_var 4)) (de_one (de_cmp op_notInA ok_in (de_var 4) (de_ix ix_seq ok_ix (de_var 0) (de_int))))) (da_nil)))))) (dss_nil)) (dss_one (ds_ret (de_tup (da_cons (de_dic0) (da_cons (de_and (de_notN (de_var 4)) (de_and (de_notN (de_dg (by exact hr.units) (de_var 1) (de_ix ix_seq ok_ix (de_var 0) (de_int)))) (de_one (de_not (de_cmp op_ltA ok_cmp (de_var 4) (de_dg (by exact hr.units) (de_var 1) (de_ix ix_seq ok_ix (de_var 0) (de_int)))))))) (da_nil)))))))))))))))
theorem sc_l_told_right : FnScope N_l_told_right ["_law_told", "_law_due"] (defScope s_l_told_right) := ⟨rfl, rfl, rfl, by decide +kernel, rfl, by decide +kernel, by decide +kernel⟩
theorem ok_l_told_right {f : Addr} {fd : FuncData} (F : Fun K "_law_told_right" "_law_told_right" s_l_told_right f fd) (T : Tx K mg) : FnG P w K mg base 1 f fd ["_law_told", "_law_due"] (spD (GG K fa) 2 F_l_told_right) := by
  have sc := sc_l_told_right
  refine fn_okG (G := GG K fa) F sc fun cdv A outer s H E g hr tk po => ?_
  exact dss_cons (ds_if (dw_pt (dw_or (dt_not (dt_val (de_isi (T := "tuple") rfl (by decide) (by rfl) T.b_isinstance (by rfl) T.b_tuple (by decide +kernel) (de_var 0)))) (dw_or (dt_cmp (op_neA (by exact hr.units)) ok_ne (de_callB call_len ok_len (by rfl) T.b_len (by decide +kernel) (da_cons (de_var 0) (da_nil))) (de_int)) (dw_or (dt_not (dt_val (de_isi (T := "dict") rfl (by decide) (by rfl) T.b_isinstance (by rfl) T.b_dict (by decide +kernel) (de_ix ix_seq ok_ix (de_var 0) (de_int))))) (dw_or1 (dt_not (dt_val (de_isi (T := "bool") rfl (by decide) (by rfl) T.b_isinstance (by rfl) T.b_bool (by decide +kernel) (de_ix ix_seq ok_ix (de_var 0) (de_int)))))))))) (dss_one (ds_ret (de_bl))) (dss_nil)) (dss_cons (ds_setLc (i := 2) [("_law_column", 3)] fin_list rfl sc.nd (di_seq rfl (de_callB (call_sortedD rfl) ok_sortDk (by rfl) T.b_sorted (by decide +kernel) (da_cons (de_ix ix_seq ok_ix (de_var 0) (de_int)) (da_nil)))) (blkOk_by (N := N_l_told_right) (sc := defScope s_l_told_right) (by decide +kernel)) (fun _ _ _ _ _ => dg_name (i := 3) sc.nd) (fun _ _ _ _ _ => dts_nil) (fun _ _ _ _ _ => de_tup (da_cons (de_var 3) (da_cons (de_callB (call_reprG (by exact g) (by exact hr.units)) ok_reprG (by rfl) T.b_repr (by decide +kernel) (da_cons (de_dg (by exact hr.units) (de_ix ix_seq ok_ix (de_var 0) (de_int)) (de_var 3)) (da_nil))) (da_nil))))) (dss_one (ds_ret (de_and (de_cmp (op_eqA (by exact hr.units)) ok_eq (de_var 2) (de_lc [("_law_column", 3)] fin_list rfl sc.nd (di_seq rfl (de_callB (call_sortedD rfl) ok_sortDk (by rfl) T.b_sorted (by decide +kernel) (da_cons (de_ix ix_seq ok_ix (de_var 1) (de_int)) (da_nil)))) (blkOk_by (N := N_l_told_right) (sc := defScope s_l_told_right) (by decide +kernel)) (fun _ _ _ _ _ => dg_name (i := 3) sc.nd) (fun _ _ _ _ _ => dts_nil) (fun _ _ _ _ _ => de_tup (da_cons (de_var 3) (da_cons (de_callB (call_reprG (by exact g) (by exact hr.units)) ok_reprG (by rfl) T.b_repr (by decide +kernel) (da_cons (de_dg (by exact hr.units) (de_ix ix_seq ok_ix (de_var 1) (de_int)) (de_var 3)) (da_nil))) (da_nil)))))) (de_one (de_cmp (op_eqA (by exact hr.units)) ok_eq (de_ix ix_seq ok_ix (de_var 0) (de_int)) (de_ix ix_seq ok_ix (de_var 1) (de_int))))))))
theorem sc_cell_worth : FnScope N_cell_worth ["text"] (defScope s_cell_worth) := ⟨rfl, rfl, rfl, by decide +kernel, rfl, by decide +kernel, by decide +kernel⟩
theorem ok_cell_worth {f : Addr} {fd : FuncData} (F : Fun K "cell_worth" "cell_worth" s_cell_worth f fd) (T : Tx K mg) : FnG P w K mg base 1 f fd ["text"] (spD (GG K fa) 1 F_cell_worth) := by
  have sc := sc_cell_worth
  refine fn_okG (G := GG K fa) F sc fun cdv A outer s H E g hr tk po => ?_
  exact dss_cons (ds_set (i := 1) sc.nd (de_bm PySem.F.plainAttrs_str PySem.F.slot_str_strip PySem.F.type_str_strip mt_stripChars ok_stripC ty_str rfl (de_var 0) (da_cons (de_str) (da_nil)))) (dss_one (ds_ret (de_ifExp (dt_cmp (op_neA (by exact hr.units)) ok_ne (de_var 1) (de_str)) (de_var 1) (de_non))))
theorem sc_cut_step : FnScope N_cut_step ["step", "worths"] (defScope s_cut_step) := ⟨rfl, rfl, rfl, by decide +kernel, rfl, by decide +kernel, by decide +kernel⟩
theorem ok_cut_step {f : Addr} {fd : FuncData} (F : Fun K "cut_step" "cut_step" s_cut_step f fd) (T : Tx K mg) (C_cell_worth : Cal P w (GG K fa) mg base "cell_worth" 1 ["text"] [] F_cell_worth) : FnG P w K mg base 2 f fd ["step", "worths"] (spD (GG K fa) 2 F_cut_step) := by
  have sc := sc_cut_step
  refine fn_okG (G := GG K fa) F sc fun cdv A outer s H E g hr tk po => ?_
  exact dss_cons (ds_asg (de_var 0) (dg_tup rfl rfl (dgs_cons (dg_name (i := 2) sc.nd) (dgs_cons (dg_name (i := 3) sc.nd) (dgs_cons (dg_name (i := 4) sc.nd) (dgs_cons (dg_name (i := 5) sc.nd) (dgs_cons (dg_name (i := 6) sc.nd) (dgs_nil)))))))) (dss_cons (ds_set (i := 7) sc.nd (de_dg (by exact hr.units) (de_var 1) (de_var 4))) (dss_cons (ds_set (i := 8) sc.nd (de_ifExp (dt_isN (de_var 7)) (de_lst (da_nil)) (de_lc [("part", 9)] fin_list rfl sc.nd (di_seq rfl (de_bm PySem.F.plainAttrs_str PySem.F.slot_str_split PySem.F.type_str_split mt_split ok_split ty_str rfl (de_var 7) (da_cons (de_var 5) (da_nil)))) (blkOk_by (N := N_cut_step) (sc := defScope s_cut_step) (by decide +kernel)) (fun _ _ _ _ _ => dg_name (i := 9) sc.nd) (fun _ _ _ _ _ => dts_nil) (fun _ _ _ _ _ => de_calC rfl C_cell_worth (by exact g) (by exact hr.mono (by decide)) takes0 (by rfl) (da_cons (de_var 9) (da_nil)))))) (dss_cons (ds_if (dt_cmp (op_eqA (by exact hr.units)) ok_eq (de_callB call_len ok_len (by rfl) T.b_len (by decide +kernel) (da_cons (de_var 8) (da_nil))) (de_callB call_len ok_len (by rfl) T.b_len (by decide +kernel) (da_cons (de_var 6) (da_nil)))) (dss_one (ds_ret (de_tup (da_cons (de_dictZip ok_finDat rfl rfl (by rfl) T.b_dict (by rfl) T.b_zip (da_cons (de_var 6) (da_cons (de_var 8) (da_nil)))) (da_cons (de_bl) (da_nil)))))) (dss_nil)) (dss_one (ds_ret (de_tup (da_cons (de_dc [("new", 10)] rfl sc.nd (di_seq rfl (de_var 6)) (blkOk_by (N := N_cut_step) (sc := defScope s_cut_step) (by decide +kernel)) (fun _ _ _ _ _ => dg_name (i := 10) sc.nd) (fun _ _ _ _ _ => dts_nil) (fun _ _ _ _ _ => de_var 10) (fun _ _ _ _ _ => de_non)) (da_cons (de_notN (de_var 7)) (da_nil)))))))))
theorem sc_glue_step : FnScope N_glue_step ["step", "worths"] (defScope s_glue_step) := ⟨rfl, rfl, rfl, by decide +kernel, rfl, by decide +kernel, by decide +kernel⟩
theorem ok_glue_step {f : Addr} {fd : FuncData} (F : Fun K "glue_step" "glue_step" s_glue_step f fd) (T : Tx K mg) : FnG P w K mg base 1 f fd ["step", "worths"] (spD (GG K fa) 2 F_glue_step) := by
  have sc := sc_glue_step
  refine fn_okG (G := GG K fa) F sc fun cdv A outer s H E g hr tk po => ?_
  exact dss_cons (ds_asg (de_var 0) (dg_tup rfl rfl (dgs_cons (dg_name (i := 2) sc.nd) (dgs_cons (dg_name (i := 3) sc.nd) (dgs_cons (dg_name (i := 4) sc.nd) (dgs_cons (dg_name (i := 5) sc.nd) (dgs_cons (dg_name (i := 6) sc.nd) (dgs_nil)))))))) (dss_cons (ds_setLc (i := 7) [("column", 8)] fin_list rfl sc.nd (di_seq rfl (de_var 4)) (blkOk_by (N := N_glue_step) (sc := defScope s_glue_step) (by decide +kernel)) (fun _ _ _ _ _ => dg_name (i := 8) sc.nd) (fun _ _ _ _ _ => dts_one (dt_notN (de_dg (by exact hr.units) (de_var 1) (de_var 8)))) (fun _ _ _ _ _ => de_dg (by exact hr.units) (de_var 1) (de_var 8))) (dss_one (ds_ret (de_tup (da_cons (de_dic (dp_cons (de_var 6) (de_ifExp (dt_cmp (op_neA (by exact hr.units)) ok_ne (de_var 7) (de_lst (da_nil))) (de_bm PySem.F.plainAttrs_str PySem.F.slot_str_join PySem.F.type_str_join mt_join ok_join ty_str rfl (de_var 5) (da_cons (de_var 7) (da_nil))) (de_non)) (dp_nil))) (da_cons (de_bl) (da_nil)))))))
theorem sc_spell_step : FnScope N_spell_step ["step", "worths"] (defScope s_spell_step) := ⟨rfl, rfl, rfl, by decide +kernel, rfl, by decide +kernel, by decide +kernel⟩
theorem ok_spell_step {f : Addr} {fd : FuncData} (F : Fun K "spell_step" "spell_step" s_spell_step f fd) (T : Tx K mg) : FnG P w K mg base 1 f fd ["step", "worths"] (spD (GG K fa) 2 F_spell_step) := by
  have sc := sc_spell_step
  refine fn_okG (G := GG K fa) F sc fun cdv A outer s H E g hr tk po => ?_
  exact dss_cons (ds_asg (de_var 0) (dg_tup rfl rfl (dgs_cons (dg_name (i := 2) sc.nd) (dgs_cons (dg_name (i := 3) sc.nd) (dgs_cons (dg_name (i := 4) sc.nd) (dgs_cons (dg_name (i := 5) sc.nd) (dgs_nil))))))) (dss_cons (ds_set (i := 6) sc.nd (de_dg (by exact hr.units) (de_var 1) (de_var 4))) (dss_cons (ds_set (i := 7) sc.nd (de_callTy (call_dictP2 rfl) ok_dictP (by rfl) T.b_dict (by decide +kernel) (da_cons (de_var 5) (da_nil)))) (dss_one (ds_ret (de_tup (da_cons (de_dic (dp_cons (de_var 4) (de_get2 (by exact hr.units) (de_var 7) (de_var 6) (de_var 6)) (dp_nil))) (da_cons (de_bl) (da_nil))))))))
theorem sc_are_figures : FnScope N_are_figures ["text", "least", "most"] (defScope s_are_figures) := ⟨rfl, rfl, rfl, by decide +kernel, rfl, by decide +kernel, by decide +kernel⟩
theorem ok_are_figures {f : Addr} {fd : FuncData} (F : Fun K "are_figures" "are_figures" s_are_figures f fd) (T : Tx K mg) : FnG P w K mg base 1 f fd ["text", "least", "most"] (spD (GG K fa) 3 F_are_figures) := by
  have sc := sc_are_figures
  obtain ⟨t_FIGURES, c_FIGURES⟩ := T.c_FIGURES
  refine fn_okG (G := GG K fa) F sc fun cdv A outer s H E g hr tk po => ?_
  exact dss_one (ds_ret (de_and (de_chain op_leA ok_cmp op_leA ok_cmp (de_var 1) (de_callB call_len ok_len (by rfl) T.b_len (by decide +kernel) (da_cons (de_var 0) (da_nil))) (de_var 2)) (de_one (de_callB (cr_all rfl) ok_all (by rfl) T.b_all (by decide +kernel) (da_cons (de_lc [("sign", 3)] fin_list rfl sc.nd (di_seq rfl (de_var 0)) (blkOk_by (N := N_are_figures) (sc := defScope s_are_figures) (by decide +kernel)) (fun _ _ _ _ _ => dg_name (i := 3) sc.nd) (fun _ _ _ _ _ => dts_nil) (fun _ _ _ _ _ => de_cmp op_inA ok_in (de_var 3) (de_glob (v := V.str "0123456789") (by rfl) c_FIGURES (by exact ⟨_, rfl⟩) (fun _ => Rp.str _)))) (da_nil))))))
theorem sc_read_whole : FnScope N_read_whole ["text", "most"] (defScope s_read_whole) := ⟨rfl, rfl, rfl, by decide +kernel, rfl, by decide +kernel, by decide +kernel⟩
theorem ok_read_whole {f : Addr} {fd : FuncData} (F : Fun K "read_whole" "read_whole" s_read_whole f fd) (T : Tx K mg) (C_are_figures : Cal P w (GG K fa) mg base "are_figures" 1 ["text", "least", "most"] [] F_are_figures) : FnG P w K mg base 2 f fd ["text", "most"] (spD (GG K fa) 2 F_read_whole) := by
  have sc := sc_read_whole
  refine fn_okG (G := GG K fa) F sc fun cdv A outer s H E g hr tk po => ?_
  exact dss_cons (ds_set (i := 2) sc.nd (de_ifExp (dt_cmp op_inA ok_in (de_slice rfl (de_var 0) (do_none) (do_some (de_int))) (de_tup (da_cons (de_str) (da_cons (de_str) (da_nil))))) (de_slice rfl (de_var 0) (do_some (de_int)) (do_none)) (de_var 0))) (dss_cons (ds_if (dt_not (dt_val (de_calC rfl C_are_figures (by exact g) (by exact hr.mono (by decide)) tk (by rfl) (da_cons (de_var 2) (da_cons (de_int) (da_cons (de_var 1) (da_nil))))))) (dss_one (ds_ret (de_non))) (dss_nil)) (dss_one (ds_ret (de_ifExp (dt_cmp (op_eqA (by exact hr.units)) ok_eq (de_ix ix_seq ok_ix (de_var 0) (de_int)) (de_str)) (de_un un_neg ok_neg (de_callTy call_intA ok_int (by rfl) T.b_int (by decide +kernel) (da_cons (de_var 2) (da_nil)))) (de_callTy call_intA ok_int (by rfl) T.b_int (by decide +kernel) (da_cons (de_var 2) (da_nil)))))))
theorem sc_read_amount : FnScope N_read_amount ["text", "places"] (defScope s_read_amount) := ⟨rfl, rfl, rfl, by decide +kernel, rfl, by decide +kernel, by decide +kernel⟩
theorem ok_read_amount {f : Addr} {fd : FuncData} (F : Fun K "read_amount" "read_amount" s_read_amount f fd) (T : Tx K mg) (C_are_figures : Cal P w (GG K fa) mg base "are_figures" 1 ["text", "least", "most"] [] F_are_figures) (C_read_whole : Cal P w (GG K fa) mg base "read_whole" 2 ["text", "most"] [] F_read_whole) : FnG P w K mg base 3 f fd ["text", "places"] (spD (GG K fa) 2 F_read_amount) := by
  have sc := sc_read_amount
  obtain ⟨t_MOST_AMOUNT, c_MOST_AMOUNT⟩ := T.c_MOST_AMOUNT
  refine fn_okG (G := GG K fa) F sc fun cdv A outer s H E g hr tk po => ?_
  exact dss_cons (ds_part rfl rfl (de_var 0) (de_str) (dgs_cons (dg_name (i := 2) sc.nd) (dgs_cons (dg_name (i := 3) sc.nd) (dgs_cons (dg_name (i := 4) sc.nd) (dgs_nil))))) (dss_cons (ds_if (dw_pt (dw_and (dt_cmp (op_neA (by exact hr.units)) ok_ne (de_var 3) (de_str)) (dw_and1 (dt_not (dt_val (de_calC rfl C_are_figures (by exact g) (by exact hr.mono (by decide)) tk (by rfl) (da_cons (de_var 4) (da_cons (de_int) (da_cons (de_var 1) (da_nil)))))))))) (dss_one (ds_ret (de_non))) (dss_nil)) (dss_cons (ds_if (dt_isN (de_calC rfl C_read_whole (by exact g) (by exact hr.mono (by decide)) tk (by rfl) (da_cons (de_var 2) (da_cons (de_glob (v := V.int 8) (by rfl) c_MOST_AMOUNT (by exact ⟨_, rfl⟩) (fun _ => Rp.int _)) (da_nil))))) (dss_one (ds_ret (de_non))) (dss_nil)) (dss_one (ds_ret (de_calC rfl C_read_whole (by exact g) (by exact hr.mono (by decide)) tk (by rfl) (da_cons (de_op op_addA ok_add (de_var 2) (de_bm PySem.F.plainAttrs_str PySem.F.slot_str_ljust PySem.F.type_str_ljust mt_ljustF ok_padF ty_str rfl (de_var 4) (da_cons (de_var 1) (da_cons (de_str) (da_nil))))) (da_cons (de_op op_addA ok_add (de_glob (v := V.int 8) (by rfl) c_MOST_AMOUNT (by exact ⟨_, rfl⟩) (fun _ => Rp.int _)) (de_var 1)) (da_nil))))))))
theorem sc_is_leap : FnScope N_is_leap ["year"] (defScope s_is_leap) := ⟨rfl, rfl, rfl, by decide +kernel, rfl, by decide +kernel, by decide +kernel⟩
theorem ok_is_leap {f : Addr} {fd : FuncData} (F : Fun K "is_leap" "is_leap" s_is_leap f fd) (T : Tx K mg) : FnG P w K mg base 1 f fd ["year"] (spD (GG K fa) 1 F_is_leap) := by
  have sc := sc_is_leap
  refine fn_okG (G := GG K fa) F sc fun cdv A outer s H E g hr tk po => ?_
  exact dss_one (ds_ret (de_and (de_cmp (op_eqA (by exact hr.units)) ok_eq (de_op op_mod ok_mod (de_var 0) (de_int)) (de_int)) (de_one (de_or (de_cmp (op_neA (by exact hr.units)) ok_ne (de_op op_mod ok_mod (de_var 0) (de_int)) (de_int)) (de_one (de_cmp (op_eqA (by exact hr.units)) ok_eq (de_op op_mod ok_mod (de_var 0) (de_int)) (de_int)))))))
theorem sc_month_days : FnScope N_month_days ["year", "month"] (defScope s_month_days) := ⟨rfl, rfl, rfl, by decide +kernel, rfl, by decide +kernel, by decide +kernel⟩
theorem ok_month_days {f : Addr} {fd : FuncData} (F : Fun K "month_days" "month_days" s_month_days f fd) (T : Tx K mg) (C_is_leap : Cal P w (GG K fa) mg base "is_leap" 1 ["year"] [] F_is_leap) : FnG P w K mg base 2 f fd ["year", "month"] (spD (GG K fa) 2 F_month_days) := by
  have sc := sc_month_days
  obtain ⟨a_MONTHS, c_MONTHS, r_MONTHS⟩ := T.c_MONTHS
  refine fn_okG (G := GG K fa) F sc fun cdv A outer s H E g hr tk po => ?_
  exact dss_one (ds_ret (de_op op_addA ok_add (de_ix ix_seq ok_ix (de_glob (v := V.ref a_MONTHS) (by rfl) c_MONTHS rfl (fun w => r_MONTHS w.I)) (de_op op_sub ok_sub (de_var 1) (de_int))) (de_callTy call_intA ok_int (by rfl) T.b_int (by decide +kernel) (da_cons (de_and (de_cmp (op_eqA (by exact hr.units)) ok_eq (de_var 1) (de_int)) (de_one (de_calC rfl C_is_leap (by exact g) (by exact hr.mono (by decide)) tk (by rfl) (da_cons (de_var 0) (da_nil))))) (da_nil)))))
theorem sc_days_ahead : FnScope N_days_ahead ["year"] (defScope s_days_ahead) := ⟨rfl, rfl, rfl, by decide +kernel, rfl, by decide +kernel, by decide +kernel⟩
theorem ok_days_ahead {f : Addr} {fd : FuncData} (F : Fun K "days_ahead" "days_ahead" s_days_ahead f fd) (T : Tx K mg) : FnG P w K mg base 1 f fd ["year"] (spD (GG K fa) 1 F_days_ahead) := by
  have sc := sc_days_ahead
  refine fn_okG (G := GG K fa) F sc fun cdv A outer s H E g hr tk po => ?_
  exact dss_cons (ds_set (i := 1) sc.nd (de_op op_sub ok_sub (de_var 0) (de_int))) (dss_one (ds_ret (de_op op_addA ok_add (de_op op_sub ok_sub (de_op op_addA ok_add (de_op op_mulA ok_mulA (de_int) (de_var 1)) (de_op op_fdivW ok_div (de_var 1) (de_int))) (de_op op_fdivW ok_div (de_var 1) (de_int))) (de_op op_fdivW ok_div (de_var 1) (de_int)))))
theorem sc_day_number : FnScope N_day_number ["year", "month", "day"] (defScope s_day_number) := ⟨rfl, rfl, rfl, by decide +kernel, rfl, by decide +kernel, by decide +kernel⟩
theorem ok_day_number {f : Addr} {fd : FuncData} (F : Fun K "day_number" "day_number" s_day_number f fd) (T : Tx K mg) (C_month_days : Cal P w (GG K fa) mg base "month_days" 2 ["year", "month"] [] F_month_days) (C_days_ahead : Cal P w (GG K fa) mg base "days_ahead" 1 ["year"] [] F_days_ahead) : FnG P w K mg base 3 f fd ["year", "month", "day"] (spD (GG K fa) 3 F_day_number) := by
  have sc := sc_day_number
  obtain ⟨a_MONTHS, c_MONTHS, r_MONTHS⟩ := T.c_MONTHS
  refine fn_okG (G := GG K fa) F sc fun cdv A outer s H E g hr tk po => ?_
  exact dss_cons (ds_if (dw_pt (dw_or (dt_cmp (op_eqA (by exact hr.units)) ok_eq (de_var 0) (de_int)) (dw_or (dt_not (dt_chain op_leA ok_cmp op_leA ok_cmp (de_int) (de_var 1) (de_callB call_len ok_len (by rfl) T.b_len (by decide +kernel) (da_cons (de_glob (v := V.ref a_MONTHS) (by rfl) c_MONTHS rfl (fun w => r_MONTHS w.I)) (da_nil))))) (dw_or1 (dt_not (dt_chain op_leA ok_cmp op_leA ok_cmp (de_int) (de_var 2) (de_calC rfl C_month_days (by exact g) (by exact hr.mono (by decide)) tk (by rfl) (da_cons (de_var 0) (da_cons (de_var 1) (da_nil)))))))))) (dss_one (ds_ret (de_non))) (dss_nil)) (dss_one (ds_ret (de_op op_sub ok_sub (de_op op_addA ok_add (de_op op_addA ok_add (de_calC rfl C_days_ahead (by exact g) (by exact hr.mono (by decide)) tk (by rfl) (da_cons (de_var 0) (da_nil))) (de_callB (cr_sum rfl) ok_sum (by rfl) T.b_sum (by decide +kernel) (da_cons (de_lc [("one", 3)] fin_list rfl sc.nd (di_range2 (by rfl) T.b_range (da_cons (de_int) (da_cons (de_var 1) (da_nil)))) (blkOk_by (N := N_day_number) (sc := defScope s_day_number) (by decide +kernel)) (fun _ _ _ _ _ => dg_name (i := 3) sc.nd) (fun _ _ _ _ _ => dts_nil) (fun _ _ _ _ _ => de_calC rfl C_month_days (by exact g) (by exact hr.mono (by decide)) takes0 (by rfl) (da_cons (de_var 0) (da_cons (de_var 3) (da_nil))))) (da_nil)))) (de_var 2)) (de_int))))
theorem sc_read_day : FnScope N_read_day ["text", "order"] (defScope s_read_day) := ⟨rfl, rfl, rfl, by decide +kernel, rfl, by decide +kernel, by decide +kernel⟩
theorem ok_read_day {f : Addr} {fd : FuncData} (F : Fun K "read_day" "read_day" s_read_day f fd) (T : Tx K mg) (C_are_figures : Cal P w (GG K fa) mg base "are_figures" 1 ["text", "least", "most"] [] F_are_figures) (C_day_number : Cal P w (GG K fa) mg base "day_number" 3 ["year", "month", "day"] [] F_day_number) : FnG P w K mg base 4 f fd ["text", "order"] (spD (GG K fa) 2 F_read_day) := by
  have sc := sc_read_day
  obtain ⟨t_PARTINGS, c_PARTINGS⟩ := T.c_PARTINGS
  refine fn_okG (G := GG K fa) F sc fun cdv A outer s H E g hr tk po => ?_
  exact dss_cons (ds_for po rfl (di_seq rfl (de_glob (v := V.str "-./") (by rfl) c_PARTINGS (by exact ⟨_, rfl⟩) (fun _ => Rp.str _))) (dg_name (i := 2) sc.nd) (dss_cons (ds_set (i := 3) sc.nd (de_bm PySem.F.plainAttrs_str PySem.F.slot_str_split PySem.F.type_str_split mt_split ok_split ty_str rfl (de_var 0) (da_cons (de_var 2) (da_nil)))) (dss_one (ds_if (dt_cmp (op_eqA (by exact hr.units)) ok_eq (de_callB call_len ok_len (by rfl) T.b_len (by decide +kernel) (da_cons (de_var 3) (da_nil))) (de_int)) (dss_cons (ds_set (i := 4) sc.nd (de_dc [("letter", 5), ("part", 6)] rfl sc.nd (di_zip rfl (by rfl) T.b_zip (da_cons (de_var 1) (da_cons (de_var 3) (da_nil)))) (blkOk_by (N := N_read_day) (sc := defScope s_read_day) (by decide +kernel)) (fun _ _ _ _ _ => dg_tup rfl rfl (dgs_cons (dg_name (i := 5) sc.nd) (dgs_cons (dg_name (i := 6) sc.nd) (dgs_nil)))) (fun _ _ _ _ _ => dts_nil) (fun _ _ _ _ _ => de_var 5) (fun _ _ _ _ _ => de_var 6))) (dss_cons (ds_if (dw_pt (dw_or (dt_not (dt_val (de_calC rfl C_are_figures (by exact g) (by exact hr.mono (by decide)) tk (by rfl) (da_cons (de_dg (by exact hr.units) (de_var 4) (de_str)) (da_cons (de_int) (da_cons (de_int) (da_nil))))))) (dw_or1 (dt_not (dt_val (de_callB (cr_all rfl) ok_all (by rfl) T.b_all (by decide +kernel) (da_cons (de_lc [("one", 7)] fin_list rfl sc.nd (di_seq rfl (de_str)) (blkOk_by (N := N_read_day) (sc := defScope s_read_day) (by decide +kernel)) (fun _ _ _ _ _ => dg_name (i := 7) sc.nd) (fun _ _ _ _ _ => dts_nil) (fun _ _ _ _ _ => de_calC rfl C_are_figures (by exact g) (by exact hr.mono (by decide)) takes0 (by rfl) (da_cons (de_dg (by exact hr.units) (de_var 4) (de_var 7)) (da_cons (de_int) (da_cons (de_int) (da_nil)))))) (da_nil)))))))) (dss_one (ds_ret (de_non))) (dss_nil)) (dss_one (ds_ret (de_calC rfl C_day_number (by exact g) (by exact hr.mono (by decide)) tk (by rfl) (da_cons (de_callTy call_intA ok_int (by rfl) T.b_int (by decide +kernel) (da_cons (de_dg (by exact hr.units) (de_var 4) (de_str)) (da_nil))) (da_cons (de_callTy call_intA ok_int (by rfl) T.b_int (by decide +kernel) (da_cons (de_dg (by exact hr.units) (de_var 4) (de_str)) (da_nil))) (da_cons (de_callTy call_intA ok_int (by rfl) T.b_int (by decide +kernel) (da_cons (de_dg (by exact hr.units) (de_var 4) (de_str)) (da_nil))) (da_nil))))))))) (dss_nil))))) (dss_one (ds_ret (de_non)))
theorem sc_read_as : FnScope N_read_as ["form", "text"] (defScope s_read_as) := ⟨rfl, rfl, rfl, by decide +kernel, rfl, by decide +kernel, by decide +kernel⟩
theorem ok_read_as {f : Addr} {fd : FuncData} (F : Fun K "read_as" "read_as" s_read_as f fd) (T : Tx K mg) (C_read_whole : Cal P w (GG K fa) mg base "read_whole" 2 ["text", "most"] [] F_read_whole) (C_read_amount : Cal P w (GG K fa) mg base "read_amount" 3 ["text", "places"] [] F_read_amount) (C_read_day : Cal P w (GG K fa) mg base "read_day" 4 ["text", "order"] [] F_read_day) : FnG P w K mg base 5 f fd ["form", "text"] (spD (GG K fa) 2 F_read_as) := by
  have sc := sc_read_as
  obtain ⟨t_MOST_WHOLE, c_MOST_WHOLE⟩ := T.c_MOST_WHOLE
  refine fn_okG (G := GG K fa) F sc fun cdv A outer s H E g hr tk po => ?_
  exact dss_cons (ds_asg (de_var 0) (dg_star rfl rfl (dgs_cons (dg_name (i := 2) sc.nd) (dgs_star (dg_name (i := 3) sc.nd) (dgs_nil))))) (dss_cons (ds_if (dt_cmp (op_eqA (by exact hr.units)) ok_eq (de_var 2) (de_str)) (dss_one (ds_ret (de_calC rfl C_read_whole (by exact g) (by exact hr.mono (by decide)) tk (by rfl) (da_cons (de_var 1) (da_cons (de_glob (v := V.int 9) (by rfl) c_MOST_WHOLE (by exact ⟨_, rfl⟩) (fun _ => Rp.int _)) (da_nil)))))) (dss_nil)) (dss_one (ds_ret (de_ifExp (dt_cmp (op_eqA (by exact hr.units)) ok_eq (de_var 2) (de_str)) (de_calC rfl C_read_amount (by exact g) (by exact hr.mono (by decide)) tk (by rfl) (da_cons (de_var 1) (da_cons (de_ix ix_seq ok_ix (de_var 3) (de_int)) (da_nil)))) (de_calC rfl C_read_day (by exact g) (by exact hr.mono (by decide)) tk (by rfl) (da_cons (de_var 1) (da_cons (de_ix ix_seq ok_ix (de_var 3) (de_int)) (da_nil))))))))
theorem sc_read_step : FnScope N_read_step ["step", "worths"] (defScope s_read_step) := ⟨rfl, rfl, rfl, by decide +kernel, rfl, by decide +kernel, by decide +kernel⟩
theorem ok_read_step {f : Addr} {fd : FuncData} (F : Fun K "read_step" "read_step" s_read_step f fd) (T : Tx K mg) (C_read_as : Cal P w (GG K fa) mg base "read_as" 5 ["form", "text"] [] F_read_as) : FnG P w K mg base 6 f fd ["step", "worths"] (spD (GG K fa) 2 F_read_step) := by
  have sc := sc_read_step
  refine fn_okG (G := GG K fa) F sc fun cdv A outer s H E g hr tk po => ?_
  exact dss_cons (ds_asg (de_var 0) (dg_tup rfl rfl (dgs_cons (dg_name (i := 2) sc.nd) (dgs_cons (dg_name (i := 3) sc.nd) (dgs_cons (dg_name (i := 4) sc.nd) (dgs_cons (dg_name (i := 5) sc.nd) (dgs_cons (dg_name (i := 6) sc.nd) (dgs_nil)))))))) (dss_cons (ds_set (i := 7) sc.nd (de_dg (by exact hr.units) (de_var 1) (de_var 4))) (dss_cons (ds_set (i := 8) sc.nd (de_ifExp (dt_isN (de_var 7)) (de_non) (de_calC rfl C_read_as (by exact g) (by exact hr.mono (by decide)) tk (by rfl) (da_cons (de_var 5) (da_cons (de_var 7) (da_nil)))))) (dss_one (ds_ret (de_tup (da_cons (de_dic (dp_cons (de_var 6) (de_var 8) (dp_nil))) (da_cons (de_and (de_notN (de_var 7)) (de_one (de_isN (de_var 8)))) (da_nil))))))))
theorem sc_put_step : FnScope N_put_step ["step", "worths"] (defScope s_put_step) := ⟨rfl, rfl, rfl, by decide +kernel, rfl, by decide +kernel, by decide +kernel⟩
theorem ok_put_step {f : Addr} {fd : FuncData} (F : Fun K "put_step" "put_step" s_put_step f fd) (T : Tx K mg) : FnG P w K mg base 1 f fd ["step", "worths"] (spD (GG K fa) 2 F_put_step) := by
  have sc := sc_put_step
  refine fn_okG (G := GG K fa) F sc fun cdv A outer s H E g hr tk po => ?_
  exact dss_cons (ds_asg (de_var 0) (dg_tup rfl rfl (dgs_cons (dg_name (i := 2) sc.nd) (dgs_cons (dg_name (i := 3) sc.nd) (dgs_cons (dg_name (i := 4) sc.nd) (dgs_cons (dg_name (i := 5) sc.nd) (dgs_nil))))))) (dss_cons (ds_set (i := 6) sc.nd (de_dg (by exact hr.units) (de_var 1) (de_var 4))) (dss_one (ds_ret (de_tup (da_cons (de_dic (dp_cons (de_var 4) (de_ifExp (dt_isN (de_var 6)) (de_var 5) (de_var 6)) (dp_nil))) (da_cons (de_bl) (da_nil)))))))
theorem sc_given_step : FnScope N_given_step ["step", "worths"] (defScope s_given_step) := ⟨rfl, rfl, rfl, by decide +kernel, rfl, by decide +kernel, by decide +kernel⟩
theorem ok_given_step {f : Addr} {fd : FuncData} (F : Fun K "given_step" "given_step" s_given_step f fd) (T : Tx K mg) : FnG P w K mg base 1 f fd ["step", "worths"] (spD (GG K fa) 2 F_given_step) := by
  have sc := sc_given_step
  refine fn_okG (G := GG K fa) F sc fun cdv A outer s H E g hr tk po => ?_
  exact dss_one (ds_ret (de_tup (da_cons (de_dic0) (da_cons (de_isN (de_dg (by exact hr.units) (de_var 1) (de_ix ix_seq ok_ix (de_var 0) (de_int)))) (da_nil)))))
theorem sc_within_step : FnScope N_within_step ["step", "worths"] (defScope s_within_step) := ⟨rfl, rfl, rfl, by decide +kernel, rfl, by decide +kernel, by decide +kernel⟩
theorem ok_within_step {f : Addr} {fd : FuncData} (F : Fun K "within_step" "within_step" s_within_step f fd) (T : Tx K mg) : FnG P w K mg base 1 f fd ["step", "worths"] (spD (GG K fa) 2 F_within_step) := by
  have sc := sc_within_step
  refine fn_okG (G := GG K fa) F sc fun cdv A outer s H E g hr tk po => ?_
  exact dss_cons (ds_asg (de_var 0) (dg_tup rfl rfl (dgs_cons (dg_name (i := 2) sc.nd) (dgs_cons (dg_name (i := 3) sc.nd) (dgs_cons (dg_name (i := 4) sc.nd) (dgs_cons (dg_name (i := 5) sc.nd) (dgs_cons (dg_name (i := 6) sc.nd) (dgs_nil)))))))) (dss_cons (ds_set (i := 7) sc.nd (de_dg (by exact hr.units) (de_var 1) (de_var 4))) (dss_one (ds_ret (de_tup (da_cons (de_dic0) (da_cons (de_and (de_notN (de_var 7)) (de_one (de_not (de_chain op_leA ok_cmp op_leA ok_cmp (de_var 5) (de_var 7) (de_var 6))))) (da_nil)))))))
theorem sc_among_step : FnScope N_among_step ["step", "worths"] (defScope s_among_step) := ⟨rfl, rfl, rfl, by decide +kernel, rfl, by decide +kernel, by decide +kernel⟩
theorem ok_among_step {f : Addr} {fd : FuncData} (F : Fun K "among_step" "among_step" s_among_step f fd) (T : Tx K mg) : FnG P w K mg base 1 f fd ["step", "worths"] (spD (GG K fa) 2 F_among_step) := by
  have sc := sc_among_step
  refine fn_okG (G := GG K fa) F sc fun cdv A outer s H E g hr tk po => ?_
  exact dss_cons (ds_asg (de_var 0) (dg_tup rfl rfl (dgs_cons (dg_name (i := 2) sc.nd) (dgs_cons (dg_name (i := 3) sc.nd) (dgs_cons (dg_name (i := 4) sc.nd) (dgs_cons (dg_name (i := 5) sc.nd) (dgs_nil))))))) (dss_cons (ds_set (i := 6) sc.nd (de_dg (by exact hr.units) (de_var 1) (de_var 4))) (dss_one (ds_ret (de_tup (da_cons (de_dic0) (da_cons (de_and (de_notN (de_var 6)) (de_one (de_cmp op_notInA ok_in (de_var 6) (de_var 5)))) (da_nil)))))))
theorem sc_before_step : FnScope N_before_step ["step", "worths"] (defScope s_before_step) := ⟨rfl, rfl, rfl, by decide +kernel, rfl, by decide +kernel, by decide +kernel⟩
theorem ok_before_step {f : Addr} {fd : FuncData} (F : Fun K "before_step" "before_step" s_before_step f fd) (T : Tx K mg) : FnG P w K mg base 1 f fd ["step", "worths"] (spD (GG K fa) 2 F_before_step) := by
  have sc := sc_before_step
  refine fn_okG (G := GG K fa) F sc fun cdv A outer s H E g hr tk po => ?_
  exact dss_cons (ds_asg (de_var 0) (dg_tup rfl rfl (dgs_cons (dg_name (i := 2) sc.nd) (dgs_cons (dg_name (i := 3) sc.nd) (dgs_cons (dg_name (i := 4) sc.nd) (dgs_cons (dg_name (i := 5) sc.nd) (dgs_nil))))))) (dss_cons (ds_par (i := 6) (j := 7) rfl sc.nd (da_cons (de_dg (by exact hr.units) (de_var 1) (de_var 4)) (da_cons (de_dg (by exact hr.units) (de_var 1) (de_var 5)) (da_nil)))) (dss_one (ds_ret (de_tup (da_cons (de_dic0) (da_cons (de_and (de_notN (de_var 6)) (de_and (de_notN (de_var 7)) (de_one (de_cmp op_geA ok_cmp (de_var 6) (de_var 7))))) (da_nil)))))))
theorem sc_done : FnScope N_done ["step", "worths"] (defScope s_done) := ⟨rfl, rfl, rfl, by decide +kernel, rfl, by decide +kernel, by decide +kernel⟩
theorem ok_done {f : Addr} {fd : FuncData} (F : Fun K "done" "done" s_done f fd) (T : Tx K mg) (KT_DONE : ∃ a, mg "DONE" = some (.ref a) ∧ FTab K w fa a tab_DONE) (CF_DONE : ∀ n F, Fs_DONE n = some F → CalV P w (GG K fa) mg base 6 2 n F) : FnG P w K mg base 7 f fd ["step", "worths"] (spD (GG K fa) 2 F_done) := by
  have sc := sc_done
  refine fn_okG (G := GG K fa) F sc fun cdv A outer s H E g hr tk po => ?_
  exact dss_cons (ds_set (i := 2) sc.nd (de_ftab KT_DONE (by rfl) (de_ix ix_seq ok_ix (de_var 0) (de_int)))) (dss_one (ds_ret (de_callV 2 rfl CF_DONE (by exact g) (by exact hr.mono (by decide)) tk (da_cons (de_var 0) (da_cons (de_var 1) (da_nil))))))
theorem sc_law : FnScope N_law ["_law_script"] (defScope s_law) := ⟨rfl, rfl, rfl, by decide +kernel, rfl, by decide +kernel, by decide +kernel⟩
theorem ok_law {f : Addr} {fd : FuncData} (F : Fun K "law" "law" s_law f fd) (T : Tx K mg) (C_l_hand : Cal P w (GG K fa) mg base "_law_hand" 1 ["_law_script", "_law_k"] [] F_l_hand) (C_l_take : Cal P w (GG K fa) mg base "_law_take" 1 ["_law_hand_here", "_law_many"] [] F_l_take) (C_l_case : Cal P w (GG K fa) mg base "_law_case" 5 ["_law_hand_here", "_law_lot"] [] F_l_case) (C_l_does : Cal P w (GG K fa) mg base "_law_does" 4 ["_law_deed", "_law_here"] [] F_l_does) (C_l_told_right : Cal P w (GG K fa) mg base "_law_told_right" 1 ["_law_told", "_law_due"] [] F_l_told_right) (C_done : Cal P w (GG K fa) mg base "done" 7 ["step", "worths"] [(["worths", "step"], [1, 0])] F_done) : FnG P w K mg base 8 f fd ["_law_script"] (spD (GG K fa) 1 F_law) := by
  have sc := sc_law
  refine fn_okG (G := GG K fa) F sc fun cdv A outer s H E g hr tk po => ?_
  exact dss_cons (ds_for po rfl (di_range1 (by rfl) T.b_range (da_cons (de_callB (call_max2 rfl) ok_max (by rfl) T.b_max (by decide +kernel) (da_cons (de_int) (da_cons (de_callB (call_min2 rfl) ok_min (by rfl) T.b_min (by decide +kernel) (da_cons (de_int) (da_cons (de_callB call_len ok_len (by rfl) T.b_len (by decide +kernel) (da_cons (de_var 0) (da_nil))) (da_nil)))) (da_nil)))) (da_nil))) (dg_name (i := 1) sc.nd) (dss_cons (ds_set (i := 2) sc.nd (de_calC rfl C_l_hand (by exact g) (by exact hr.mono (by decide)) tk (by rfl) (da_cons (de_var 0) (da_cons (de_var 1) (da_nil))))) (dss_cons (ds_set (i := 3) sc.nd (de_calC rfl C_l_take (by exact g) (by exact hr.mono (by decide)) tk (by rfl) (da_cons (de_var 2) (da_cons (de_int) (da_nil))))) (dss_one (ds_for po rfl (di_range1 (by rfl) T.b_range (da_cons (de_int) (da_nil))) (dg_name (i := 4) sc.nd) (dss_cons (ds_asg (de_calC rfl C_l_case (by exact g) (by exact hr.mono (by decide)) tk (by rfl) (da_cons (de_var 2) (da_cons (de_op op_mod ok_mod (de_op op_addA ok_add (de_var 3) (de_var 4)) (de_int)) (da_nil)))) (dg_tup rfl rfl (dgs_cons (dg_name (i := 5) sc.nd) (dgs_cons (dg_name (i := 6) sc.nd) (dgs_nil))))) (dss_cons (ds_par (i := 7) (j := 8) rfl sc.nd (da_cons (de_callB (call_reprG (by exact g) (by exact hr.units)) ok_reprG (by rfl) T.b_repr (by decide +kernel) (da_cons (de_tup (da_cons (de_var 5) (da_cons (de_var 6) (da_nil)))) (da_nil))) (da_cons (de_calC rfl C_l_does (by exact g) (by exact hr.mono (by decide)) tk (by rfl) (da_cons (de_var 5) (da_cons (de_var 6) (da_nil)))) (da_nil)))) (dss_cons (ds_if (dw_pt (dw_or (dt_not (dt_val (de_calC rfl C_l_told_right (by exact g) (by exact hr.mono (by decide)) tk (by rfl) (da_cons (de_calC rfl C_done (by exact g) (by exact hr.mono (by decide)) tk (by rfl) (da_cons (de_var 5) (da_cons (de_var 6) (da_nil)))) (da_cons (de_var 8) (da_nil)))))) (dw_or1 (dt_not (dt_val (de_calC rfl C_l_told_right (by exact g) (by exact hr.mono (by decide)) tk (by rfl) (da_cons (de_calK ["worths", "step"] [1, 0] rfl C_done (by exact g) (by exact hr.mono (by decide)) tk (by rfl) (dk_cons (de_var 6) (dk_cons (de_var 5) (dk_nil))) (by simp)) (da_cons (de_var 8) (da_nil))))))))) (dss_one (ds_ret (de_bl))) (dss_nil)) (dss_one (ds_if (dt_cmp (op_neA (by exact hr.units)) ok_ne (de_callB (call_reprG (by exact g) (by exact hr.units)) ok_reprG (by rfl) T.b_repr (by decide +kernel) (da_cons (de_tup (da_cons (de_var 5) (da_cons (de_var 6) (da_nil)))) (da_nil))) (de_var 7)) (dss_one (ds_ret (de_bl))) (dss_nil))))))))))) (dss_one (ds_ret (de_bl)))
end
end LW

namespace LW
open PySem PySem.Spec PyProof.Rows L2 DL
/-- the box: three numbers in bounds; m: how many draws at most so far -/
def Bx (h m : Nat) (μ : Store) : Prop := ∃ a b c : Int, μ[h]? = some (.lst [.d (.int a), .d (.int b), .d (.int c)]) ∧ 0 ≤ a ∧ 0 ≤ b ∧ b < 2 ^ 62 ∧ 0 ≤ c ∧ c ≤ m
theorem Bx.mono {h m n : Nat} {μ : Store} (x : Bx h m μ) (l : m ≤ n) : Bx h n μ := by
  obtain ⟨a, b, c, e, h1, h3, h4, h5, h6⟩ := x
  exact ⟨a, b, c, e, h1, h3, h4, h5, by omega⟩
theorem w_take {h m : Nat} {μ : Store} {P : Dv → Store → Prop} (H : Bx h m μ) (hm : m ≤ 10 ^ 9) {n : Int} (h0 : 0 < n) (h1 : n < 2 ^ 60) (fin : ∀ (r : Nat) μ', (r : Int) < n → Bx h (m + 1) μ' → Oth h μ μ' → P (.d (.int r)) μ') : Wp (F_l_take [.c h, .d (.int n)] μ) P := by
  obtain ⟨a, b, c, e, a0, b0, b1, c0, c1⟩ := H
  have hh := lt_of_get e
  have i0 : L2.atI [Dv.d (.int a), Dv.d (.int b), Dv.d (.int c)] 0 = some (.d (.int a)) := rfl
  have i2 : L2.atI [Dv.d (.int a), Dv.d (.int b), Dv.d (.int c)] 2 = some (.d (.int c)) := rfl
  have nn : ∀ x : Int, ∃ r : Nat, x % n = (r : Int) ∧ (r : Int) < n := fun x => ⟨(x % n).toNat, (Int.toNat_of_nonneg (Int.emod_nonneg _ (by omega))).symm, by rw [Int.toNat_of_nonneg (Int.emod_nonneg _ (by omega))]; exact Int.emod_lt_of_pos _ h0⟩
  unfold F_l_take B_l_take
  apply Wp_run
  by_cases ha : 0 < a
  · obtain ⟨r, er, hr⟩ := nn a
    simp_arith [r1_l_take, r2_l_take, dIx_c e i0, ha, dSetIx_c e (show L2.ixN _ 0 = some 0 from rfl), er]
    exact fin r _ hr ⟨a / n, b, c, by rw [List.getElem?_set_self hh], Int.ediv_nonneg a0 (by omega), b0, b1, c0, by omega⟩ (Oth.set _ _ _)
  · have e' : (μ.set h (.lst [.d (.int a), .d (.int b), .d (.int (c + 1))]))[h]? = some (.lst [.d (.int a), .d (.int b), .d (.int (c + 1))]) := by rw [List.getElem?_set_self hh]
    have i1' : L2.atI [Dv.d (.int a), Dv.d (.int b), Dv.d (.int (c + 1))] 1 = some (.d (.int b)) := rfl
    have i2' : L2.atI [Dv.d (.int a), Dv.d (.int b), Dv.d (.int (c + 1))] 2 = some (.d (.int (c + 1))) := rfl
    have cT : c + 1 < 2 ^ 40 := by omega
    have m1 : cMul 7919 (c + 1) = true := cMul_ok (a := 20) (b := 41) (by decide) (by omega) (by decide) (by decide) (by decide)
    obtain ⟨q, eq, hq⟩ : ∃ q : Nat, (c + 1) % 8 = (q : Int) ∧ q < 8 := ⟨((c + 1) % 8).toNat, (Int.toNat_of_nonneg (Int.emod_nonneg _ (by decide))).symm, by omega⟩
    obtain ⟨p, ip, p0, p1⟩ : ∃ p : Int, dIx (.d (.list [.int 2147483647, .int 2147483629, .int 2147483587, .int 2147483579, .int 2147483563, .int 2147483549, .int 2147483543, .int 2147483497])) (.d (.int (q : Int))) (μ.set h (.lst [.d (.int a), .d (.int b), .d (.int (c + 1))])) = .ok (.d (.int p)) (μ.set h (.lst [.d (.int a), .d (.int b), .d (.int (c + 1))])) ∧ 0 < p ∧ p < 2 ^ 31 := by
      match q, hq with
      | 0, _ => exact ⟨_, dIx_l (atI_nn (k := 0) rfl), by decide, by decide⟩
      | 1, _ => exact ⟨_, dIx_l (atI_nn (k := 1) rfl), by decide, by decide⟩
      | 2, _ => exact ⟨_, dIx_l (atI_nn (k := 2) rfl), by decide, by decide⟩
      | 3, _ => exact ⟨_, dIx_l (atI_nn (k := 3) rfl), by decide, by decide⟩
      | 4, _ => exact ⟨_, dIx_l (atI_nn (k := 4) rfl), by decide, by decide⟩
      | 5, _ => exact ⟨_, dIx_l (atI_nn (k := 5) rfl), by decide, by decide⟩
      | 6, _ => exact ⟨_, dIx_l (atI_nn (k := 6) rfl), by decide, by decide⟩
      | 7, _ => exact ⟨_, dIx_l (atI_nn (k := 7) rfl), by decide, by decide⟩
    have pw : cPow (b + 7919 * (c + 1)) 5 = true := by
      unfold cPow
      simp only [Bool.and_eq_true, decide_eq_true_eq]
      exact ⟨⟨by decide, by decide⟩, by omega⟩
    generalize hx : (b + 7919 * (c + 1)) ^ 5 % p = x
    have x0 : 0 ≤ x ∧ x < p := by rw [← hx]; exact ⟨Int.emod_nonneg _ (by omega), Int.emod_lt_of_pos _ p0⟩
    have x1 : 0 ≤ x % 1009 ∧ x % 1009 < 1009 := ⟨Int.emod_nonneg _ (by decide), Int.emod_lt_of_pos _ (by decide)⟩
    have m5 : cMul x (x % 1009 + (c + 1)) = true := cMul_ok (a := 32) (b := 41) (by omega) (by omega) (by decide) (by decide) (by decide)
    generalize hz : x * (x % 1009 + (c + 1)) % p = z
    obtain ⟨r, er, hr⟩ := nn (z / 7)
    simp_arith [r3_l_take, r4_l_take, r5_l_take, r6_l_take, r7_l_take, dIx_c e i0, dIx_c e i2, ha, dSetIx_c e (show L2.ixN _ 2 = some 2 from rfl), dIx_c e' i1', dIx_c e' i2', eq, ip, hx, hz, er]
    exact fin r _ hr ⟨a, b, c + 1, e', a0, b0, b1, by omega, by omega⟩ (Oth.set _ _ _)
end LW

namespace LW
open PySem PySem.Spec PyProof.Rows L2 DL
/-- what stood there before stands there still, but the box -/
def Ext (h : Nat) (μ μ' : Store) : Prop := μ.length ≤ μ'.length ∧ ∀ i, i < μ.length → i ≠ h → μ'[i]? = μ[i]?
theorem Ext.refl (h : Nat) (μ : Store) : Ext h μ μ := ⟨Nat.le_refl _, fun _ _ _ => rfl⟩
theorem Ext.trans {h : Nat} {a b c : Store} (x : Ext h a b) (y : Ext h b c) : Ext h a c := ⟨Nat.le_trans x.1 y.1, fun i hi hn => (y.2 i (Nat.lt_of_lt_of_le hi x.1) hn).trans (x.2 i hi hn)⟩
theorem Ext.oth {h : Nat} {a b : Store} (x : Oth h a b) : Ext h a b := ⟨Nat.le_of_eq x.1.symm, fun i _ hn => x.2 i hn⟩
theorem Ext.app (h : Nat) (a b : Store) : Ext h a (a ++ b) := ⟨by simp, fun i hi _ => List.getElem?_append_left hi⟩
theorem Ext.at {h n : Nat} {a b : Store} {c : Cell} (x : Ext h a b) (hn : n ≠ h) (e : a[n]? = some c) : b[n]? = some c := by
  rw [x.2 n (lt_of_get e) hn]
  exact e
/-- a text in bounds -/
def Sx (d : D) : Prop := ∃ l : List Nat, d = .str (T l) ∧ l.length ≤ 20 ∧ ∀ c ∈ l, c < 128
theorem Sx.sm {d : D} (h : Sx d) : Sm 0 202 d := by
  obtain ⟨l, rfl, h1, h2⟩ := h
  exact (Sm.str fun c hc => Nat.lt_trans (h2 c hc) (by decide)).mono (Nat.le_refl _) (by omega)
theorem Sx.of {l : List Nat} (h : (decide (l.length ≤ 20) && l.all fun c => decide (c < 128)) = true) : Sx (.str (T l)) := by
  simp only [Bool.and_eq_true, decide_eq_true_eq, List.all_eq_true] at h
  exact ⟨l, rfl, h.1, h.2⟩
theorem Sx.str {d : D} (h : Sx d) : ∃ x, d = .str x := by
  obtain ⟨l, rfl, _⟩ := h
  exact ⟨_, rfl⟩
theorem all_d {R : D → Prop} : ∀ {ys : List Dv}, (∀ y ∈ ys, ∃ d, y = .d d ∧ R d) → ∃ ds : List D, ys = ds.map .d ∧ ∀ d ∈ ds, R d
  | [], _ => ⟨[], rfl, fun d h => by cases h⟩
  | y :: ys, h => by
    obtain ⟨d, rfl, hd⟩ := h y List.mem_cons_self
    obtain ⟨ds, rfl, hds⟩ := all_d (ys := ys) fun z hz => h z (List.mem_cons_of_mem _ hz)
    refine ⟨d :: ds, rfl, fun e he => ?_⟩
    rcases List.mem_cons.mp he with e2 | he
    · rw [e2]; exact hd
    · exact hds e he
theorem mem_rng {k j : Nat} {b : Dv} (h : ((List.range k).map fun (i : Nat) => Dv.d (.int i))[j]? = some b) : ∃ i : Nat, i < k ∧ b = .d (.int i) := by
  rw [List.getElem?_map] at h
  obtain ⟨x, hx, rfl⟩ := Option.map_eq_some_iff.mp h
  have := List.mem_of_getElem? hx
  exact ⟨x, by simpa using this, rfl⟩
theorem rng1_n {μ : Store} {k : Nat} (h : k ≤ 1000000) : rng1 [.d (.int k)] μ = .ok ((List.range k).map fun (i : Nat) => Dv.d (.int i)) μ := by
  have := rng1_r (μ := μ) (j := (k : Int)) (okR_of (by omega) (by omega))
  rw [Int.toNat_natCast] at this
  exact this
section
variable {h m : Nat} {μ : Store} {P : Dv → Store → Prop}
theorem w_of (H : Bx h m μ) (hm : m ≤ 10 ^ 9) {ds : List D} (h0 : 0 < ds.length) (h1 : ds.length < 10 ^ 6) (fin : ∀ c μ', c ∈ ds → Bx h (m + 1) μ' → Oth h μ μ' → P (.d c) μ') : Wp (F_l_of [.c h, .d (.list ds)] μ) P := by
  unfold F_l_of B_l_of
  apply Wp_run
  simp_arith []
  refine w_take H hm (by omega) (by omega) fun r μ' hr H' O => ?_
  have hi : r < ds.length := by omega
  simp_arith [dIx_l (atI_nn (show ds[r]? = some ds[r] by simp [hi]))]
  exact fin _ μ' (List.getElem_mem hi) H' O
theorem cList_c {xs : List Dv} (h : xs.length ≤ 16000000) : cList xs μ = .ok (.c μ.length) (μ ++ [.lst xs]) := by
  unfold cList
  rw [if_pos (Nat.le_trans h line_big)]
theorem pw1 : cPowW 10 60 = true := by decide +kernel
theorem pw2 : cPowW (10 ^ 60) 5 = true := by decide +kernel
theorem pw3 : cPowW 10 18 = true := by decide +kernel
theorem w_hand {ns : List Int} {k : Nat} (hn : ns.length ≤ 63) (hk : k ≤ 100) (fin : ∀ n μ', n = μ.length → Bx n 1 μ' → (∀ i, i < μ.length → μ'[i]? = μ[i]?) → P (.c n) μ') : Wp (F_l_hand [.d (.list (ns.map PyData.int)), .d (.int k)] μ) P := by
  have main : ∀ cell : Int, Wp (r2_l_hand [some (.d (.list (ns.map PyData.int))), some (.d (.int k)), some (.d (.int cell)), none] μ) (finP P) := by
    intro cell
    have c2 : cMul 104729 (k : Int) = true := cMul_ok (a := 40) (b := 20) (by decide) (by omega) (by decide) (by decide) (by decide)
    have p18 : dPowW (.d (.int 10)) (.d (.int 18)) μ = .ok (.d (.int (10 ^ 18))) μ := dNum_ii pw3
    have p60 : dPowW (.d (.int 10)) (.d (.int 60)) μ = .ok (.d (.int (10 ^ 60))) μ := dNum_ii pw1
    have p300 : dPowW (.d (.int (10 ^ 60))) (.d (.int 5)) μ = .ok (.d (.int ((10 ^ 60) ^ 5))) μ := dNum_ii pw2
    have ab : dAbs [.d (.int cell)] μ = .ok (.d (.int cell.natAbs)) μ := by
      rw [dAbs_i]
      have : (if cell < 0 then -cell else cell) = (cell.natAbs : Int) := by split <;> omega
      rw [this]
    generalize hA : (cell.natAbs : Int) = A
    have A0 : 0 ≤ A := by omega
    rw [hA] at ab
    generalize hM : (cell % 2305843009213693951 + 104729 * (k : Int) + 7) % 2305843009213693951 = M
    have M0 : 0 ≤ M ∧ M < 2 ^ 62 := by omega
    have hv0 : (0 : Int) < (10 ^ 60) ^ 5 := by decide +kernel
    have hv1 : ((10 : Int) ^ 60) ^ 5 ≤ 2 ^ 1000 := by decide +kernel
    generalize hT : (10 : Int) ^ 18 = t at p18
    generalize hV : ((10 : Int) ^ 60) ^ 5 = v at p300 hv0 hv1
    generalize hU : (10 : Int) ^ 60 = u at p60 p300
    have am : 0 ≤ A % v ∧ A % v < v := ⟨Int.emod_nonneg _ (by omega), Int.emod_lt_of_pos _ hv0⟩
    generalize hR : A % v = r at am
    have cm : ∀ b : Int, b = 0 ∨ b = 1 → cMul r b = true := fun b hb => cMul_ok (a := 1001) (b := 2) (by
      have : (2 : Int) ^ 1000 < 2 ^ 1001 := by decide +kernel
      have e : (2 : Nat) ^ 1001 = ((2 : Int) ^ 1001).natAbs := by decide +kernel
      omega) (by rcases hb with rfl | rfl <;> decide) (by decide) (by decide) (by decide)
    have c0 := cm 0 (.inl rfl)
    have c1 := cm 1 (.inr rfl)
    have last : ∀ b : Int, 0 ≤ b → Wp (r1_l_hand [some (.d (.list (ns.map PyData.int))), some (.d (.int k)), some (.d (.int cell)), some (.d (.int b))] μ) (finP P) := fun b h0 => by
      simp_arith [r1_l_hand, hM]
      rw [cList_c (by simp), Wp_ok]
      exact fin μ.length _ rfl ⟨b, M, 0, by simp, h0, M0.1, M0.2, by decide, by decide⟩ fun i hi => List.getElem?_append_left hi
    have i1 : dInt [.d (.bool true)] μ = .ok (.d (.int 1)) μ := rfl
    have i0 : dInt [.d (.bool false)] μ = .ok (.d (.int 0)) μ := rfl
    by_cases g : t ≤ A
    · have dec : dGe (.d (.int A)) (.d (.int t)) μ = .ok (.d (.bool true)) μ := by
        show Out.ok (Dv.d (PyData.bool (decide (A ≥ t)))) μ = _
        rw [decide_eq_true g]
      have l1 := last r am.1
      simp_arith [-dAbs_i, r2_l_hand, ab, p18, p60, p300, dec, hR, i1]
      exact l1
    · have dec : dGe (.d (.int A)) (.d (.int t)) μ = .ok (.d (.bool false)) μ := by
        show Out.ok (Dv.d (PyData.bool (decide (A ≥ t)))) μ = _
        rw [decide_eq_false g]
      have l0 := last 0 (by simp)
      simp_arith [-dAbs_i, r2_l_hand, ab, p18, p60, p300, dec, hR, i0]
      exact l0
  unfold F_l_hand B_l_hand
  apply Wp_run
  simp_arith []
  refine kEI_s (fun q => ?_) fun q => ?_
  · have hk2 : k < ns.length := by simpa using q
    have e : (ns.map PyData.int)[k]? = some (.int ns[k]) := by simp [hk2]
    simp_arith [dIx_l (atI_nn e)]
    exact main _
  · have c7 : cMul 7 (k : Int) = true := cMul_ok (a := 40) (b := 20) (by decide) (by omega) (by decide) (by decide) (by decide)
    simp_arith []
    exact main _
end
end LW

namespace LW
open PySem PySem.Spec PyProof.Rows L2 DL
theorem eq_of {o : Out Dv} {b : Dv} {μ : Store} (h : Wp o fun b' μ' => b' = b ∧ μ' = μ) : o = .ok b μ := by
  obtain ⟨b', μ', e, rfl, rfl⟩ := Wp_of h
  exact e
theorem of_eq {β : Type} {o : Out β} {b : β} {μ : Store} {P : β → Store → Prop} (e : o = .ok b μ) (h : P b μ) : Wp o P := Wp_eq e h
theorem F_are_figures_eq {μ : Store} {l : List Nat} {a b : Int} (hl : l.length ≤ 1000000) : F_are_figures [.d (.str (T l)), .d (.int a), .d (.int b)] μ = .ok (.d (.bool (decide (a ≤ l.length) && decide ((l.length : Int) ≤ b) && l.all isDig))) μ := by
  have e : lcF dList (gN 3) tYesM c1_are_figures [3] [some (.d (.str (T l))), some (.d (.int a)), some (.d (.int b)), none] (l.map fun c => .d (.str (T [c]))) μ = .ok (.d (.list (l.map fun c => .bool (isDig c)))) μ := by
    refine lcF_signs (by omega) fun c hc => ?_
    unfold c1_are_figures
    simp -implicitDefEqProofs (disch := first | assumption | rfl | exact cMod_of (by decide) | omega | (simp only [List.length_take, List.length_drop, List.length_append, List.length_cons, List.length_nil, List.length_map, List.length_range, List.length_replicate]; omega) | solve_by_elim) [wipeD, dig_mem, -List.mem_cons]
  have e2 : (l.map fun c => PyData.bool (isDig c)) = (l.map isDig).map PyData.bool := by rw [List.map_map]; rfl
  rw [e2] at e
  have e3 : (l.map isDig).all id = l.all isDig := by rw [List.all_map]; rfl
  unfold F_are_figures B_are_figures
  rw [runB_eq]
  by_cases h1 : a ≤ l.length
  · by_cases h2 : (l.length : Int) ≤ b
    · simp -implicitDefEqProofs (disch := first | assumption | rfl | exact cMod_of (by decide) | omega | (simp only [List.length_take, List.length_drop, List.length_append, List.length_cons, List.length_nil, List.length_map, List.length_range, List.length_replicate]; omega) | solve_by_elim) [h1, h2, e, e3, -List.map_map]
    · simp -implicitDefEqProofs (disch := first | assumption | rfl | exact cMod_of (by decide) | omega | (simp only [List.length_take, List.length_drop, List.length_append, List.length_cons, List.length_nil, List.length_map, List.length_range, List.length_replicate]; omega) | solve_by_elim) [h1, h2, e, e3, -List.map_map]
  · simp -implicitDefEqProofs (disch := first | assumption | rfl | exact cMod_of (by decide) | omega | (simp only [List.length_take, List.length_drop, List.length_append, List.length_cons, List.length_nil, List.length_map, List.length_range, List.length_replicate]; omega) | solve_by_elim) [h1, e, e3, -List.map_map]
def bod : List Nat → List Nat
  | [] => []
  | c :: r => if c = 43 ∨ c = 45 then r else c :: r
def ngv : List Nat → Bool
  | [] => false
  | c :: _ => decide (c = 45)
def sgn (k : Bool) (n : Nat) : Int := if k = true then -(n : Int) else n
def oI : Option Int → D
  | some i => .int i
  | none => .none
theorem oI_s (i : Int) : oI (some i) = .int i := rfl
def okB (l : List Nat) (b : Nat) : Bool := decide (1 ≤ l.length) && decide (l.length ≤ b) && l.all isDig
def rw_ (l : List Nat) (b : Nat) : Option Int := if okB (bod l) b = true then some (sgn (ngv l) (dval (bod l))) else none
theorem F_read_whole_eq {μ : Store} {l : List Nat} {b : Nat} (hl : l.length ≤ 900000) (hbb : b ≤ 600) : F_read_whole [.d (.str (T l)), .d (.int b)] μ = .ok (.d (oI (rw_ l b))) μ := by
  unfold F_read_whole B_read_whole
  rw [runB_eq]
  have hb : (bod l).length ≤ 900000 := by
    cases l with
    | nil => simp [bod]
    | cons c r =>
      rw [List.length_cons] at hl
      rw [bod]
      split
      · omega
      · rw [List.length_cons]; omega
  have z1 := F_are_figures_eq (μ := μ) (l := bod l) (a := 1) (b := b) (by omega)
  have z2 : (decide ((1 : Int) ≤ (bod l).length) && decide (((bod l).length : Int) ≤ b) && (bod l).all isDig) = okB (bod l) b := by
    unfold okB
    congr 2
    · rw [Bool.eq_iff_iff]; simp; omega
    · rw [Bool.eq_iff_iff]; simp
  rw [z2] at z1
  have e0 : (eIf (tV (e2 (dIn false) (eSl (eVar 0) (oNone) (oSome (eC (.d (.int 1))))) (eN dTup (aCons (eC (.d (.str "+"))) (aCons (eC (.d (.str "-"))) (aNil)))))) (eSl (eVar 0) (oSome (eC (.d (.int 1)))) (oNone)) (eVar 0)) [some (.d (.str (T l))), some (.d (.int b)), none] μ = .ok (.d (.str (T (bod l)))) μ := by
    have q1 := cut_to l (k := 1) (by decide)
    have q2 := cut_from l (k := 1) (by decide)
    cases l with
    | nil => simp -implicitDefEqProofs (disch := first | assumption | rfl | exact cMod_of (by decide) | omega | (simp only [List.length_take, List.length_drop, List.length_append, List.length_cons, List.length_nil, List.length_map, List.length_range, List.length_replicate]; omega) | solve_by_elim) [q1, q2, bod]
    | cons c r =>
      by_cases h1 : c = 43
      · subst h1; simp -implicitDefEqProofs (disch := first | assumption | rfl | exact cMod_of (by decide) | omega | (simp only [List.length_take, List.length_drop, List.length_append, List.length_cons, List.length_nil, List.length_map, List.length_range, List.length_replicate]; omega) | solve_by_elim) [q1, q2, bod]
      · by_cases h2 : c = 45
        · subst h2; simp -implicitDefEqProofs (disch := first | assumption | rfl | exact cMod_of (by decide) | omega | (simp only [List.length_take, List.length_drop, List.length_append, List.length_cons, List.length_nil, List.length_map, List.length_range, List.length_replicate]; omega) | solve_by_elim) [q1, q2, bod]
        · simp -implicitDefEqProofs (disch := first | assumption | rfl | exact cMod_of (by decide) | omega | (simp only [List.length_take, List.length_drop, List.length_append, List.length_cons, List.length_nil, List.length_map, List.length_range, List.length_replicate]; omega) | solve_by_elim) [q1, q2, bod, h1, h2, Ne.symm h1, Ne.symm h2]
  unfold rw_
  rw [sSeq_r, sSet_r]
  have e0' := e0
  simp only [List.map_cons, List.map_nil, List.length_cons, List.length_nil, List.replicate, List.cons_append, List.nil_append] at e0' ⊢
  rw [e0']
  cases hk : okB (bod l) b with
  | false =>
    rw [hk] at z1
    simp -implicitDefEqProofs (disch := first | assumption | rfl | exact cMod_of (by decide) | omega | (simp only [List.length_take, List.length_drop, List.length_append, List.length_cons, List.length_nil, List.length_map, List.length_range, List.length_replicate]; omega) | solve_by_elim) [r2_read_whole, r1_read_whole, z1, oI]
  | true =>
    rw [hk] at z1
    have hd : (bod l).all isDig = true := by unfold okB at hk; simp at hk ⊢; exact hk.2
    have hn : bod l ≠ [] := by
      intro h
      rw [h] at hk
      exact absurd hk (by unfold okB; simp)
    have hlb : (bod l).length ≤ b := by unfold okB at hk; simp at hk; exact hk.1.2
    have e3 := dInt_s (μ := μ) hd hn (by omega)
    cases l with
    | nil => exact absurd rfl hn
    | cons c r =>
      have e4 := dIx_s (μ := μ) (l := c :: r) (k := 0) (c := c) (by omega) (atI_nn (k := 0) rfl)
      by_cases h2 : c = 45
      · subst h2
        simp -implicitDefEqProofs (disch := first | assumption | rfl | exact cMod_of (by decide) | omega | (simp only [List.length_take, List.length_drop, List.length_append, List.length_cons, List.length_nil, List.length_map, List.length_range, List.length_replicate]; omega) | solve_by_elim) [r2_read_whole, r1_read_whole, z1, e3, e4, oI, sgn, ngv]
      · simp -implicitDefEqProofs (disch := first | assumption | rfl | exact cMod_of (by decide) | omega | (simp only [List.length_take, List.length_drop, List.length_append, List.length_cons, List.length_nil, List.length_map, List.length_range, List.length_replicate]; omega) | solve_by_elim) [r2_read_whole, r1_read_whole, z1, e3, e4, oI, sgn, ngv, h2]

theorem dig_app {l m : List Nat} : (l ++ m).all isDig = (l.all isDig && m.all isDig) := List.all_append
theorem dig_zs (n : Nat) : (zs n).all isDig = true := by
  rw [List.all_eq_true]
  intro c hc
  rw [(List.mem_replicate.mp hc).2]
  rfl
/-- what an amount reads as -/
def ra2 (a b : List Nat) (k : Nat) : Option Int := match rw_ a 8 with
  | none => none
  | some _ => rw_ (a ++ (b ++ zs (k - b.length))) (8 + k)
def ra (l : List Nat) (k : Nat) : Option Int := if 46 ∈ l ∧ okB ((l.dropWhile (· != 46)).drop 1) k = false then none else ra2 (l.takeWhile (· != 46)) ((l.dropWhile (· != 46)).drop 1) k
theorem takeWhile_len {l : List Nat} {p : Nat → Bool} : (l.takeWhile p).length + ((l.dropWhile p).drop 1).length ≤ l.length := by
  have : (l.takeWhile p ++ l.dropWhile p).length = l.length := by rw [List.takeWhile_append_dropWhile]
  rw [List.length_append] at this
  rw [List.length_drop]
  omega
theorem F_read_amount_eq {μ : Store} {l : List Nat} {k : Nat} (hl : l.length ≤ 800000) (hk : k ≤ 100) : F_read_amount [.d (.str (T l)), .d (.int k)] μ = .ok (.d (oI (ra l k))) μ := by
  apply eq_of
  unfold F_read_amount B_read_amount
  apply Wp_run
  simp_arith []
  rw [Wp_partF (by omega)]
  unfold ra
  have hq := takeWhile_len (l := l) (p := (· != 46))
  generalize l.takeWhile (· != 46) = a at *
  generalize (l.dropWhile (· != 46)).drop 1 = b at *
  have z1 := F_are_figures_eq (μ := μ) (l := b) (a := 1) (b := k) (by omega)
  have z2 : (decide ((1 : Int) ≤ b.length) && decide ((b.length : Int) ≤ k) && b.all isDig) = okB b k := by
    unfold okB
    congr 2
    · rw [Bool.eq_iff_iff]; simp; omega
    · rw [Bool.eq_iff_iff]; simp
  rw [z2] at z1
  have z3 := F_read_whole_eq (μ := μ) (l := a) (b := 8) (by omega) (by decide)
  have hz : (zs (k - b.length)).length ≤ 100 := by unfold zs; rw [List.length_replicate]; omega
  have z4 := F_read_whole_eq (μ := μ) (l := a ++ (b ++ zs (k - b.length))) (b := 8 + k) (by simp only [List.length_append]; omega) (by omega)
  have z5 : dPadF Txt.ljustF (.d (.str (T b))) [.d (.int k), .d (.str (T [48]))] μ = .ok (.d (.str (T (b ++ zs (k - b.length))))) μ := dLjust (by omega)
  have z6 : ((8 + k : Nat) : Int) = 8 + (k : Int) := by omega
  rw [z6] at z4
  have z7 : l.length ≤ 16000000 := by omega
  have R : ∀ u, r2_read_amount [some (.d (.str (T l))), some (.d (.int k)), some (.d (.str (T a))), u, some (.d (.str (T b)))] μ = .ok (.rt (.d (oI (ra2 a b k)))) μ := fun u => by
    unfold r2_read_amount ra2
    cases h : rw_ a 8 with
    | none =>
      rw [h] at z3
      have z3 : F_read_whole [.d (.str (T a)), .d (.int 8)] μ = _ := z3
      simp -implicitDefEqProofs (disch := first | assumption | rfl | exact cMod_of (by decide) | omega | (simp only [List.length_take, List.length_drop, List.length_append, List.length_cons, List.length_nil, List.length_map, List.length_range, List.length_replicate]; omega) | solve_by_elim) [z3, oI, isNone]
    | some i =>
      rw [h] at z3
      have z3 : F_read_whole [.d (.str (T a)), .d (.int 8)] μ = _ := z3
      simp -implicitDefEqProofs (disch := first | assumption | rfl | exact cMod_of (by decide) | omega | (simp only [List.length_take, List.length_drop, List.length_append, List.length_cons, List.length_nil, List.length_map, List.length_range, List.length_replicate]; omega) | solve_by_elim) [r1_read_amount, z3, z4, z5, oI_s, isNone]
  have R3 : r3_read_amount [some (.d (.str (T l))), some (.d (.int k)), some (.d (.str (T a))), some (.d (.str (T (if 46 ∈ l then [46] else [])))), some (.d (.str (T b)))] μ = .ok (.rt (.d (oI (if 46 ∈ l ∧ okB b k = false then none else ra2 a b k)))) μ := by
    by_cases h46 : 46 ∈ l
    · cases ho : okB b k with
      | false =>
        rw [ho] at z1
        simp -implicitDefEqProofs (disch := first | assumption | rfl | exact cMod_of (by decide) | omega | (simp only [List.length_take, List.length_drop, List.length_append, List.length_cons, List.length_nil, List.length_map, List.length_range, List.length_replicate]; omega) | solve_by_elim) [r3_read_amount, z1, h46, oI, ho]
      | true =>
        rw [ho] at z1
        simp -implicitDefEqProofs (disch := first | assumption | rfl | exact cMod_of (by decide) | omega | (simp only [List.length_take, List.length_drop, List.length_append, List.length_cons, List.length_nil, List.length_map, List.length_range, List.length_replicate]; omega) | solve_by_elim) [r3_read_amount, z1, h46, R, ho]
    · simp -implicitDefEqProofs (disch := first | assumption | rfl | exact cMod_of (by decide) | omega | (simp only [List.length_take, List.length_drop, List.length_append, List.length_cons, List.length_nil, List.length_map, List.length_range, List.length_replicate]; omega) | solve_by_elim) [r3_read_amount, h46, R]
  have fin : ∀ pt, pt = some (Dv.d (.str (T (if 46 ∈ l then [46] else [])))) → Wp (r3_read_amount [some (.d (.str (T l))), some (.d (.int k)), some (.d (.str (T a))), pt, some (.d (.str (T b)))] μ) (finP fun b' μ' => b' = Dv.d (oI (if 46 ∈ l ∧ okB b k = false then none else ra2 a b k)) ∧ μ' = μ) := fun pt e => by
    rw [e]
    exact of_eq R3 ⟨rfl, rfl⟩
  simp only [Wp_gsCons, Wp_gN, kGs_r, Wp_gsNil, kNx_r, kSeq_nx]
  exact fin _ rfl
end LW

namespace LW
open PySem PySem.Spec PyProof.Rows L2 DL
theorem okB_iff {l : List Nat} {b : Nat} : okB l b = true ↔ 0 < l.length ∧ l.length ≤ b ∧ l.all isDig = true := by
  unfold okB
  simp only [Bool.and_eq_true, decide_eq_true_eq]
  constructor
  · rintro ⟨⟨h1, h2⟩, h3⟩; exact ⟨by omega, h2, h3⟩
  · rintro ⟨h1, h2, h3⟩; exact ⟨⟨by omega, h2⟩, h3⟩
theorem bod_pre {l a t : List Nat} (h : bod l = a ++ t) : ∃ p, l = p ++ (a ++ t) ∧ 46 ∉ p ∧ ∀ m, (a = [] → m = []) → bod (p ++ (a ++ m)) = a ++ m ∧ ngv (p ++ (a ++ m)) = ngv l := by
  cases l with
  | nil =>
    have h : [] = a ++ t := h
    have h := List.append_eq_nil_iff.mp h.symm
    refine ⟨[], by rw [h.1, h.2]; rfl, by simp, fun m hm => ?_⟩
    rw [h.1, hm h.1]
    exact ⟨rfl, rfl⟩
  | cons c r =>
    by_cases hc : c = 43 ∨ c = 45
    · rw [bod, if_pos hc] at h
      refine ⟨[c], by rw [h]; rfl, by simp; omega, fun m _ => ⟨?_, rfl⟩⟩
      show bod (c :: (a ++ m)) = _
      rw [bod, if_pos hc]
    · rw [bod, if_neg hc] at h
      refine ⟨[], by rw [h]; rfl, by simp, fun m hm => ?_⟩
      rw [List.nil_append]
      cases a with
      | nil =>
        rw [hm rfl]
        refine ⟨rfl, ?_⟩
        show false = decide (c = 45)
        symm
        exact decide_eq_false (fun q => hc (.inr q))
      | cons x xs =>
        rw [List.cons_append] at h
        injection h with h1 h2
        subst h1
        refine ⟨?_, rfl⟩
        show bod (c :: (xs ++ m)) = _
        rw [bod, if_neg hc]
        rfl
theorem okB_no {l : List Nat} {b : Nat} (h : 46 ∈ l) : okB l b = false := by
  rw [Bool.eq_false_iff, ne_eq, okB_iff]
  intro q
  have := List.all_eq_true.mp q.2.2 46 h
  exact absurd this (by decide)
theorem rw_of {l : List Nat} {b : Nat} {a : List Nat} {n : Bool} (h : bod l = a) (h2 : ngv l = n) : rw_ l b = if okB a b = true then some (sgn n (dval a)) else none := by
  unfold rw_
  rw [h, h2]
/-- an amount ahead and behind -/
theorem ra2_of {p a r : List Nat} {k : Nat} {n : Bool} (hk : r.length ≤ k) (hd : r.all isDig = true) (h : ∀ m, (a = [] → m = []) → bod (p ++ (a ++ m)) = a ++ m ∧ ngv (p ++ (a ++ m)) = n) : ra2 (p ++ a) r k = if okB a 8 = true then some (sgn n (dval (a ++ (r ++ zs (k - r.length))))) else none := by
  have h0 := h [] (fun _ => rfl)
  rw [List.append_nil] at h0
  unfold ra2
  rw [rw_of h0.1 h0.2]
  by_cases q : okB a 8 = true
  · rw [if_pos q, if_pos q]
    have hq := okB_iff.mp q
    have h1 := h (r ++ zs (k - r.length)) (fun e => by rw [e] at hq; simp at hq)
    show rw_ (p ++ a ++ (r ++ zs (k - r.length))) (8 + k) = _
    rw [List.append_assoc, rw_of h1.1 h1.2]
    refine if_pos (okB_iff.mpr ⟨?_, ?_, ?_⟩)
    · rw [List.length_append]; omega
    · rw [List.length_append, List.length_append]
      unfold zs
      rw [List.length_replicate]
      omega
    · rw [dig_app, dig_app, dig_zs, hq.2.2, hd]
      rfl
  · rw [if_neg q, if_neg q]
def lim (k : Nat) : Nat := if k = 0 then 9 else 8
def fm (k : Nat) : List D := if k = 0 then [.str (T [119, 104, 111, 108, 101])] else [.str (T [97, 109, 111, 117, 110, 116]), .int k]
def rd (l : List Nat) (k : Nat) : Option Int := if k = 0 then rw_ l 9 else ra l k
theorem F_read_as_eq {μ : Store} {l : List Nat} {k : Nat} (hl : l.length ≤ 700000) (hk : k ≤ 100) : F_read_as [.d (.tuple (fm k)), .d (.str (T l))] μ = .ok (.d (oI (rd l k))) μ := by
  unfold F_read_as B_read_as fm rd
  rw [runB_eq]
  by_cases h : k = 0
  · have z := F_read_whole_eq (μ := μ) (l := l) (b := 9) (by omega) (by decide)
    have z : F_read_whole [.d (.str (T l)), .d (.int 9)] μ = _ := z
    rw [if_pos h, if_pos h]
    simp -implicitDefEqProofs (disch := first | assumption | rfl | exact cMod_of (by decide) | omega | (simp only [List.length_take, List.length_drop, List.length_append, List.length_cons, List.length_nil, List.length_map, List.length_range, List.length_replicate]; omega) | solve_by_elim) [r2_read_as, r1_read_as, z]
  · have z := F_read_amount_eq (μ := μ) (l := l) (k := k) (by omega) hk
    have i0 : dIx (.d (.list [.int k])) (.d (.int 0)) μ = .ok (.d (.int k)) μ := dIx_l (atI_nn (k := 0) rfl)
    rw [if_neg h, if_neg h]
    simp -implicitDefEqProofs (disch := first | assumption | rfl | exact cMod_of (by decide) | omega | (simp only [List.length_take, List.length_drop, List.length_append, List.length_cons, List.length_nil, List.length_map, List.length_range, List.length_replicate]; omega) | solve_by_elim) [r2_read_as, r1_read_as, z, i0]
/-- the law's own reading -/
def ln (l : List Nat) (k : Nat) : Option Int := if okB ((bod l).takeWhile (· != 46)) (lim k) = false then none else if 46 ∈ bod l ∧ okB (((bod l).dropWhile (· != 46)).drop 1) k = false then none else some (sgn (ngv l) (dval ((bod l).takeWhile (· != 46) ++ ((((bod l).dropWhile (· != 46)).drop 1) ++ zs 4).take k)))
theorem take_zs {r : List Nat} {k : Nat} (h : r.length ≤ k) (hk : k ≤ 4) : (r ++ zs 4).take k = r ++ zs (k - r.length) := by
  rw [List.take_append, List.take_of_length_le h]
  unfold zs
  rw [List.take_replicate, Nat.min_eq_left (by omega)]
theorem ln_rd {l : List Nat} {k : Nat} (hk4 : k ≤ 4) : ln l k = rd l k := by
  unfold ln rd
  by_cases h1 : 46 ∈ bod l
  · obtain ⟨a, r, e, na⟩ := cut_at h1
    rw [show ((bod l).dropWhile (· != 46)).drop 1 = r by rw [e]; exact dw_app na, show (bod l).takeWhile (· != 46) = a by rw [e]; exact tw_app na]
    by_cases hk : k = 0
    · subst hk
      rw [if_pos rfl]
      unfold rw_
      have z : okB r 0 = false := by
        rw [Bool.eq_false_iff, ne_eq, okB_iff]
        omega
      rw [okB_no h1]
      simp [h1, z]
    · rw [if_neg hk]
      obtain ⟨p, el, np, hp⟩ := bod_pre e
      have hl : l = (p ++ a) ++ 46 :: r := by rw [List.append_assoc]; exact el
      have hn : 46 ∉ p ++ a := by
        intro q
        rcases List.mem_append.mp q with q | q
        · exact np q
        · exact na q
      have hin : 46 ∈ l := by rw [hl]; simp
      unfold ra
      have hng : ∀ m, (a = [] → m = []) → bod (p ++ (a ++ m)) = a ++ m ∧ ngv (p ++ (a ++ m)) = ngv l := hp
      generalize ngv l = n at *
      rw [show (l.dropWhile (· != 46)).drop 1 = r by rw [hl]; exact dw_app hn, show l.takeWhile (· != 46) = p ++ a by rw [hl]; exact tw_app hn]
      have hlim : lim k = 8 := if_neg hk
      rw [hlim]
      by_cases hr : okB r k = true
      · have hr' := okB_iff.mp hr
        have z := ra2_of hr'.2.1 hr'.2.2 hng
        rw [take_zs hr'.2.1 hk4]
        cases ho : okB a 8 with
        | true => rw [ho] at z; simp [hr, z]
        | false => rw [ho] at z; simp [hr, z]
      · have hr : okB r k = false := by simpa using hr
        simp [hr, hin, h1]
  · rw [tw_self h1, dw_nil h1]
    have e0 : ([] : List Nat).drop 1 ++ zs 4 = zs 4 := rfl
    have e1 : (zs 4).take k = zs k := by unfold zs; rw [List.take_replicate, Nat.min_eq_left (by omega)]
    rw [e0, e1]
    by_cases hk : k = 0
    · subst hk
      rw [if_pos rfl]
      unfold rw_ lim
      rw [if_pos rfl]
      have : zs 0 = [] := rfl
      rw [this, List.append_nil]
      cases okB (bod l) 9 <;> simp [h1]
    · rw [if_neg hk]
      obtain ⟨p, el, np, hp⟩ := bod_pre (l := l) (a := bod l) (t := []) (List.append_nil _).symm
      rw [List.append_nil] at el
      have hn : 46 ∉ l := by
        rw [el]
        intro q
        rcases List.mem_append.mp q with q | q
        · exact np q
        · exact h1 q
      unfold ra
      rw [tw_self hn, dw_nil hn, if_neg (fun (q : 46 ∈ l ∧ okB (List.drop 1 []) k = false) => hn q.1)]
      have z := ra2_of (p := p) (a := bod l) (r := []) (k := k) (n := ngv l) (by simp) rfl hp
      rw [← el] at z
      have z2 : ra2 l (List.drop 1 []) k = ra2 l [] k := rfl
      rw [z2, z]
      unfold lim
      rw [if_neg hk]
      cases okB (bod l) 8 <;> simp [h1]
end LW

namespace LW
open PySem PySem.Spec PyProof.Rows L2 DL
theorem ix_dig {μ : Store} {c : Nat} (h : isDig c = true) : dIndexS (.d (.str (T [48, 49, 50, 51, 52, 53, 54, 55, 56, 57]))) [.d (.str (T [c]))] μ = .ok (.d (.int ((c - 48 : Nat) : Int))) μ := by
  have h := isDig_iff.mp h
  have q : ∀ d < 10, Builtin.Str.occurrences (T [48, 49, 50, 51, 52, 53, 54, 55, 56, 57]) (T [48 + d]) 0 (T [48, 49, 50, 51, 52, 53, 54, 55, 56, 57]).length 1 = [d] := by decide +kernel
  have q := q (c - 48) (by omega)
  have e : 48 + (c - 48) = c := by omega
  rw [e] at q
  show (match Builtin.Str.occurrences (T [48, 49, 50, 51, 52, 53, 54, 55, 56, 57]) (T [c]) 0 (T [48, 49, 50, 51, 52, 53, 54, 55, 56, 57]).length 1 with | i :: _ => Out.ok (Dv.d (.int (i : Nat))) μ | [] => .bad) = _
  rw [q]
theorem cMul_10' {v : Nat} (h : v < 2 ^ 900) : cMul (v : Int) 10 = true := cMul_ok (a := 900) (b := 4) (by simpa using h) (by decide) (by decide) (by decide) (by decide)
def fstep (v : Nat) (c : Nat) : Nat := v * 10 + (c - 48)
theorem dval_f (l : List Nat) : dval l = l.foldl fstep 0 := dval_app [] l 0
theorem fig_loop {μ : Store} {z : Option Dv} : ∀ {l : List Nat} {v : Nat} {o : Option Dv}, (v + 1) * 10 ^ l.length ≤ 10 ^ 100 → l.all isDig = true →
    ∃ o', forL (gN 2) w1_l_figures (l.map fun c => .d (.str (T [c]))) [z, some (.d (.int v)), o] μ = .ok (.nx [z, some (.d (.int (l.foldl fstep v : Nat))), o']) μ
  | [], v, o, _, _ => ⟨o, rfl⟩
  | c :: l, v, o, hv, hd => by
    rw [List.all_cons, Bool.and_eq_true] at hd
    rw [List.length_cons, Nat.pow_succ] at hv
    have hc := isDig_iff.mp hd.1
    have hv2 : (fstep v c + 1) * 10 ^ l.length ≤ 10 ^ 100 := by
      refine Nat.le_trans ?_ hv
      rw [Nat.mul_comm (10 ^ l.length) 10, ← Nat.mul_assoc]
      exact Nat.mul_le_mul_right _ (by unfold fstep; omega)
    obtain ⟨o', e⟩ := fig_loop (μ := μ) (z := z) (l := l) (v := fstep v c) (o := some (.d (.str (T [c])))) hv2 hd.2
    have hp : 1 ≤ 10 ^ l.length := Nat.pow_pos (by decide)
    have hb : v < 10 ^ 100 := by
      have : v + 1 ≤ (v + 1) * (10 ^ l.length * 10) := Nat.le_mul_of_pos_right _ (by omega)
      omega
    have hm := cMul_10' (v := v) (Nat.lt_trans hb (by decide))
    have hx := ix_dig (μ := μ) hd.1
    refine ⟨o', ?_⟩
    rw [List.map_cons, List.foldl_cons, ← e]
    have e2 : ((v : Int) * 10 + ((c - 48 : Nat) : Int)) = ((fstep v c : Nat) : Int) := by unfold fstep; omega
    refine forL_cons (ρ1 := [z, some (.d (.int v)), some (.d (.str (T [c])))]) (μ1 := μ) rfl ?_
    unfold w1_l_figures
    simp -implicitDefEqProofs (disch := first | assumption | rfl | exact cMod_of (by decide) | omega | (simp only [List.length_take, List.length_drop, List.length_append, List.length_cons, List.length_nil, List.length_map, List.length_range, List.length_replicate]; omega) | solve_by_elim) [hm, hx, e2, -List.mem_cons]
theorem F_l_figures_eq {μ : Store} {l : List Nat} (hd : l.all isDig = true) (hl : l.length ≤ 90) : F_l_figures [.d (.str (T l))] μ = .ok (.d (.int (dval l))) μ := by
  have h10 : (0 + 1) * 10 ^ l.length ≤ 10 ^ 100 := by
    rw [Nat.zero_add, Nat.one_mul]
    exact Nat.pow_le_pow_right (by decide) (by omega)
  obtain ⟨o', e⟩ := fig_loop (μ := μ) (z := some (.d (.str (T l)))) (l := l) (v := 0) (o := none) h10 hd
  rw [← dval_f] at e
  have e : forL (gN 2) w1_l_figures (l.map fun c => .d (.str (T [c]))) [some (.d (.str (T l))), some (.d (.int 0)), none] μ = _ := e
  unfold F_l_figures B_l_figures
  rw [runB_eq]
  simp -implicitDefEqProofs (disch := first | assumption | rfl | exact cMod_of (by decide) | omega | (simp only [List.length_take, List.length_drop, List.length_append, List.length_cons, List.length_nil, List.length_map, List.length_range, List.length_replicate]; omega) | solve_by_elim) [r2_l_figures, r1_l_figures, e]
theorem F_l_are_figures_eq {μ : Store} {l : List Nat} {b : Nat} (hl : l.length ≤ 1000000) : F_l_are_figures [.d (.str (T l)), .d (.int b)] μ = .ok (.d (.bool (okB l b))) μ := by
  have e : lcF dList (gN 2) tYesM c1_l_are_figures [2] [some (.d (.str (T l))), some (.d (.int b)), none] (l.map fun c => .d (.str (T [c]))) μ = .ok (.d (.list (l.map fun c => .bool (isDig c)))) μ := by
    refine lcF_signs (by omega) fun c hc => ?_
    unfold c1_l_are_figures
    simp -implicitDefEqProofs (disch := first | assumption | rfl | exact cMod_of (by decide) | omega | (simp only [List.length_take, List.length_drop, List.length_append, List.length_cons, List.length_nil, List.length_map, List.length_range, List.length_replicate]; omega) | solve_by_elim) [wipeD, dig_mem, -List.mem_cons]
  have e2 : (l.map fun c => PyData.bool (isDig c)) = (l.map isDig).map PyData.bool := by rw [List.map_map]; rfl
  rw [e2] at e
  have e3 : (l.map isDig).all id = l.all isDig := by rw [List.all_map]; rfl
  unfold F_l_are_figures B_l_are_figures okB
  rw [runB_eq]
  by_cases h1 : 1 ≤ l.length
  · have h1' : (1 : Int) ≤ (l.length : Int) := by omega
    by_cases h2 : l.length ≤ b
    · have h2' : (l.length : Int) ≤ (b : Int) := by omega
      simp -implicitDefEqProofs (disch := first | assumption | rfl | exact cMod_of (by decide) | omega | (simp only [List.length_take, List.length_drop, List.length_append, List.length_cons, List.length_nil, List.length_map, List.length_range, List.length_replicate]; omega) | solve_by_elim) [h1, h2, h1', h2', e, e3, -List.map_map]
    · have h2' : ¬ (l.length : Int) ≤ (b : Int) := by omega
      simp -implicitDefEqProofs (disch := first | assumption | rfl | exact cMod_of (by decide) | omega | (simp only [List.length_take, List.length_drop, List.length_append, List.length_cons, List.length_nil, List.length_map, List.length_range, List.length_replicate]; omega) | solve_by_elim) [h1, h2, h1', h2', e, e3, -List.map_map]
  · have h1' : ¬ (1 : Int) ≤ (l.length : Int) := by omega
    simp -implicitDefEqProofs (disch := first | assumption | rfl | exact cMod_of (by decide) | omega | (simp only [List.length_take, List.length_drop, List.length_append, List.length_cons, List.length_nil, List.length_map, List.length_range, List.length_replicate]; omega) | solve_by_elim) [h1, h1', e, e3, -List.map_map]
theorem spl_no {s : Nat} : ∀ {l acc : List Nat}, s ∉ l → splitL s acc l = [acc ++ l]
  | [], acc, _ => by unfold splitL; simp
  | c :: l, acc, h => by
    have hc : ¬ c = s := fun e => h (by rw [e]; exact List.mem_cons_self)
    unfold splitL
    rw [if_neg hc, spl_no fun q => h (List.mem_cons_of_mem _ q)]
    simp
theorem spl_at {s : Nat} : ∀ {l acc : List Nat}, s ∈ l → splitL s acc l = (acc ++ l.takeWhile (· != s)) :: splitL s [] ((l.dropWhile (· != s)).drop 1)
  | [], acc, h => by cases h
  | c :: l, acc, h => by
    rw [show splitL s acc (c :: l) = if c = s then acc :: splitL s [] l else splitL s (acc ++ [c]) l from rfl]
    by_cases hc : c = s
    · subst hc
      rw [if_pos rfl]
      simp
    · have hl : s ∈ l := by
        rcases List.mem_cons.mp h with z | z
        · exact absurd z.symm hc
        · exact z
      rw [if_neg hc, spl_at hl]
      simp [hc]
theorem spl_pos {s : Nat} : ∀ {l acc : List Nat}, 1 ≤ (splitL s acc l).length
  | [], acc => by unfold splitL; simp
  | c :: l, acc => by
    unfold splitL
    split
    · simp
    · exact spl_pos
theorem mul48 {μ : Store} {k : Nat} (hk : k ≤ 4) : dMulA (.d (.str (T [48]))) (.d (.int k)) μ = .ok (.d (.str (T (zs k)))) μ := by
  match k, hk with
  | 0, _ => rfl
  | 1, _ => rfl
  | 2, _ => rfl
  | 3, _ => rfl
  | 4, _ => rfl
end LW

namespace LW
open PySem PySem.Spec PyProof.Rows L2 DL
section
variable {μ : Store} {ρ : DEnv} {Q P : Dv → Store → Prop} {f g : Op2} {a c d : ME}
def kCh5 (g : Op2) (y : Dv) (Q : Dv → Store → Prop) : Dv → Store → Prop := fun u μ => Wp (g y u μ) Q
@[simp ↓] theorem kCh5_r {u y : Dv} : kCh5 g y Q u μ = Wp (g y u μ) Q := id rfl
def kCh4 (g : Op2) (y : Dv) (d : ME) (ρ : DEnv) (Q : Dv → Store → Prop) : Bool → Store → Prop := fun k μ => match k with
  | true => Wp (d ρ μ) (kCh5 g y Q)
  | false => Q (.d (.bool false)) μ
@[simp ↓] theorem kCh4_t {y : Dv} : kCh4 g y d ρ Q true μ = Wp (d ρ μ) (kCh5 g y Q) := id rfl
@[simp ↓] theorem kCh4_f {y : Dv} : kCh4 g y d ρ Q false μ = Q (.d (.bool false)) μ := id rfl
def kCh3 (g : Op2) (y : Dv) (d : ME) (ρ : DEnv) (Q : Dv → Store → Prop) : Dv → Store → Prop := fun z μ => Wp (asBool z μ) (kCh4 g y d ρ Q)
@[simp ↓] theorem kCh3_r {z y : Dv} : kCh3 g y d ρ Q z μ = Wp (asBool z μ) (kCh4 g y d ρ Q) := id rfl
def kCh2 (f g : Op2) (x : Dv) (d : ME) (ρ : DEnv) (Q : Dv → Store → Prop) : Dv → Store → Prop := fun y μ => Wp (f x y μ) (kCh3 g y d ρ Q)
@[simp ↓] theorem kCh2_r {x y : Dv} : kCh2 f g x d ρ Q y μ = Wp (f x y μ) (kCh3 g y d ρ Q) := id rfl
def kCh1 (f g : Op2) (c d : ME) (ρ : DEnv) (Q : Dv → Store → Prop) : Dv → Store → Prop := fun x μ => Wp (c ρ μ) (kCh2 f g x d ρ Q)
@[simp ↓] theorem kCh1_r {x : Dv} : kCh1 f g c d ρ Q x μ = Wp (c ρ μ) (kCh2 f g x d ρ Q) := id rfl
@[simp ↓] theorem Wp_eChain : Wp (eChain f g a c d ρ μ) Q = Wp (a ρ μ) (kCh1 f g c d ρ Q) := by
  unfold eChain
  rw [Wp_bind]
  congr 1
  funext x μ1
  rw [Wp_bind]
  show Wp (c ρ μ1) _ = Wp (c ρ μ1) (kCh2 f g x d ρ Q)
  congr 1
  funext y μ2
  rw [Wp_bind]
  show Wp (f x y μ2) _ = Wp (f x y μ2) (kCh3 g y d ρ Q)
  congr 1
  funext z μ3
  rw [Wp_bind]
  show Wp (asBool z μ3) _ = Wp (asBool z μ3) (kCh4 g y d ρ Q)
  congr 1
  funext k μ4
  cases k with
  | true =>
    rw [if_pos rfl, Wp_bind]
    rfl
  | false =>
    rw [if_neg (by decide), Wp_ok]
    rfl
theorem kCh4_s {k : Bool} {y : Dv} (h1 : k = true → Wp (d ρ μ) (kCh5 g y Q)) (h2 : k = false → Q (.d (.bool false)) μ) : kCh4 g y d ρ Q k μ := by
  cases k with
  | true => exact h1 rfl
  | false => exact h2 rfl
end
def lp (y : Nat) : Bool := decide ((y : Int) % 4 = 0) && (!decide ((y : Int) % 100 = 0) || decide ((y : Int) % 400 = 0))
def tabM : List Nat := [31, 28, 31, 30, 31, 30, 31, 31, 30, 31, 30, 31]
/-- days of the month of this place -/
def mdj (y j : Nat) : Nat := tabM.getD j 0 + (if j = 1 ∧ lp y = true then 1 else 0)
theorem tab_ix {μ : Store} {j : Nat} (h : j < 12) : dIx (.d (.tuple [.int 31, .int 28, .int 31, .int 30, .int 31, .int 30, .int 31, .int 31, .int 30, .int 31, .int 30, .int 31])) (.d (.int j)) μ = .ok (.d (.int (tabM.getD j 0))) μ := by
  refine dIx_t (atI_nn ?_)
  have : ∀ j < 12, ([.int 31, .int 28, .int 31, .int 30, .int 31, .int 30, .int 31, .int 31, .int 30, .int 31, .int 30, .int 31] : List D)[j]? = some (.int (tabM.getD j 0)) := by
    intro j hj
    match j, hj with
    | 0, _ | 1, _ | 2, _ | 3, _ | 4, _ | 5, _ | 6, _ | 7, _ | 8, _ | 9, _ | 10, _ | 11, _ => rfl
  exact this j h
theorem F_is_leap_eq {μ : Store} {y : Nat} : F_is_leap [.d (.int y)] μ = .ok (.d (.bool (lp y))) μ := by
  unfold F_is_leap B_is_leap lp
  rw [runB_eq]
  by_cases h1 : (y : Int) % 4 = 0
  · by_cases h2 : (y : Int) % 100 = 0
    · simp -implicitDefEqProofs (disch := first | assumption | rfl | exact cMod_of (by decide) | omega | (simp only [List.length_take, List.length_drop, List.length_append, List.length_cons, List.length_nil, List.length_map, List.length_range, List.length_replicate]; omega) | solve_by_elim) [h1, h2]
    · simp -implicitDefEqProofs (disch := first | assumption | rfl | exact cMod_of (by decide) | omega | (simp only [List.length_take, List.length_drop, List.length_append, List.length_cons, List.length_nil, List.length_map, List.length_range, List.length_replicate]; omega) | solve_by_elim) [h1, h2]
  · simp -implicitDefEqProofs (disch := first | assumption | rfl | exact cMod_of (by decide) | omega | (simp only [List.length_take, List.length_drop, List.length_append, List.length_cons, List.length_nil, List.length_map, List.length_range, List.length_replicate]; omega) | solve_by_elim) [h1]
theorem F_month_days_eq {μ : Store} {y j : Nat} (h : j < 12) : F_month_days [.d (.int y), .d (.int (j + 1))] μ = .ok (.d (.int (mdj y j))) μ := by
  have e : ((j : Int) + 1) - 1 = (j : Int) := by omega
  have ti := tab_ix (μ := μ) h
  have le := F_is_leap_eq (μ := μ) (y := y)
  unfold F_month_days B_month_days mdj
  rw [runB_eq]
  by_cases h1 : j = 1
  · subst h1
    have ti : dIx (.d (.tuple [.int 31, .int 28, .int 31, .int 30, .int 31, .int 30, .int 31, .int 31, .int 30, .int 31, .int 30, .int 31])) (.d (.int 1)) μ = .ok (.d (.int 28)) μ := tab_ix (j := 1) (by decide)
    cases hl : lp y with
    | true =>
      rw [hl] at le
      simp -implicitDefEqProofs (disch := first | assumption | rfl | exact cMod_of (by decide) | omega | (simp only [List.length_take, List.length_drop, List.length_append, List.length_cons, List.length_nil, List.length_map, List.length_range, List.length_replicate]; omega) | solve_by_elim) [ti, le, tabM]
    | false =>
      rw [hl] at le
      simp -implicitDefEqProofs (disch := first | assumption | rfl | exact cMod_of (by decide) | omega | (simp only [List.length_take, List.length_drop, List.length_append, List.length_cons, List.length_nil, List.length_map, List.length_range, List.length_replicate]; omega) | solve_by_elim) [ti, le, tabM]
  · have h2 : ¬ (j : Int) + 1 = 2 := by omega
    simp -implicitDefEqProofs (disch := first | assumption | rfl | exact cMod_of (by decide) | omega | (simp only [List.length_take, List.length_drop, List.length_append, List.length_cons, List.length_nil, List.length_map, List.length_range, List.length_replicate]; omega) | solve_by_elim) [e, ti, h2, h1]
theorem F_days_ahead_eq {μ : Store} {y : Nat} (h : y ≤ 9999) : F_days_ahead [.d (.int y)] μ = .ok (.d (.int (365 * ((y : Int) - 1) + ((y : Int) - 1) / 4 - ((y : Int) - 1) / 100 + ((y : Int) - 1) / 400))) μ := by
  unfold F_days_ahead B_days_ahead
  rw [runB_eq]
  have c : cMul 365 ((y : Int) - 1) = true := cMul_ok (a := 20) (b := 20) (by decide) (by omega) (by decide) (by decide) (by decide)
  have c1 : cDiv ((y : Int) - 1) 4 = true := cDiv_of (by decide) (by decide)
  have c2 : cDiv ((y : Int) - 1) 100 = true := cDiv_of (by decide) (by decide)
  have c3 : cDiv ((y : Int) - 1) 400 = true := cDiv_of (by decide) (by decide)
  simp -implicitDefEqProofs (disch := first | assumption | rfl | exact cMod_of (by decide) | omega | (simp only [List.length_take, List.length_drop, List.length_append, List.length_cons, List.length_nil, List.length_map, List.length_range, List.length_replicate]; omega) | solve_by_elim) [r1_days_ahead, c, c1, c2, c3]
theorem dSum_i {ks : List Int} {μ : Store} : dSum [.d (.list (ks.map PyData.int))] μ = .ok (.d (.int ks.sum)) μ := by
  show (match allI ((ks.map PyData.int).map Dv.d) with
    | some ks => Out.ok (Dv.d (PyData.int ks.sum)) μ
    | none => .bad) = _
  rw [List.map_map, show (Dv.d ∘ PyData.int) = fun k => Dv.d (PyData.int k) from rfl, allI_map]
/-- a day's number -/
def dayN (y m d : Nat) : Option Int :=
  if y = 0 ∨ ¬ (1 ≤ m ∧ m ≤ 12) ∨ ¬ (1 ≤ d ∧ d ≤ mdj y (m - 1)) then none
  else some (365 * ((y : Int) - 1) + ((y : Int) - 1) / 4 - ((y : Int) - 1) / 100 + ((y : Int) - 1) / 400 + ((List.range (m - 1)).map fun j => (mdj y j : Int)).sum + d - 1)
theorem sum_md {μ : Store} {y j : Nat} {a b c : Option Dv} (ha : a = some (.d (.int y))) (hj : j < 12) : lcF dList (gN 3) tYesM c1_day_number [3] [a, b, c, none] ((List.range j).map fun (k : Nat) => Dv.d (.int (1 + k))) μ = .ok (.d (.list (((List.range j).map fun k => (mdj y k : Int)).map PyData.int))) μ := by
  subst ha
  unfold lcF
  have hb := line_big
  rw [if_pos (by simp; omega), lcM_map (f := fun b => match b with | .d (.int i) => .d (.int (mdj y (i - 1).toNat)) | b => b) (fun b hb => ?_)]
  · show dList (((List.range j).map fun (k : Nat) => Dv.d (.int (1 + k))).map _) μ = _
    rw [List.map_map]
    have : (List.range j).map ((fun b => match b with | .d (.int i) => Dv.d (.int (mdj y (i - 1).toNat)) | b => b) ∘ fun (k : Nat) => Dv.d (.int (1 + k))) = (((List.range j).map fun k => (mdj y k : Int)).map PyData.int).map .d := by
      rw [List.map_map, List.map_map]
      refine List.map_congr_left fun k hk => ?_
      show Dv.d (.int (mdj y ((1 : Int) + k - 1).toNat)) = Dv.d (.int (mdj y k))
      rw [show ((1 : Int) + k - 1).toNat = k by omega]
    rw [this]
    exact dList_map (by simp; omega)
  · obtain ⟨k, hk, rfl⟩ := List.mem_map.mp hb
    have hk := List.mem_range.mp hk
    refine ⟨_, rfl, ?_⟩
    have md := F_month_days_eq (μ := μ) (y := y) (j := k) (by omega)
    have ek : (1 : Int) + k = (k : Int) + 1 := by omega
    have ek2 : ((k : Int) + 1 - 1).toNat = k := by omega
    rw [ek]
    show c1_day_number _ μ = Out.ok (Dv.d (.int (mdj y ((k : Int) + 1 - 1).toNat))) μ
    rw [ek2]
    simp -implicitDefEqProofs (disch := first | assumption | rfl | exact cMod_of (by decide) | omega | (simp only [List.length_take, List.length_drop, List.length_append, List.length_cons, List.length_nil, List.length_map, List.length_range, List.length_replicate]; omega) | solve_by_elim) [c1_day_number, wipeD, md]
theorem day_r1 {μ : Store} {y j d : Nat} (hy : y ≤ 9999) (hj : j < 12) : r1_day_number [some (.d (.int y)), some (.d (.int ((j : Int) + 1))), some (.d (.int d)), none] μ = .ok (.rt (.d (.int (365 * ((y : Int) - 1) + ((y : Int) - 1) / 4 - ((y : Int) - 1) / 100 + ((y : Int) - 1) / 400 + ((List.range j).map fun j => (mdj y j : Int)).sum + d - 1)))) μ := by
  have da := F_days_ahead_eq (μ := μ) hy
  have e1 : ((j : Int) + 1 - 1).toNat = j := by omega
  have ok1 : okR ((j : Int) + 1) = true := okR_of (by omega) (by omega)
  have rg : rng2 [.d (.int 1), .d (.int ((j : Int) + 1))] μ = .ok ((List.range j).map fun (k : Nat) => Dv.d (.int (1 + k))) μ := by
    have ok0 : okR 1 = true := okR_of (by decide) (by decide)
    simp only [rng2, ok0, ok1, e1, Bool.and_self, if_true]
  have lc := sum_md (μ := μ) (y := y) (j := j) (a := some (.d (.int y))) (b := some (.d (.int ((j : Int) + 1)))) (c := some (.d (.int d))) rfl hj
  have sm := dSum_i (ks := (List.range j).map fun k => (mdj y k : Int)) (μ := μ)
  generalize ((List.range j).map fun k => (mdj y k : Int)) = ks at lc sm ⊢
  generalize ((List.range j).map fun (k : Nat) => Dv.d (.int (1 + k))) = rs at lc rg
  have w : Wp (r1_day_number [some (.d (.int y)), some (.d (.int ((j : Int) + 1))), some (.d (.int d)), none] μ) fun f μ' => f = .rt (.d (.int (365 * ((y : Int) - 1) + ((y : Int) - 1) / 4 - ((y : Int) - 1) / 100 + ((y : Int) - 1) / 400 + ks.sum + d - 1))) ∧ μ' = μ := by
    simp_arith [r1_day_number, da, rg, lc, sm]
  obtain ⟨f, μ', e, rfl, rfl⟩ := Wp_of w
  exact e
theorem F_day_number_eq {μ : Store} {y m d : Nat} (hy : y ≤ 9999) (hm : m ≤ 99) (hd : d ≤ 99) : F_day_number [.d (.int y), .d (.int m), .d (.int d)] μ = .ok (.d (oI (dayN y m d))) μ := by
  apply eq_of
  unfold F_day_number B_day_number
  apply Wp_run
  have ln : dLen [.d (.tuple [.int 31, .int 28, .int 31, .int 30, .int 31, .int 30, .int 31, .int 31, .int 30, .int 31, .int 30, .int 31])] μ = .ok (.d (.int 12)) μ := rfl
  have no : ∀ (y m d : Nat), (y = 0 ∨ ¬ (1 ≤ m ∧ m ≤ 12) ∨ ¬ (1 ≤ d ∧ d ≤ mdj y (m - 1))) → oI (dayN y m d) = .none := fun y m d h => by
    unfold dayN
    rw [if_pos h]
    rfl
  simp_arith [-eChain_r]
  refine kOr_s (fun q0 => ?_) fun q0 => ?_
  · have q0 : y = 0 := by simpa using q0
    simp_arith []
    rw [no _ _ _ (.inl q0)]
  · have q0 : ¬ y = 0 := by simpa using q0
    simp_arith [-eChain_r]
    refine kCh4_s (fun q1 => ?_) fun q1 => ?_
    · have q1 : 1 ≤ m := by simp at q1; omega
      simp_arith [-eChain_r, ln]
      refine kOr_s (fun q2 => ?_) fun q2 => ?_
      · have q2 : ¬ m ≤ 12 := by simp at q2; omega
        simp_arith []
        rw [no _ _ _ (.inr (.inl fun z => q2 z.2))]
      · have q2 : m ≤ 12 := by simp at q2; omega
        obtain ⟨j, rfl⟩ : ∃ j, m = j + 1 := ⟨m - 1, by omega⟩
        have md := F_month_days_eq (μ := μ) (y := y) (j := j) (by omega)
        simp_arith [-eChain_r]
        refine kCh4_s (fun q3 => ?_) fun q3 => ?_
        · have q3 : 1 ≤ d := by simp at q3; omega
          simp_arith [md]
          refine kIf_s (fun q4 => ?_) fun q4 => ?_
          · have q4 : ¬ d ≤ mdj y j := by simp at q4; omega
            simp_arith []
            rw [no _ _ _ (.inr (.inr fun z => q4 z.2))]
          · have q4 : d ≤ mdj y j := by simp at q4; omega
            have e := day_r1 (μ := μ) (y := y) (j := j) (d := d) hy (by omega)
            simp_arith [e]
            unfold dayN
            rw [if_neg]
            · rfl
            · simp
              omega
        · have q3 : ¬ 1 ≤ d := by simp at q3; omega
          simp_arith []
          rw [no _ _ _ (.inr (.inr fun z => q3 z.1))]
    · have q1 : ¬ 1 ≤ m := by simp at q1; omega
      simp_arith []
      rw [no _ _ _ (.inr (.inl fun z => q1 z.1))]
end LW

namespace LW
open PySem PySem.Spec PyProof.Rows L2 DL
@[simp ↓] theorem kM_str {f : Dv → OpN} {ma : MA} {ρ : DEnv} {Q : Dv → Store → Prop} {x : Str} {μ : Store} : kM isStr f ma ρ Q (.d (.str x)) μ = Wp (ma ρ μ) (kM2 f (.d (.str x)) Q) := kM_r rfl
theorem split3 {s : Nat} {l : List Nat} (h : (splitL s [] l).length = 3) : ∃ a b c, splitL s [] l = [a, b, c] ∧ l = a ++ s :: (b ++ s :: c) := by
  by_cases h1 : s ∈ l
  · obtain ⟨a, r, rfl, na⟩ := cut_at h1
    rw [splitL_app na, List.nil_append] at h ⊢
    by_cases h2 : s ∈ r
    · obtain ⟨b, c, rfl, nb⟩ := cut_at h2
      rw [splitL_app nb, List.nil_append] at h ⊢
      by_cases h3 : s ∈ c
      · obtain ⟨d, e, rfl, nd⟩ := cut_at h3
        rw [splitL_app nd] at h
        simp at h
        exact absurd h splitL_ne
      · rw [splitL_no h3, List.nil_append]
        exact ⟨a, b, c, rfl, rfl⟩
    · rw [splitL_no h2] at h
      simp at h
  · rw [splitL_no h1] at h
    simp at h
/-- figures, so many -/
def okF (l : List Nat) (a b : Nat) : Bool := decide (a ≤ l.length) && decide (l.length ≤ b) && l.all isDig
theorem F_are_figures_f {μ : Store} {l : List Nat} {a b : Nat} (hl : l.length ≤ 1000000) : F_are_figures [.d (.str (T l)), .d (.int a), .d (.int b)] μ = .ok (.d (.bool (okF l a b))) μ := by
  rw [F_are_figures_eq hl]
  unfold okF
  congr 3
  congr 2
  · rw [Bool.eq_iff_iff]; simp
  · rw [Bool.eq_iff_iff]; simp
/-- year, month, day of figures -/
def chk3 (y m d : List Nat) : Option Int := if (okF y 4 4 && (okF m 1 2 && okF d 1 2)) = true then dayN (dval y) (dval m) (dval d) else none
/-- which part is which -/
def sel (o : List Nat) (a b c : List Nat) : List Nat × List Nat × List Nat := if o = [121, 109, 100] then (a, b, c) else if o = [100, 109, 121] then (c, b, a) else (c, a, b)
def chk (o a b c : List Nat) : Option Int := chk3 (sel o a b c).1 (sel o a b c).2.1 (sel o a b c).2.2
def d3 (x y z : Nat) (a b c : List Nat) : D := .dict [(.str (T [x]), .str (T a)), (.str (T [y]), .str (T b)), (.str (T [z]), .str (T c))]
theorem T1_ne {x y : Nat} (h : x ≠ y) : ¬ (Sum.inr (T [x]) : Key) = .inr (T [y]) := fun e => h (by
  injection e with e
  have := T_inj.mp e
  simpa using this)
theorem dg3 {x y z k : Nat} {a b c : List Nat} {μ : Store} : dDG (.d (d3 x y z a b c)) (.d (.str (T [k]))) μ = if x = k then .ok (.d (.str (T a))) μ else if y = k then .ok (.d (.str (T b))) μ else if z = k then .ok (.d (.str (T c))) μ else .bad := by
  have e : dpairs (.d (d3 x y z a b c)) μ = some [(.inr (T [x]), .d (.str (T a))), (.inr (T [y]), .d (.str (T b))), (.inr (T [z]), .d (.str (T c)))] := rfl
  have ek : DL.keyOf (.str (T [k])) = some (.inr (T [k])) := rfl
  unfold dDG
  simp only [e, ek]
  unfold valD
  by_cases h1 : x = k
  · subst h1
    rw [if_pos rfl]
    simp
  · by_cases h2 : y = k
    · subst h2
      rw [if_neg h1, if_pos rfl]
      simp [List.find?_cons, T1_ne h1]
    · by_cases h3 : z = k
      · subst h3
        rw [if_neg h1, if_neg h2, if_pos rfl]
        simp [List.find?_cons, T1_ne h1, T1_ne h2]
      · rw [if_neg h1, if_neg h2, if_neg h3]
        simp [List.find?_cons, T1_ne h1, T1_ne h2, T1_ne h3]
/-- told: the parts by letters, whichever order -/
structure Told (t : D) (y m d : List Nat) : Prop where
  y : ∀ μ, dDG (.d t) (.d (.str (T [121]))) μ = .ok (.d (.str (T y))) μ
  m : ∀ μ, dDG (.d t) (.d (.str (T [109]))) μ = .ok (.d (.str (T m))) μ
  d : ∀ μ, dDG (.d t) (.d (.str (T [100]))) μ = .ok (.d (.str (T d))) μ
abbrev Ods : List (List Nat) := [[121, 109, 100], [100, 109, 121], [109, 100, 121]]
theorem told_of {o a b c : List Nat} (ho : o ∈ Ods) : ∃ x y z, o = [x, y, z] ∧ x ≠ y ∧ x ≠ z ∧ y ≠ z ∧ Told (d3 x y z a b c) (sel o a b c).1 (sel o a b c).2.1 (sel o a b c).2.2 := by
  simp only [Ods, List.mem_cons, List.not_mem_nil, or_false] at ho
  rcases ho with rfl | rfl | rfl
  · exact ⟨121, 109, 100, rfl, by decide, by decide, by decide, fun μ => dg3, fun μ => dg3, fun μ => dg3⟩
  · exact ⟨100, 109, 121, rfl, by decide, by decide, by decide, fun μ => dg3, fun μ => dg3, fun μ => dg3⟩
  · exact ⟨109, 100, 121, rfl, by decide, by decide, by decide, fun μ => dg3, fun μ => dg3, fun μ => dg3⟩
theorem dval_lt {l : List Nat} : l.all isDig = true → dval l < 10 ^ l.length := by
  have go : ∀ (l : List Nat) (v : Nat), l.all isDig = true → l.foldl (fun acc c => acc * 10 + (c - 48)) v < (v + 1) * 10 ^ l.length := by
    intro l
    induction l with
    | nil => intro v _; simp
    | cons c l ih =>
      intro v h
      rw [List.all_cons, Bool.and_eq_true] at h
      have hc := isDig_iff.mp h.1
      have := ih (v * 10 + (c - 48)) h.2
      rw [List.foldl_cons, List.length_cons, Nat.pow_succ]
      calc _ < (v * 10 + (c - 48) + 1) * 10 ^ l.length := this
        _ ≤ ((v + 1) * 10) * 10 ^ l.length := Nat.mul_le_mul_right _ (by omega)
        _ = (v + 1) * (10 ^ l.length * 10) := by rw [Nat.mul_assoc, Nat.mul_comm 10]
  intro h
  have := go l 0 h
  simpa [dval, NumText.digitsVal] using this
theorem okF_d {l : List Nat} {a b : Nat} (h : okF l a b = true) : a ≤ l.length ∧ l.length ≤ b ∧ l.all isDig = true := by
  unfold okF at h
  simp at h ⊢
  exact ⟨h.1.1, h.1.2, h.2⟩
/-- the program's last part -/
theorem prog_r2 {t : D} {y m d : List Nat} {μ : Store} {s0 s1 s2 s3 s5 s6 : Option Dv} (h : Told t y m d) (ly : y.length ≤ 700000) (lm : m.length ≤ 700000) (ld : d.length ≤ 700000) {P : Fl → Store → Prop} (fin : P (.rt (.d (oI (chk3 y m d)))) μ) : Wp (r2_read_day [s0, s1, s2, s3, some (.d t), s5, s6, none] μ) P := by
  obtain ⟨gy, gm, gd⟩ := h
  have fy : F_are_figures [.d (.str (T y)), .d (.int 4), .d (.int 4)] μ = .ok (.d (.bool (okF y 4 4))) μ := F_are_figures_f (a := 4) (b := 4) (by omega)
  have fmm : F_are_figures [.d (.str (T m)), .d (.int 1), .d (.int 2)] μ = .ok (.d (.bool (okF m 1 2))) μ := F_are_figures_f (a := 1) (b := 2) (by omega)
  have fdd : F_are_figures [.d (.str (T d)), .d (.int 1), .d (.int 2)] μ = .ok (.d (.bool (okF d 1 2))) μ := F_are_figures_f (a := 1) (b := 2) (by omega)
  have no : (okF y 4 4 && (okF m 1 2 && okF d 1 2)) = false → oI (chk3 y m d) = .none := fun h => by
    unfold chk3
    rw [if_neg (by rw [h]; decide)]
    rfl
  have e : lcF dList (gN 7) tYesM c1_read_day [7] [s0, s1, s2, s3, some (.d t), s5, s6, none] ([109, 100].map fun c => .d (.str (T [c]))) μ = .ok (.d (.list ([109, 100].map fun c => .bool (okF (if c = 109 then m else d) 1 2)))) μ := by
    refine lcF_signs (by decide) fun c hc => ?_
    simp only [List.mem_cons, List.not_mem_nil, or_false] at hc
    rcases hc with rfl | rfl
    · simp -implicitDefEqProofs (disch := first | assumption | rfl | exact cMod_of (by decide) | omega | (simp only [List.length_take, List.length_drop, List.length_append, List.length_cons, List.length_nil, List.length_map, List.length_range, List.length_replicate]; omega) | solve_by_elim) [c1_read_day, wipeD, gm, fmm]
    · simp -implicitDefEqProofs (disch := first | assumption | rfl | exact cMod_of (by decide) | omega | (simp only [List.length_take, List.length_drop, List.length_append, List.length_cons, List.length_nil, List.length_map, List.length_range, List.length_replicate]; omega) | solve_by_elim) [c1_read_day, wipeD, gd, fdd]
  have e2 : ([109, 100].map fun c => PyData.bool (okF (if c = 109 then m else d) 1 2)) = [okF m 1 2, okF d 1 2].map PyData.bool := rfl
  have e3 : ([109, 100].map fun c => Dv.d (.str (T [c]))) = [.d (.str (T [109])), .d (.str (T [100]))] := rfl
  rw [e2, e3] at e
  have da := dAll_b (f := fun ks => ks.all id) (ks := [okF m 1 2, okF d 1 2]) (μ := μ)
  generalize hx : [okF m 1 2, okF d 1 2].map PyData.bool = xs at e da
  simp_arith [r2_read_day, gy, fy]
  refine kOr_s (fun q => ?_) fun q => ?_
  · simp_arith []
    rw [no (by simp at q; simp [q])] at fin
    exact fin
  · have q : okF y 4 4 = true := by simpa using q
    simp_arith [e, da]
    refine kIf_s (fun q2 => ?_) fun q2 => ?_
    · simp_arith []
      rw [no (by simp at q2; rcases q2 with h | h <;> simp [h])] at fin
      exact fin
    · have q2 : okF m 1 2 = true ∧ okF d 1 2 = true := by simpa using q2
      obtain ⟨y1, y2, y3⟩ := okF_d q
      obtain ⟨m1, m2, m3⟩ := okF_d q2.1
      obtain ⟨d1, d2, d3⟩ := okF_d q2.2
      have iy := dInt_s (μ := μ) y3 (by intro z; rw [z] at y1; simp at y1) (by omega)
      have im := dInt_s (μ := μ) m3 (by intro z; rw [z] at m1; simp at m1) (by omega)
      have id_ := dInt_s (μ := μ) d3 (by intro z; rw [z] at d1; simp at d1) (by omega)
      have by_ : dval y ≤ 9999 := by
        have := dval_lt y3
        rw [show y.length = 4 by omega] at this
        omega
      have small : ∀ {l : List Nat}, l.all isDig = true → l.length ≤ 2 → dval l ≤ 99 := fun {l} h1 h2 => by
        have := dval_lt h1
        have : 10 ^ l.length ≤ 10 ^ 2 := Nat.pow_le_pow_right (by decide) h2
        omega
      have dn := F_day_number_eq (μ := μ) by_ (small m3 m2) (small d3 d2)
      have ec : chk3 y m d = dayN (dval y) (dval m) (dval d) := by
        unfold chk3
        rw [if_pos (by simp [q, q2])]
      rw [ec] at fin
      simp_arith [r1_read_day, gy, gm, gd, iy, im, id_, dn]
      exact fin
def pdL (o l : List Nat) : List Nat → Option Int
  | [] => none
  | s :: ss => match splitL s [] l with
    | [a, b, c] => chk o a b c
    | _ => pdL o l ss
theorem pdL_3 {o l ss a b c : List Nat} {s : Nat} (h : splitL s [] l = [a, b, c]) : pdL o l (s :: ss) = chk o a b c := by
  unfold pdL
  rw [h]
theorem pdL_n {o l ss : List Nat} {s : Nat} (h : (splitL s [] l).length ≠ 3) : pdL o l (s :: ss) = pdL o l ss := by
  have e : pdL o l (s :: ss) = match splitL s [] l with
    | [a, b, c] => chk o a b c
    | _ => pdL o l ss := rfl
  rw [e]
  split
  · rename_i q
    rw [q] at h
    exact absurd rfl h
  · rfl
theorem splitL_le {s : Nat} : ∀ {l acc : List Nat}, (splitL s acc l).length ≤ l.length + 1
  | [], acc => by unfold splitL; simp
  | c :: l, acc => by
    unfold splitL
    split
    · have := splitL_le (s := s) (l := l) (acc := [])
      simp
      omega
    · have := splitL_le (s := s) (l := l) (acc := acc ++ [c])
      simp
      omega
theorem dcM_step {g : MG} {tt : MT} {tk tv : ME} {ρ ρ' : DEnv} {acc : List (Key × D)} {b : Dv} {bs : List Dv} {μ : Store} {xk y : D} {k : Key} (h1 : g b ρ μ = .ok ρ' μ) (h2 : tt ρ' μ = .ok true μ) (h3 : tk ρ' μ = .ok (.d xk) μ) (h4 : tv ρ' μ = .ok (.d y) μ) (hk : DL.keyOf xk = some k) (hn : (acc.any fun p => decide (p.1 = k)) = false) : dcM g tt tk tv ρ acc (b :: bs) μ = dcM g tt tk tv ρ (acc ++ [(k, y)]) bs μ := by
  show ((g b ρ μ).gb fun ρ' μ => (tt ρ' μ).gb fun k μ => if k = true then (tk ρ' μ).gb fun x μ => (tv ρ' μ).gb fun y μ => match x, y with
      | .d xk, .d y => match DL.keyOf xk with
        | some k => if (acc.any fun p => decide (p.1 = k)) = true then Out.bad else dcM g tt tk tv ρ (acc ++ [(k, y)]) bs μ
        | none => .bad
      | _, _ => .bad
    else dcM g tt tk tv ρ acc bs μ) = _
  rw [h1]
  show ((tt ρ' μ).gb fun k μ => if k = true then (tk ρ' μ).gb fun x μ => (tv ρ' μ).gb fun y μ => match x, y with
      | .d xk, .d y => match DL.keyOf xk with
        | some k => if (acc.any fun p => decide (p.1 = k)) = true then Out.bad else dcM g tt tk tv ρ (acc ++ [(k, y)]) bs μ
        | none => .bad
      | _, _ => .bad
    else dcM g tt tk tv ρ acc bs μ) = _
  rw [h2]
  show ((tk ρ' μ).gb fun x μ => (tv ρ' μ).gb fun y μ => match x, y with
      | .d xk, .d y => match DL.keyOf xk with
        | some k => if (acc.any fun p => decide (p.1 = k)) = true then Out.bad else dcM g tt tk tv ρ (acc ++ [(k, y)]) bs μ
        | none => .bad
      | _, _ => .bad) = _
  rw [h3]
  show ((tv ρ' μ).gb fun y μ => match Dv.d xk, y with
      | .d xk, .d y => match DL.keyOf xk with
        | some k => if (acc.any fun p => decide (p.1 = k)) = true then Out.bad else dcM g tt tk tv ρ (acc ++ [(k, y)]) bs μ
        | none => .bad
      | _, _ => .bad) = _
  rw [h4]
  show (match DL.keyOf xk with
        | some k => if (acc.any fun p => decide (p.1 = k)) = true then Out.bad else dcM g tt tk tv ρ (acc ++ [(k, y)]) bs μ
        | none => .bad) = _
  rw [hk]
  show (if (acc.any fun p => decide (p.1 = k)) = true then Out.bad else dcM g tt tk tv ρ (acc ++ [(k, y)]) bs μ) = _
  rw [hn, if_neg (by decide)]
theorem dc3 {x y z : Nat} {a b c : List Nat} {μ : Store} {s0 s2 s4 s5 s6 s7 : Option Dv} (hxy : x ≠ y) (hxz : x ≠ z) (hyz : y ≠ z) : eDc (iRng zipD (aCons (eVar 1) (aCons (eVar 3) (aNil)))) (gT 2 (gsCons (gN 5) (gsCons (gN 6) (gsNil)))) (tYesM) (eVar 5) (eVar 6) [5, 6] [s0, some (.d (.str (T [x, y, z]))), s2, some (.d (.list [.str (T a), .str (T b), .str (T c)])), s4, s5, s6, s7] μ = .ok (.d (d3 x y z a b c)) μ := by
  have hb := line_big
  have h3 : 3 ≤ sizeLine := by omega
  show (if 3 ≤ sizeLine then ((dcM (gT 2 (gsCons (gN 5) (gsCons (gN 6) (gsNil)))) (tYesM) (eVar 5) (eVar 6) [s0, some (.d (.str (T [x, y, z]))), s2, some (.d (.list [.str (T a), .str (T b), .str (T c)])), s4, none, none, s7] [] [.d (.tuple [.str (T [x]), .str (T a)]), .d (.tuple [.str (T [y]), .str (T b)]), .d (.tuple [.str (T [z]), .str (T c)])] μ).gb fun kvs μ => Out.ok (Dv.d (dicOf kvs)) μ) else Out.bad) = _
  rw [if_pos h3]
  rw [dcM_step (ρ' := [s0, some (.d (.str (T [x, y, z]))), s2, some (.d (.list [.str (T a), .str (T b), .str (T c)])), s4, some (.d (.str (T [x]))), some (.d (.str (T a))), s7]) (k := .inr (T [x])) rfl rfl rfl rfl rfl rfl]
  rw [dcM_step (ρ' := [s0, some (.d (.str (T [x, y, z]))), s2, some (.d (.list [.str (T a), .str (T b), .str (T c)])), s4, some (.d (.str (T [y]))), some (.d (.str (T b))), s7]) (k := .inr (T [y])) rfl rfl rfl rfl rfl (by simp [T1_ne hxy])]
  rw [dcM_step (ρ' := [s0, some (.d (.str (T [x, y, z]))), s2, some (.d (.list [.str (T a), .str (T b), .str (T c)])), s4, some (.d (.str (T [z]))), some (.d (.str (T c))), s7]) (k := .inr (T [z])) rfl rfl rfl rfl rfl (by simp [T1_ne hxz, T1_ne hyz])]
  rfl
theorem prog_loop {o l : List Nat} {μ : Store} (ho : o ∈ Ods) (hl : l.length ≤ 600000) {Q : Fl → Store → Prop} : ∀ (ss : List Nat) (s2 s3 s4 s5 s6 : Option Dv), (∀ s ∈ ss, s < 256) → (∀ v, pdL o l ss = v → (∃ s ∈ ss, (splitL s [] l).length = 3) → Q (.rt (.d (oI v))) μ) → ((∀ s ∈ ss, (splitL s [] l).length ≠ 3) → ∀ s2 s3 s4 s5 s6, Q (.nx [some (.d (.str (T l))), some (.d (.str (T o))), s2, s3, s4, s5, s6, none]) μ) →
    Wp (forL (gN 2) w1_read_day (ss.map fun c => .d (.str (T [c]))) [some (.d (.str (T l))), some (.d (.str (T o))), s2, s3, s4, s5, s6, none] μ) Q
  | [], s2, s3, s4, s5, s6, _, _, f2 => .mk (f2 (fun s h => by cases h) s2 s3 s4 s5 s6)
  | s :: ss, s2, s3, s4, s5, s6, hs, f1, f2 => by
    have h256 := hs s List.mem_cons_self
    have sp := dSplit_one (μ := μ) (l := l) h256 (by omega)
    rw [List.map_cons]
    unfold forL
    show Wp ((w1_read_day [some (.d (.str (T l))), some (.d (.str (T o))), some (.d (.str (T [s]))), s3, s4, s5, s6, none] μ).bind _) Q
    rw [Wp_bind]
    by_cases h3 : (splitL s [] l).length = 3
    · obtain ⟨a, b, c, e, el⟩ := split3 h3
      have ll : l.length = a.length + b.length + c.length + 2 := by rw [el]; simp; omega
      have v := f1 _ (pdL_3 e) ⟨s, List.mem_cons_self, h3⟩
      obtain ⟨x, y, z, rfl, n1, n2, n3, td⟩ := told_of (a := a) (b := b) (c := c) ho
      rw [e] at sp
      simp only [List.map_cons, List.map_nil] at sp
      have dc := dc3 (x := x) (y := y) (z := z) (a := a) (b := b) (c := c) (μ := μ) (s0 := some (.d (.str (T l)))) (s2 := some (.d (.str (T [s])))) (s4 := s4) (s5 := s5) (s6 := s6) (s7 := none) n1 n2 n3
      have lsel : (sel [x, y, z] a b c).1.length ≤ 700000 ∧ (sel [x, y, z] a b c).2.1.length ≤ 700000 ∧ (sel [x, y, z] a b c).2.2.length ≤ 700000 := by
        unfold sel
        split
        · exact ⟨by show a.length ≤ _; omega, by show b.length ≤ _; omega, by show c.length ≤ _; omega⟩
        · split
          · exact ⟨by show c.length ≤ _; omega, by show b.length ≤ _; omega, by show a.length ≤ _; omega⟩
          · exact ⟨by show c.length ≤ _; omega, by show a.length ≤ _; omega, by show b.length ≤ _; omega⟩
      have w : Wp (w1_read_day [some (.d (.str (T l))), some (.d (.str (T [x, y, z]))), some (.d (.str (T [s]))), s3, s4, s5, s6, none] μ) fun f μ' => f = .rt (.d (oI (chk [x, y, z] a b c))) ∧ μ' = μ := by
        simp_arith [w1_read_day, sp, r3_read_day, dc]
        exact prog_r2 (P := fun f μ' => f = .rt (.d (oI (chk [x, y, z] a b c))) ∧ μ' = μ) td lsel.1 lsel.2.1 lsel.2.2 ⟨rfl, rfl⟩
      refine Wp_mono w fun f μ' ⟨h1, h2⟩ => ?_
      subst h1 h2
      exact .mk v
    · have hn : pdL o l (s :: ss) = pdL o l ss := pdL_n h3
      have ln : ¬ ((((splitL s [] l).length : Nat) : Int) = 3) := by omega
      have w : Wp (w1_read_day [some (.d (.str (T l))), some (.d (.str (T o))), some (.d (.str (T [s]))), s3, s4, s5, s6, none] μ) fun f μ' => f = .nx [some (.d (.str (T l))), some (.d (.str (T o))), some (.d (.str (T [s]))), some (.d (.list ((splitL s [] l).map fun p => .str (T p)))), s4, s5, s6, none] ∧ μ' = μ := by
        simp_arith [w1_read_day, sp, r3_read_day, ln]
      refine Wp_mono w fun f μ' ⟨h1, h2⟩ => ?_
      subst h1 h2
      refine prog_loop ho hl ss _ _ s4 s5 s6 (fun t ht => hs t (List.mem_cons_of_mem _ ht)) (fun v hv he => ?_) fun h => ?_
      · obtain ⟨t, ht, e⟩ := he
        exact f1 v (hn.trans hv) ⟨t, List.mem_cons_of_mem _ ht, e⟩
      · refine f2 fun t ht => ?_
        rcases List.mem_cons.mp ht with rfl | ht
        · exact h3
        · exact h t ht
theorem pdL_none {o l : List Nat} : ∀ {ss : List Nat}, (∀ s ∈ ss, (splitL s [] l).length ≠ 3) → pdL o l ss = none
  | [], _ => rfl
  | s :: ss, h => by rw [pdL_n (h s List.mem_cons_self)]; exact pdL_none fun t ht => h t (List.mem_cons_of_mem _ ht)
theorem F_read_day_eq {μ : Store} {o l : List Nat} (ho : o ∈ Ods) (hl : l.length ≤ 600000) : F_read_day [.d (.str (T l)), .d (.str (T o))] μ = .ok (.d (oI (pdL o l [45, 46, 47]))) μ := by
  apply eq_of
  unfold F_read_day B_read_day
  apply Wp_run
  have lp := fun Q f1 f2 => prog_loop (μ := μ) (Q := Q) ho hl [45, 46, 47] none none none none none (by decide) f1 f2
  simp only [List.map_cons, List.map_nil] at lp
  simp_arith []
  refine lp _ (fun v hv _ => ?_) fun h s2 s3 s4 s5 s6 => ?_
  · simp_arith [hv]
  · simp_arith [r4_read_day]
    rw [pdL_none h]
    rfl
end LW

namespace LW
open PySem PySem.Spec PyProof.Rows L2 DL
theorem dIx2 {n w x : D} {r : List D} {μ : Store} : dIx (.d (.tuple (n :: w :: x :: r))) (.d (.int 2)) μ = .ok (.d x) μ := dIx_t (atI_nn (k := 2) rfl)
theorem dIx3 {n w x y : D} {r : List D} {μ : Store} : dIx (.d (.tuple (n :: w :: x :: y :: r))) (.d (.int 3)) μ = .ok (.d y) μ := dIx_t (atI_nn (k := 3) rfl)
theorem dIx4 {n w x y z : D} {r : List D} {μ : Store} : dIx (.d (.tuple (n :: w :: x :: y :: z :: r))) (.d (.int 4)) μ = .ok (.d z) μ := dIx_t (atI_nn (k := 4) rfl)
theorem dIx1 {n w : D} {r : List D} {μ : Store} : dIx (.d (.tuple (n :: w :: r))) (.d (.int 1)) μ = .ok (.d w) μ := dIx_t (atI_nn (k := 1) rfl)
theorem dIx0 {n : D} {r : List D} {μ : Store} : dIx (.d (.tuple (n :: r))) (.d (.int 0)) μ = .ok (.d n) μ := dIx_t (atI_nn (k := 0) rfl)
theorem dIxl0 {n : D} {r : List D} {μ : Store} : dIx (.d (.list (n :: r))) (.d (.int 0)) μ = .ok (.d n) μ := dIx_l (atI_nn (k := 0) rfl)
theorem dIxl1 {n w : D} {r : List D} {μ : Store} : dIx (.d (.list (n :: w :: r))) (.d (.int 1)) μ = .ok (.d w) μ := dIx_l (atI_nn (k := 1) rfl)
theorem dSl_l {μ : Store} {ds : List D} {i j : Option Int} : dSl (.d (.list ds)) i j μ = .ok (.d (.list (cutL ds i j))) μ := by
  show (match allD (cutL (ds.map Dv.d) i j) with | some ds => Out.ok (Dv.d (.list ds)) μ | none => .bad) = _
  have : cutL (ds.map Dv.d) i j = (cutL ds i j).map .d := by
    unfold cutL
    simp only [List.length_map, List.map_take, List.map_drop]
  rw [this, allD_map]
theorem lcM_filter {g : MG} {tt : MT} {te : ME} {ρ : DEnv} {μ : Store} {p : Dv → Bool} {f : Dv → Dv} : ∀ {bs : List Dv}, (∀ b ∈ bs, ∃ ρ', g b ρ μ = .ok ρ' μ ∧ tt ρ' μ = .ok (p b) μ ∧ te ρ' μ = .ok (f b) μ) → lcM g tt te ρ bs μ = .ok ((bs.filter p).map f) μ
  | [], _ => rfl
  | b :: bs, h => by
    obtain ⟨ρ', h1, h2, h3⟩ := h b List.mem_cons_self
    have ih := lcM_filter (g := g) (tt := tt) (te := te) (ρ := ρ) (μ := μ) (p := p) (f := f) (bs := bs) fun x hx => h x (List.mem_cons_of_mem _ hx)
    unfold lcM
    rw [h1]
    show ((tt ρ' μ).gb _) = _
    rw [h2]
    show (if p b = true then (te ρ' μ).gb _ else lcM g tt te ρ bs μ) = _
    cases hp : p b with
    | true =>
      rw [if_pos rfl, h3, List.filter_cons_of_pos hp]
      show ((lcM g tt te ρ bs μ).gb _) = _
      rw [ih]
      rfl
    | false =>
      rw [if_neg (by decide), List.filter_cons_of_neg (by rw [hp]; decide)]
      exact ih
def figB (l : List Nat) : Bool := decide (l ≠ []) && l.all isDig
/-- the months of a year -/
def monL (lg : Int) : List D := [.int 31, .int (28 + lg), .int 31, .int 30, .int 31, .int 30, .int 31, .int 31, .int 30, .int 31, .int 30, .int 31]
def lgN (y : Nat) : Int := if lp y = true then 1 else 0
theorem mon_ix {y j : Nat} {μ : Store} (h : j < 12) : dIx (.d (.list (monL (lgN y)))) (.d (.int j)) μ = .ok (.d (.int (mdj y j))) μ := by
  refine dIx_l (atI_nn ?_)
  match j, h with
  | 0, _ | 2, _ | 3, _ | 4, _ | 5, _ | 6, _ | 7, _ | 8, _ | 9, _ | 10, _ | 11, _ => simp [monL, mdj, tabM]
  | 1, _ => cases hl : lp y <;> simp [monL, mdj, tabM, lgN, hl]
theorem mon_sum {y j : Nat} {μ : Store} (h : j < 12) : dSum [.d (.list ((monL (lgN y)).take j))] μ = .ok (.d (.int ((List.range j).map fun j => (mdj y j : Int)).sum)) μ := by
  have e : (monL (lgN y)).take j = ((List.range j).map fun j => (mdj y j : Int)).map PyData.int := by
    match j, h with
    | 0, _ | 1, _ | 2, _ | 3, _ | 4, _ | 5, _ | 6, _ | 7, _ | 8, _ | 9, _ | 10, _ | 11, _ => cases hl : lp y <;> simp [monL, mdj, tabM, lgN, hl, List.range, List.range.loop]
  rw [e, dSum_i]
theorem law_r2 {μ : Store} {y m d : Nat} {s0 s1 s2 s3 s4 s5 s6 s10 : Option Dv} (hy : y ≤ 9999) (hm : m ≤ 99) (hd : d ≤ 99) {P : Fl → Store → Prop} (fin : ∀ v, oI (dayN y m d) = v → P (.rt (.d v)) μ) : Wp (r2_l_day [s0, s1, s2, s3, s4, s5, s6, some (.d (.int y)), some (.d (.int m)), some (.d (.int d)), s10, some (.d (.list (monL (lgN y)))), none, none] μ) P := by
  have no : (y = 0 ∨ ¬ (1 ≤ m ∧ m ≤ 12) ∨ ¬ (1 ≤ d ∧ d ≤ mdj y (m - 1))) → oI (dayN y m d) = .none := fun h => by
    unfold dayN
    rw [if_pos h]
    rfl
  simp_arith [-eChain_r, r2_l_day]
  refine kOr_s (fun q0 => ?_) fun q0 => ?_
  · have q0 : y = 0 := by simpa using q0
    simp_arith []
    exact fin _ (no (.inl q0))
  · have q0 : ¬ y = 0 := by simpa using q0
    simp_arith [-eChain_r]
    refine kCh4_s (fun q1 => ?_) fun q1 => ?_
    · have q1 : 1 ≤ m := by simp at q1; omega
      simp_arith [-eChain_r]
      refine kOr_s (fun q2 => ?_) fun q2 => ?_
      · have q2 : ¬ m ≤ 12 := by simp at q2; omega
        simp_arith []
        exact fin _ (no (.inr (.inl fun z => q2 z.2)))
      · have q2 : m ≤ 12 := by simp at q2; omega
        obtain ⟨j, rfl⟩ : ∃ j, m = j + 1 := ⟨m - 1, by omega⟩
        have ej : (((j + 1 : Nat) : Int)) - 1 = (j : Int) := by omega
        have ej' : ((j : Int) + 1) - 1 = (j : Int) := by omega
        have mi := mon_ix (μ := μ) (y := y) (j := j) (by omega)
        simp_arith [-eChain_r]
        refine kCh4_s (fun q3 => ?_) fun q3 => ?_
        · have q3 : 1 ≤ d := by simp at q3; omega
          simp_arith [ej', mi]
          refine kIf_s (fun q4 => ?_) fun q4 => ?_
          · have q4 : ¬ d ≤ mdj y j := by simp at q4; omega
            simp_arith []
            exact fin _ (no (.inr (.inr fun z => q4 z.2)))
          · have q4 : d ≤ mdj y j := by simp at q4; omega
            have c : cMul ((y : Int) - 1) 365 = true := cMul_ok (a := 20) (b := 20) (by omega) (by decide) (by decide) (by decide) (by decide)
            have ms := mon_sum (μ := μ) (y := y) (j := j) (by omega)
            have ec : cutL (monL (lgN y)) none (some (j : Int)) = (monL (lgN y)).take j := by rw [cut_to _ (by omega), Int.toNat_natCast]
            simp_arith [r1_l_day, c, ej', dSl_l, ec, ms]
            have fin := fin _ rfl
            unfold dayN at fin
            rw [if_neg (by simp; omega)] at fin
            have e : ((((y : Int) - 1) * 365 + ((y : Int) - 1) / 4 - ((y : Int) - 1) / 100 + ((y : Int) - 1) / 400) + ((List.range j).map fun j => (mdj y j : Int)).sum + d - 1) = (365 * ((y : Int) - 1) + ((y : Int) - 1) / 4 - ((y : Int) - 1) / 100 + ((y : Int) - 1) / 400 + ((List.range (j + 1 - 1)).map fun j => (mdj y j : Int)).sum + d - 1) := by
              rw [show j + 1 - 1 = j by omega]
              generalize ((List.range j).map fun j => (mdj y j : Int)).sum = s
              omega
            rw [e]
            exact fin
        · have q3 : ¬ 1 ≤ d := by simp at q3; omega
          simp_arith []
          exact fin _ (no (.inr (.inr fun z => q3 z.1)))
    · have q1 : ¬ 1 ≤ m := by simp at q1; omega
      simp_arith []
      exact fin _ (no (.inr (.inl fun z => q1 z.1)))
theorem filter_cut {s : Nat} {l : List Nat} {r : List Nat} (hs : isDig s = false) (h : l.filter (fun c => !isDig c) = s :: r) : ∃ a t, l = a ++ s :: t ∧ a.all isDig = true ∧ t.filter (fun c => !isDig c) = r := by
  induction l with
  | nil => simp at h
  | cons c l ih =>
    cases hc : isDig c with
    | true =>
      rw [List.filter_cons_of_neg (by simp [hc])] at h
      obtain ⟨a, t, rfl, h1, h2⟩ := ih h
      exact ⟨c :: a, t, rfl, by rw [List.all_cons, hc, h1]; rfl, h2⟩
    | false =>
      rw [List.filter_cons_of_pos (by simp [hc])] at h
      injection h with h1 h2
      subst h1
      exact ⟨[], l, rfl, rfl, h2⟩
theorem filter_nil {l : List Nat} (h : l.filter (fun c => !isDig c) = []) : l.all isDig = true := by
  rw [List.all_eq_true]
  intro c hc
  have := List.filter_eq_nil_iff.mp h c hc
  simpa using this
theorem filter_dig {l : List Nat} (h : l.all isDig = true) : l.filter (fun c => !isDig c) = [] := by
  refine List.filter_eq_nil_iff.mpr fun c hc => ?_
  have := List.all_eq_true.mp h c hc
  simp [this]
theorem not_in {s : Nat} {l : List Nat} (hs : isDig s = false) (h : l.all isDig = true) : s ∉ l := fun q => by
  have := List.all_eq_true.mp h s q
  rw [hs] at this
  cases this
theorem sel_all {o a b c : List Nat} {p : List Nat → Bool} : (p (sel o a b c).1 && (p (sel o a b c).2.1 && p (sel o a b c).2.2)) = (p a && (p b && p c)) := by
  unfold sel
  split
  · rfl
  · split
    · show (p c && (p b && p a)) = _
      cases p a <;> cases p b <;> cases p c <;> rfl
    · show (p c && (p a && p b)) = _
      cases p a <;> cases p b <;> cases p c <;> rfl
theorem chk3_fig {y m d : List Nat} (h : (figB y && (figB m && figB d)) = false) : chk3 y m d = none := by
  unfold chk3
  rw [if_neg]
  intro q
  simp only [Bool.and_eq_true] at q
  have f : ∀ {l : List Nat} {a b : Nat}, 1 ≤ a → okF l a b = true → figB l = true := fun h1 h2 => by
    obtain ⟨g1, g2, g3⟩ := okF_d h2
    unfold figB
    rw [g3, decide_eq_true (by intro z; rw [z] at g1; simp at g1; omega)]
    rfl
  rw [f (by decide) q.1, f (by decide) q.2.1, f (by decide) q.2.2] at h
  cases h
/-- the three signs' cases -/
theorem pd_bad {o l : List Nat} : ∀ {ss : List Nat}, (∀ s ∈ ss, ∀ a b c, splitL s [] l = [a, b, c] → chk o a b c = none) → pdL o l ss = none
  | [], _ => rfl
  | s :: ss, h => by
    by_cases h3 : (splitL s [] l).length = 3
    · obtain ⟨a, b, c, e, _⟩ := split3 h3
      rw [pdL_3 e]
      exact h s List.mem_cons_self a b c e
    · rw [pdL_n h3]
      exact pd_bad fun t ht => h t (List.mem_cons_of_mem _ ht)
theorem pd_good {o l : List Nat} {a b c : List Nat} {s : Nat} (hs : isDig s = false) (el : l = a ++ s :: (b ++ s :: c)) (ha : a.all isDig = true) (hb : b.all isDig = true) (hc : c.all isDig = true) : ∀ {ss : List Nat}, s ∈ ss → (∀ t ∈ ss, isDig t = false) → pdL o l ss = chk o a b c
  | [], h, _ => by cases h
  | t :: ss, h, hd => by
    by_cases e : t = s
    · subst e
      have e2 : splitL t [] l = [a, b, c] := by
        rw [el, splitL_app (not_in hs ha), splitL_app (not_in hs hb), splitL_no (not_in hs hc)]
        rfl
      exact pdL_3 e2
    · have nt : t ∉ l := by
        have ht := hd t List.mem_cons_self
        rw [el]
        intro q
        simp only [List.mem_append, List.mem_cons] at q
        rcases q with q | q | q | q | q
        · exact not_in ht ha q
        · exact e q
        · exact not_in ht hb q
        · exact e q
        · exact not_in ht hc q
      rw [pdL_n (by rw [splitL_no nt]; simp)]
      rcases List.mem_cons.mp h with h | h
      · exact absurd h.symm e
      · exact pd_good hs el ha hb hc h fun u hu => hd u (List.mem_cons_of_mem _ hu)
/-- a day found has two signs, alike -/
theorem chk_sg {o l : List Nat} {s : Nat} {a b c : List Nat} (hs : isDig s = false) (e : splitL s [] l = [a, b, c]) (el : l = a ++ s :: (b ++ s :: c)) (h : l.filter (fun c => !isDig c) ≠ [s, s]) : chk o a b c = none := by
  unfold chk
  apply chk3_fig
  rw [sel_all]
  cases q : (figB a && (figB b && figB c)) with
  | false => rfl
  | true =>
    exfalso
    apply h
    simp only [Bool.and_eq_true] at q
    have f : ∀ {l : List Nat}, figB l = true → l.all isDig = true := fun h => by unfold figB at h; simp at h ⊢; exact h.2
    rw [el, List.filter_append, filter_dig (f q.1), List.filter_cons_of_pos (by simp [hs]), List.filter_append, filter_dig (f q.2.1), List.filter_cons_of_pos (by simp [hs]), filter_dig (f q.2.2)]
    rfl
theorem lcM_yes {g : MG} {te : ME} {ρ ρ' : DEnv} {b y : Dv} {bs ys : List Dv} {μ : Store} (h1 : g b ρ μ = .ok ρ' μ) (h2 : te ρ' μ = .ok y μ) (h3 : lcM g tYesM te ρ bs μ = .ok ys μ) : lcM g tYesM te ρ (b :: bs) μ = .ok (y :: ys) μ := by
  unfold lcM
  rw [h1]
  show (if true = true then (te ρ' μ).gb _ else lcM g tYesM te ρ bs μ) = _
  rw [if_pos rfl, h2]
  show ((lcM g tYesM te ρ bs μ).gb _) = _
  rw [h3]
  rfl
def okT (l : List Nat) : Bool := decide (1 ≤ l.length) && decide (l.length ≤ 2)
theorem c3_eq {μ : Store} {l : List Nat} (hl : l.length ≤ 80) {s0 s1 s2 s3 s4 s5 s6 s7 s8 s9 s10 s11 s12 : Option Dv} : c3_l_day [s0, s1, s2, s3, s4, s5, s6, s7, s8, s9, s10, s11, s12, some (.d (.str (T l)))] μ = .ok (.d (.bool (okT l))) μ := by
  unfold c3_l_day okT
  by_cases h1 : 1 ≤ l.length
  · have h1' : (1 : Int) ≤ (l.length : Int) := by omega
    by_cases h2 : l.length ≤ 2
    · have h2' : (l.length : Int) ≤ 2 := by omega
      simp -implicitDefEqProofs (disch := first | assumption | rfl | exact cMod_of (by decide) | omega | (simp only [List.length_take, List.length_drop, List.length_append, List.length_cons, List.length_nil, List.length_map, List.length_range, List.length_replicate]; omega) | solve_by_elim) [h1, h2, h1', h2']
    · have h2' : ¬ (l.length : Int) ≤ 2 := by omega
      simp -implicitDefEqProofs (disch := first | assumption | rfl | exact cMod_of (by decide) | omega | (simp only [List.length_take, List.length_drop, List.length_append, List.length_cons, List.length_nil, List.length_map, List.length_range, List.length_replicate]; omega) | solve_by_elim) [h1, h2, h1', h2']
  · have h1' : ¬ (1 : Int) ≤ (l.length : Int) := by omega
    simp -implicitDefEqProofs (disch := first | assumption | rfl | exact cMod_of (by decide) | omega | (simp only [List.length_take, List.length_drop, List.length_append, List.length_cons, List.length_nil, List.length_map, List.length_range, List.length_replicate]; omega) | solve_by_elim) [h1, h1']
/-- three parts of figures: their day -/
theorem law_r6 {y m d : List Nat} {μ : Store} {s0 s1 s2 s3 : Option Dv} (y2 : y.all isDig = true) (m2 : m.all isDig = true) (d2 : d.all isDig = true) (ly : y.length ≤ 80) (lm : m.length ≤ 80) (ld : d.length ≤ 80) {P : Fl → Store → Prop} (fin : ∀ v, oI (chk3 y m d) = v → P (.rt (.d v)) μ) :
    Wp (r6_l_day [s0, s1, s2, s3, some (.d (.str (T y))), some (.d (.str (T m))), some (.d (.str (T d))), none, none, none, none, none, none, none] μ) P := by
  have ok : ∀ {l : List Nat} {a b : Nat}, l.all isDig = true → okF l a b = (decide (a ≤ l.length) && decide (l.length ≤ b)) := fun h => by
    unfold okF
    rw [h, Bool.and_true]
  have e0 : chk3 y m d = if (decide (y.length = 4) && (okT m && okT d)) = true then dayN (dval y) (dval m) (dval d) else none := by
    unfold chk3 okT
    rw [ok y2, ok m2, ok d2]
    congr 1
    have : (decide (4 ≤ y.length) && decide (y.length ≤ 4)) = decide (y.length = 4) := by
      rw [Bool.eq_iff_iff]; simp; omega
    rw [this]
  have lc : lcM (gN 13) tYesM c3_l_day (wipeD [s0, s1, s2, s3, some (.d (.str (T y))), some (.d (.str (T m))), some (.d (.str (T d))), none, none, none, none, none, none, none] [13]) [.d (.str (T m)), .d (.str (T d))] μ = .ok [.d (.bool (okT m)), .d (.bool (okT d))] μ :=
    lcM_yes rfl (c3_eq lm) (lcM_yes rfl (c3_eq ld) rfl)
  have da := dAll_b (f := fun ks => ks.all id) (ks := [okT m, okT d]) (μ := μ)
  have al : [okT m, okT d].all id = (okT m && okT d) := by simp
  rw [al] at da
  simp only [List.map_cons, List.map_nil] at da
  simp_arith [r6_l_day]
  refine kOr_s (fun q => ?_) fun q => ?_
  · have q : ¬ y.length = 4 := by simp at q; omega
    simp_arith []
    exact fin _ (by rw [e0, decide_eq_false q]; rfl)
  · have q : y.length = 4 := by simp at q; omega
    simp_arith []
    refine Wp_lcF (by simp) ?_
    refine of_eq lc ?_
    simp_arith [da]
    refine kIf_s (fun q2 => ?_) fun q2 => ?_
    · have q2 : (okT m && okT d) = false := by
        revert q2
        cases okT m <;> cases okT d <;> simp
      simp_arith []
      exact fin _ (by rw [e0, q2, Bool.and_false]; rfl)
    · have q2 : (okT m && okT d) = true := by
        revert q2
        cases okT m <;> cases okT d <;> simp
      rw [e0, decide_eq_true q, q2] at fin
      have iy := F_l_figures_eq (μ := μ) y2 (by omega)
      have im := F_l_figures_eq (μ := μ) m2 (by omega)
      have id_ := F_l_figures_eq (μ := μ) d2 (by omega)
      have by_ : dval y ≤ 9999 := by
        have := dval_lt y2
        rw [q] at this
        omega
      have small : ∀ {l : List Nat}, l.all isDig = true → l.length ≤ 2 → dval l ≤ 99 := fun {l} h1 h2 => by
        have := dval_lt h1
        have : 10 ^ l.length ≤ 10 ^ 2 := Nat.pow_le_pow_right (by decide) h2
        omega
      unfold okT at q2
      simp only [Bool.and_eq_true, decide_eq_true_eq] at q2
      have b1 := small m2 q2.1.2
      have b2 := small d2 q2.2.2
      have fin : ∀ v, oI (dayN (dval y) (dval m) (dval d)) = v → P (.rt (.d v)) μ := fin
      generalize dval y = Y at *
      generalize dval m = M at *
      generalize dval d = E at *
      simp_arith [iy, im, id_, r5_l_day]
      have r3 : ∀ lg, lg = lgN Y → Wp (r3_l_day [s0, s1, s2, s3, some (.d (.str (T y))), some (.d (.str (T m))), some (.d (.str (T d))), some (.d (.int Y)), some (.d (.int M)), some (.d (.int E)), some (.d (.int lg)), none, none, none] μ) P := fun lg e => by
        subst e
        have e2 : (.list [.int 31, .int (28 + lgN Y), .int 31, .int 30, .int 31, .int 30, .int 31, .int 31, .int 30, .int 31, .int 30, .int 31] : D) = .list (monL (lgN Y)) := rfl
        simp_arith [r3_l_day, e2]
        exact law_r2 by_ b1 b2 fin
      simp_arith [r4_l_day]
      refine kEA_s (fun q4 => ?_) fun q4 => ?_
      · have q4 : (Y : Int) % 4 = 0 := by simpa using q4
        simp_arith []
        refine kEO_s (fun q5 => ?_) fun q5 => ?_
        · have q5 : ¬ (Y : Int) % 100 = 0 := by simp at q5; omega
          simp_arith []
          exact r3 1 (by unfold lgN lp; rw [if_pos]; simp [q4, q5])
        · have q5 : (Y : Int) % 100 = 0 := by simp at q5; omega
          by_cases q6 : (Y : Int) % 400 = 0
          · simp_arith [q6]
            exact r3 1 (by unfold lgN lp; rw [if_pos]; simp [q4, q5, q6])
          · simp_arith [q6]
            exact r3 0 (by unfold lgN lp; rw [if_neg]; simp [q4, q5, q6])
      · have q4 : ¬ (Y : Int) % 4 = 0 := by simpa using q4
        simp_arith []
        exact r3 0 (by unfold lgN lp; rw [if_neg]; simp [q4])
theorem ixo {μ : Store} {o : List Nat} {c k : Nat} {r : List Nat} (h : Builtin.Str.occurrences (T o) (T [c]) 0 (T o).length 1 = k :: r) : dIndexS (.d (.str (T o))) [.d (.str (T [c]))] μ = .ok (.d (.int (k : Int))) μ := by
  show (match Builtin.Str.occurrences (T o) (T [c]) 0 (T o).length 1 with | i :: _ => Out.ok (Dv.d (.int (i : Nat))) μ | [] => .bad) = _
  rw [h]
theorem law_c2 {μ : Store} {o a b c y : List Nat} {q k : Nat} {r : List Nat} {s1 s2 s4 s5 s6 s7 s8 s9 s10 s11 s13 : Option Dv} (h : Builtin.Str.occurrences (T o) (T [q]) 0 (T o).length 1 = k :: r) (hy : [a, b, c][k]? = some y) : c2_l_day [some (.d (.str (T o))), s1, s2, some (.d (.list [.str (T a), .str (T b), .str (T c)])), s4, s5, s6, s7, s8, s9, s10, s11, some (.d (.str (T [q]))), s13] μ = .ok (.d (.str (T y))) μ := by
  have e := ixo (μ := μ) h
  have i : dIx (.d (.list [.str (T a), .str (T b), .str (T c)])) (.d (.int (k : Int))) μ = .ok (.d (.str (T y))) μ := dIx_l (atI_nn (by
    match k, hy with
    | 0, h => simp at h; subst h; rfl
    | 1, h => simp at h; subst h; rfl
    | 2, h => simp at h; subst h; rfl))
  unfold c2_l_day
  simp -implicitDefEqProofs (disch := first | assumption | rfl | exact cMod_of (by decide) | omega | (simp only [List.length_take, List.length_drop, List.length_append, List.length_cons, List.length_nil, List.length_map, List.length_range, List.length_replicate]; omega) | solve_by_elim) [e, i]
theorem law_lc {μ : Store} {o a b c : List Nat} (ho : o ∈ Ods) {s1 s2 : Option Dv} : lcM (gN 12) tYesM c2_l_day (wipeD [some (.d (.str (T o))), s1, s2, some (.d (.list [.str (T a), .str (T b), .str (T c)])), none, none, none, none, none, none, none, none, none, none] [12]) [.d (.str (T [121])), .d (.str (T [109])), .d (.str (T [100]))] μ = .ok [.d (.str (T (sel o a b c).1)), .d (.str (T (sel o a b c).2.1)), .d (.str (T (sel o a b c).2.2))] μ := by
  simp only [Ods, List.mem_cons, List.not_mem_nil, or_false] at ho
  rcases ho with rfl | rfl | rfl
  · exact lcM_yes rfl (law_c2 (k := 0) (r := []) (by decide +kernel) rfl) (lcM_yes rfl (law_c2 (k := 1) (r := []) (by decide +kernel) rfl) (lcM_yes rfl (law_c2 (k := 2) (r := []) (by decide +kernel) rfl) rfl))
  · exact lcM_yes rfl (law_c2 (k := 2) (r := []) (by decide +kernel) rfl) (lcM_yes rfl (law_c2 (k := 1) (r := []) (by decide +kernel) rfl) (lcM_yes rfl (law_c2 (k := 0) (r := []) (by decide +kernel) rfl) rfl))
  · exact lcM_yes rfl (law_c2 (k := 2) (r := []) (by decide +kernel) rfl) (lcM_yes rfl (law_c2 (k := 0) (r := []) (by decide +kernel) rfl) (lcM_yes rfl (law_c2 (k := 1) (r := []) (by decide +kernel) rfl) rfl))
theorem F_l_day_eq {μ : Store} {o l : List Nat} (ho : o ∈ Ods) (hl : l.length ≤ 70) : F_l_day [.d (.str (T o)), .d (.str (T l))] μ = .ok (.d (oI (pdL o l [45, 46, 47]))) μ := by
  apply eq_of
  unfold F_l_day B_l_day
  apply Wp_run
  simp_arith []
  refine Wp_lcF (by simp; omega) ?_
  have ec := lcM_filter (g := gN 12) (tt := t1_l_day) (te := c1_l_day) (ρ := wipeD [some (.d (.str (T o))), some (.d (.str (T l))), none, none, none, none, none, none, none, none, none, none, none, none] [12]) (μ := μ) (p := fun b => match b with | .d (.str x) => !isDig (x.cps.toList.headD 0) | _ => false) (f := id) (bs := l.map fun c => .d (.str (T [c]))) (fun b hb => by
    obtain ⟨c, hc, rfl⟩ := List.mem_map.mp hb
    refine ⟨_, rfl, ?_, ?_⟩
    · simp -implicitDefEqProofs (disch := first | assumption | rfl | exact cMod_of (by decide) | omega | (simp only [List.length_take, List.length_drop, List.length_append, List.length_cons, List.length_nil, List.length_map, List.length_range, List.length_replicate]; omega) | solve_by_elim) [t1_l_day, wipeD, dig_mem, -List.mem_cons]
      rfl
    · simp -implicitDefEqProofs (disch := first | assumption | rfl | exact cMod_of (by decide) | omega | (simp only [List.length_take, List.length_drop, List.length_append, List.length_cons, List.length_nil, List.length_map, List.length_range, List.length_replicate]; omega) | solve_by_elim) [c1_l_day, wipeD])
  refine of_eq ec ?_
  have e2 : (((l.map fun c => Dv.d (.str (T [c]))).filter fun b => match b with | .d (.str x) => !isDig (x.cps.toList.headD 0) | _ => false).map id) = ((l.filter fun c => !isDig c).map fun c => PyData.str (T [c])).map .d := by
    rw [List.map_id, List.filter_map, List.map_map]
    rfl
  have ll : (l.filter fun c => !isDig c).length ≤ 70 := Nat.le_trans (List.length_filter_le _ _) hl
  rw [e2, dList_map (by simp; omega)]
  have dg : ∀ t ∈ [45, 46, 47], isDig t = false := by decide
  have bad : (∀ s ∈ [45, 46, 47], (l.filter fun c => !isDig c) ≠ [s, s]) → oI (pdL o l [45, 46, 47]) = .none := fun h => by
    rw [pd_bad (fun s hs a b c e => ?_)]
    · rfl
    · obtain ⟨a', b', c', e', el⟩ := split3 (s := s) (l := l) (by rw [e]; rfl)
      rw [e] at e'
      injection e' with h1 e'
      injection e' with h2 e'
      injection e' with h3 _
      subst h1 h2 h3
      exact chk_sg (dg s hs) e el (h s hs)
  by_cases h2 : (l.filter fun c => !isDig c).length = 2
  · obtain ⟨s, t, est⟩ : ∃ s t, (l.filter fun c => !isDig c) = [s, t] := by
      match q : (l.filter fun c => !isDig c), h2 with
      | [s, t], _ => exact ⟨s, t, rfl⟩
    rw [est] at bad ⊢
    simp_arith [r9_l_day, dIxl0, dIxl1]
    by_cases e : s = t
    · subst e
      by_cases hs : s ∈ [45, 46, 47]
      · have hds := dg s hs
        obtain ⟨a, r, el, ha, hr⟩ := filter_cut hds est
        obtain ⟨b, c, el2, hb, hc⟩ := filter_cut hds hr
        subst el2
        have hc := filter_nil hc
        have ep := pd_good (o := o) hds el ha hb hc hs dg
        rw [ep] 
        have lls : l.length = a.length + b.length + c.length + 2 := by rw [el]; simp; omega
        have sp := dSplit_one (μ := μ) (l := l) (s := s) (by simp at hs; omega) (by omega)
        have e3 : splitL s [] l = [a, b, c] := by
          rw [el, splitL_app (not_in hds ha), splitL_app (not_in hds hb), splitL_no (not_in hds hc)]
          rfl
        rw [e3] at sp
        simp only [List.map_cons, List.map_nil] at sp
        have lsel : (sel o a b c).1.length ≤ 80 ∧ (sel o a b c).2.1.length ≤ 80 ∧ (sel o a b c).2.2.length ≤ 80 := by
          unfold sel
          split
          · exact ⟨by show a.length ≤ _; omega, by show b.length ≤ _; omega, by show c.length ≤ _; omega⟩
          · split
            · exact ⟨by show c.length ≤ _; omega, by show b.length ≤ _; omega, by show a.length ≤ _; omega⟩
            · exact ⟨by show c.length ≤ _; omega, by show a.length ≤ _; omega, by show b.length ≤ _; omega⟩
        have sa := sel_all (o := o) (a := a) (b := b) (c := c) (p := fun l => l.all isDig)
        have sa : ((sel o a b c).1.all isDig && ((sel o a b c).2.1.all isDig && (sel o a b c).2.2.all isDig)) = (a.all isDig && (b.all isDig && c.all isDig)) := sa
        rw [ha, hb, hc] at sa
        simp only [Bool.and_true, Bool.and_eq_true] at sa
        have lc := law_lc (μ := μ) (a := a) (b := b) (c := c) ho (s1 := some (.d (.str (T l)))) (s2 := some (.d (.list [.str (T [s]), .str (T [s])])))
        unfold chk
        generalize (sel o a b c).1 = Y at *
        generalize (sel o a b c).2.1 = M at *
        generalize (sel o a b c).2.2 = E at *
        simp_arith [-List.mem_cons, dIxl0, dIxl1, hs, r8_l_day, sp, r7_l_day]
        refine Wp_lcF (by simp) ?_
        refine of_eq lc ?_
        simp_arith []
        exact law_r6 sa.1 sa.2.1 sa.2.2 lsel.1 lsel.2.1 lsel.2.2 fun v e => by rw [e]; exact ⟨rfl, rfl⟩
      · rw [bad (fun u hu z => hs (by injection z with z1; rw [z1]; exact hu))]
        simp_arith [-List.mem_cons, dIxl0, dIxl1, hs]
    · rw [bad (fun u hu z => e (by injection z with z1 z2; injection z2 with z2; rw [z1, z2]))]
      simp_arith [-List.mem_cons, dIxl0, dIxl1, e]
  · have h2' : ¬ (((l.filter fun c => !isDig c).length : Nat) : Int) = 2 := by omega
    simp_arith [r9_l_day, h2']
    rw [bad (fun s hs z => h2 (by rw [z]; rfl))]
end LW

namespace LW
open PySem PySem.Spec PyProof.Rows L2 DL
/-- a cell's text -/
def Sc (d : D) : Prop := ∃ l : List Nat, d = .str (T l) ∧ l.length ≤ 10 ∧ ∀ c ∈ l, c < 128
theorem Sc.sx {d : D} (h : Sc d) : Sx d := by
  obtain ⟨l, rfl, h1, h2⟩ := h
  exact ⟨l, rfl, by omega, h2⟩
theorem Sc.of {l : List Nat} (h : (decide (l.length ≤ 10) && l.all fun c => decide (c < 128)) = true) : Sc (.str (T l)) := by
  simp only [Bool.and_eq_true, decide_eq_true_eq, List.all_eq_true] at h
  exact ⟨l, rfl, h.1, h.2⟩
/-- a worth of a kind -/
def Wk (t : Bool) (d : D) : Prop := if t = true then Sc d else ∃ i : Int, d = .int i ∧ i.natAbs < 10 ^ 9
theorem Wk.sm {t : Bool} {d : D} (h : Wk t d) : Sm 0 202 d := by
  unfold Wk at h
  split at h
  · exact h.sx.sm
  · obtain ⟨i, rfl, hi⟩ := h
    exact (Sm.int (by omega)).mono (Nat.le_refl _) (by decide)
/-- a form of numbers -/
inductive FormOk : D → Prop
  | whole : FormOk (.tuple [.str (T [119, 104, 111, 108, 101])])
  | amount {k : Nat} : 1 ≤ k → k ≤ 4 → FormOk (.tuple [.str (T [97, 109, 111, 117, 110, 116]), .int k])
  | day {o : List Nat} : o ∈ [[121, 109, 100], [100, 109, 121], [109, 100, 121]] → FormOk (.tuple [.str (T [100, 97, 121]), .str (T o)])

def sg (l : List Nat) : Int := if ngv l = true then -1 else 1
theorem bod_len (l : List Nat) : (bod l).length ≤ l.length := by
  cases l with
  | nil => simp [bod]
  | cons c r =>
    rw [bod]
    split <;> simp
theorem sg_mul {l : List Nat} {n : Nat} : sg l * (n : Int) = sgn (ngv l) n := by
  unfold sg sgn
  split <;> omega
theorem num_head {μ : Store} {l : List Nat} {f : D} {P : Dv → Store → Prop} (hl : l.length ≤ 70) (fin : Wp (r7_l_number [some (.d f), some (.d (.str (T l))), some (.d (.int (sg l))), some (.d (.str (T (bod l)))), none, none] μ) (finP P)) : Wp (F_l_number [.d f, .d (.str (T l))] μ) P := by
  have q1 := cut_to l (k := 1) (by decide)
  have q2 := cut_from l (k := 1) (by decide)
  have i1 : dInt [.d (.bool true)] μ = .ok (.d (.int 1)) μ := rfl
  have i0 : dInt [.d (.bool false)] μ = .ok (.d (.int 0)) μ := rfl
  have c1 : cMul 2 1 = true := cMul_ok (a := 2) (b := 2) (by decide) (by decide) (by decide) (by decide) (by decide)
  have c0 : cMul 2 0 = true := cMul_ok (a := 2) (b := 2) (by decide) (by decide) (by decide) (by decide) (by decide)
  unfold F_l_number B_l_number
  apply Wp_run
  cases l with
  | nil =>
    have fin : Wp (r7_l_number [some (.d f), some (.d (.str (T []))), some (.d (.int 1)), some (.d (.str (T []))), none, none] μ) (finP P) := fin
    simp_arith [r8_l_number, q1, q2]
    exact fin
  | cons c r =>
    have e4 := dIx_s (μ := μ) (l := c :: r) (k := 0) (c := c) (by omega) (atI_nn (k := 0) rfl)
    by_cases h1 : c = 43
    · subst h1
      have fin : Wp (r7_l_number [some (.d f), some (.d (.str (T (43 :: r)))), some (.d (.int 1)), some (.d (.str (T r))), none, none] μ) (finP P) := fin
      simp_arith [r8_l_number, q1, q2, e4, i0]
      exact fin
    · by_cases h2 : c = 45
      · subst h2
        have fin : Wp (r7_l_number [some (.d f), some (.d (.str (T (45 :: r)))), some (.d (.int (-1))), some (.d (.str (T r))), none, none] μ) (finP P) := fin
        simp_arith [r8_l_number, q1, q2, e4, i1]
        exact fin
      · have e1 : sg (c :: r) = 1 := by
          unfold sg ngv
          rw [if_neg (by simpa using h2)]
        have e2 : bod (c :: r) = c :: r := by
          show (if c = 43 ∨ c = 45 then r else c :: r) = _
          rw [if_neg (by intro z; rcases z with z | z; exact h1 z; exact h2 z)]
        rw [e1, e2] at fin
        simp_arith [r8_l_number, q1, q2, h1, h2, Ne.symm h1, Ne.symm h2]
        exact fin
theorem sg_c {l : List Nat} {n : Nat} (h : n < 2 ^ 300) : cMul (sg l) (n : Int) = true := cMul_ok (a := 2) (b := 300) (by unfold sg; split <;> decide) (by omega) (by decide) (by decide) (by decide)
theorem okB_l {l : List Nat} {b : Nat} (h : okB l b = true) : l.all isDig = true ∧ l.length ≤ b := by
  have := okB_iff.mp h
  exact ⟨this.2.2, this.2.1⟩
theorem dv_lt {l : List Nat} (h : l.all isDig = true) (hl : l.length ≤ 80) : dval l < 2 ^ 300 := by
  have := dval_lt h
  have p : 10 ^ l.length ≤ 10 ^ 80 := Nat.pow_le_pow_right (by decide) hl
  have q : (10 : Nat) ^ 80 ≤ 2 ^ 300 := by decide +kernel
  omega
theorem num_whole {μ : Store} {l : List Nat} (hl : l.length ≤ 70) : F_l_number [.d (.tuple [.str (T [119, 104, 111, 108, 101])]), .d (.str (T l))] μ = .ok (.d (oI (rw_ l 9))) μ := by
  have z := F_l_are_figures_eq (μ := μ) (l := bod l) (b := 9) (by have := bod_len l; omega)
  have z : F_l_are_figures [.d (.str (T (bod l))), .d (.int 9)] μ = _ := z
  apply eq_of
  refine num_head hl ?_
  unfold rw_
  cases h : okB (bod l) 9 with
  | false =>
    rw [h] at z
    simp_arith [r7_l_number, dIx0, z]
    rfl
  | true =>
    rw [h] at z
    obtain ⟨h1, h2⟩ := okB_l h
    have f := F_l_figures_eq (μ := μ) h1 (by omega)
    have c := sg_c (l := l) (dv_lt h1 (by omega))
    simp_arith [r7_l_number, dIx0, z, f, c, sg_mul]
    rfl
theorem tw_all {p : Nat → Bool} : ∀ {l : List Nat}, (∀ c ∈ l, p c = true) → l.takeWhile p = l
  | [], _ => rfl
  | c :: l, h => by rw [List.takeWhile_cons, h c List.mem_cons_self, if_pos rfl, tw_all fun d hd => h d (List.mem_cons_of_mem _ hd)]
theorem dw_all {p : Nat → Bool} : ∀ {l : List Nat}, (∀ c ∈ l, p c = true) → l.dropWhile p = []
  | [], _ => rfl
  | c :: l, h => by rw [List.dropWhile_cons, h c List.mem_cons_self, if_pos rfl, dw_all fun d hd => h d (List.mem_cons_of_mem _ hd)]
theorem num_amount {μ : Store} {l : List Nat} {k : Nat} (hl : l.length ≤ 70) (h1 : 1 ≤ k) (h4 : k ≤ 4) : F_l_number [.d (.tuple [.str (T [97, 109, 111, 117, 110, 116]), .int k]), .d (.str (T l))] μ = .ok (.d (oI (rd l k))) μ := by
  rw [← ln_rd h4]
  have lb := bod_len l
  have sp := dSplit_one (μ := μ) (l := bod l) (s := 46) (by omega) (by omega)
  apply eq_of
  refine num_head hl ?_
  have hlim : lim k = 8 := by unfold lim; rw [if_neg (by omega)]
  unfold ln
  rw [hlim]
  generalize bod l = b at *
  have tl : (b.takeWhile (· != 46)).length + ((b.dropWhile (· != 46)).drop 1).length ≤ b.length := takeWhile_len
  have tz := fun {r : List Nat} (h : r.length ≤ k) => take_zs h h4
  by_cases h46 : 46 ∈ b
  · rw [spl_at h46, List.nil_append] at sp
    generalize b.takeWhile (· != 46) = t at *
    generalize (b.dropWhile (· != 46)).drop 1 = r at *
    have z := F_l_are_figures_eq (μ := μ) (l := t) (b := 8) (by omega)
    have z : F_l_are_figures [.d (.str (T t)), .d (.int 8)] μ = _ := z
    by_cases h462 : 46 ∈ r
    · -- three parts at least
      have e : oI (if okB t 8 = false then none else if 46 ∈ b ∧ okB r k = false then none else some (sgn (ngv l) (dval (t ++ (r ++ zs 4).take k)))) = .none := by
        split
        · rfl
        · rw [if_pos ⟨h46, okB_no h462⟩]; rfl
      rw [e]
      rw [spl_at h462] at sp
      have lp := spl_pos (s := 46) (l := (r.dropWhile (· != 46)).drop 1) (acc := [])
      generalize splitL 46 [] ((r.dropWhile (· != 46)).drop 1) = ps at *
      simp only [List.map_cons] at sp
      have hp : 1 ≤ (ps.map fun p => PyData.str (T p)).length := by rw [List.length_map]; exact lp
      generalize (ps.map fun p => PyData.str (T p)) = PS at *
      simp_arith [r7_l_number, dIx0, r6_l_number, sp, r4_l_number, List.length_cons]
      refine kOr_s (fun q => ?_) fun q => ?_
      · simp_arith []
      · exfalso
        simp at q
        omega
    · rw [spl_no h462] at sp
      simp only [List.map_cons, List.map_nil, List.nil_append] at sp
      have z2 := F_l_are_figures_eq (μ := μ) (l := r) (b := k) (by omega)
      cases ho : okB t 8 with
      | false =>
        rw [ho] at z
        simp_arith [r7_l_number, dIx0, r6_l_number, sp, r4_l_number, dIxl0, z]
        rfl
      | true =>
        rw [ho] at z
        cases ho2 : okB r k with
        | false =>
          rw [ho2] at z2
          simp_arith [r7_l_number, dIx0, dIx1, r6_l_number, sp, r4_l_number, dIxl0, dIxl1, z, r3_l_number, z2]
          rw [if_pos h46]
          rfl
        | true =>
          rw [ho2] at z2
          obtain ⟨a1, a2⟩ := okB_l ho
          obtain ⟨b1, b2⟩ := okB_l ho2
          have m := mul48 (μ := μ) (k := k - r.length) (by omega)
          have ek : (k : Int) - (r.length : Int) = ((k - r.length : Nat) : Int) := by omega
          have alld : (t ++ (r ++ zs (k - r.length))).all isDig = true := by rw [dig_app, dig_app, a1, b1, dig_zs]; rfl
          have al2 : (t ++ (r ++ zs (k - r.length))).length ≤ 80 := by simp [zs]; omega
          have f := F_l_figures_eq (μ := μ) alld (by omega)
          have c := sg_c (l := l) (dv_lt alld al2)
          have ea : t ++ r ++ zs (k - r.length) = t ++ (r ++ zs (k - r.length)) := List.append_assoc _ _ _
          have da := dAdd_ss (l := t ++ r) (m := zs (k - r.length)) (μ := μ) (by simp [zs]; omega)
          rw [tz b2]
          simp_arith [r7_l_number, dIx0, dIx1, r6_l_number, sp, r4_l_number, dIxl0, dIxl1, z, r3_l_number, z2, r2_l_number, r1_l_number, ek, m, da, f, c, sg_mul, ea]
          rfl
  · rw [spl_no h46] at sp
    simp only [List.map_cons, List.map_nil, List.nil_append] at sp
    have et : b.takeWhile (· != 46) = b := tw_all fun c hc => by
      have : c ≠ 46 := fun z => h46 (z ▸ hc)
      simpa using this
    have ed : (b.dropWhile (· != 46)).drop 1 = [] := by
      rw [dw_all fun c hc => by
        have : c ≠ 46 := fun z => h46 (z ▸ hc)
        simpa using this]
      rfl
    rw [et, ed]
    have z := F_l_are_figures_eq (μ := μ) (l := b) (b := 8) (by omega)
    have z : F_l_are_figures [.d (.str (T b)), .d (.int 8)] μ = _ := z
    cases ho : okB b 8 with
    | false =>
      rw [ho] at z
      simp_arith [r7_l_number, dIx0, r6_l_number, sp, r4_l_number, dIxl0, z]
      rfl
    | true =>
      rw [ho] at z
      obtain ⟨a1, a2⟩ := okB_l ho
      have m := mul48 (μ := μ) (k := k) (by omega)
      have alld : (b ++ zs k).all isDig = true := by rw [dig_app, a1, dig_zs]; rfl
      have al2 : (b ++ zs k).length ≤ 80 := by simp [zs]; omega
      have f := F_l_figures_eq (μ := μ) alld (by omega)
      have c := sg_c (l := l) (dv_lt alld al2)
      have ez : b ++ ([] ++ zs 4).take k = b ++ zs k := by
        rw [tz (r := []) (by simp)]; rfl
      rw [ez]
      have eb : b ++ [] ++ zs k = b ++ zs k := by rw [List.append_nil]
      have da := dAdd_ss (l := b) (m := zs k) (μ := μ) (by simp [zs]; omega)
      have l0 : ((([] : List Nat).length : Nat) : Int) = 0 := rfl
      simp_arith [r7_l_number, dIx0, dIx1, r6_l_number, sp, r4_l_number, dIxl0, dIxl1, z, r3_l_number, r2_l_number, r1_l_number, m, da, f, c, sg_mul, eb]
      rw [if_neg (fun q => h46 q.1)]
      rfl
theorem rw_lt {l : List Nat} {b : Nat} {n : Int} (h : rw_ l b = some n) : n.natAbs < 10 ^ b := by
  unfold rw_ at h
  split at h
  · rename_i q
    have q := okB_iff.mp q
    injection h with h
    have := dval_lt q.2.2
    have p : 10 ^ (bod l).length ≤ 10 ^ b := Nat.pow_le_pow_right (by decide) q.2.1
    rw [← h]
    unfold sgn
    split <;> omega
  · cases h
theorem rd_lt {l : List Nat} {k : Nat} {n : Int} (hk : k ≤ 4) (h : rd l k = some n) : n.natAbs < 10 ^ 13 := by
  unfold rd at h
  split at h
  · exact Nat.lt_of_lt_of_le (rw_lt h) (by decide)
  · unfold ra at h
    split at h
    · cases h
    · unfold ra2 at h
      split at h
      · cases h
      · have := rw_lt h
        have p : 10 ^ (8 + k) ≤ 10 ^ 12 := Nat.pow_le_pow_right (by decide) (by omega)
        omega
theorem mdj_le {y j : Nat} : mdj y j ≤ 32 := by
  have : ∀ j < 12, tabM.getD j 0 ≤ 31 := by decide
  unfold mdj
  have h : tabM.getD j 0 ≤ 31 := by
    by_cases hj : j < 12
    · exact this j hj
    · have : tabM.getD j 0 = 0 := by simp [tabM, List.getD]; rw [List.getElem?_eq_none (by simp; omega)]; rfl
      omega
  split <;> omega
theorem sum_le {y : Nat} : ∀ {ks : List Nat}, 0 ≤ ((ks.map fun j => (mdj y j : Int)).sum) ∧ ((ks.map fun j => (mdj y j : Int)).sum) ≤ 32 * ks.length
  | [] => by simp
  | k :: ks => by
    have := sum_le (y := y) (ks := ks)
    have := mdj_le (y := y) (j := k)
    simp only [List.map_cons, List.sum_cons, List.length_cons]
    omega
theorem day_lt {y m d : Nat} {n : Int} (hy : y ≤ 9999) (h : dayN y m d = some n) : n.natAbs < 10 ^ 13 := by
  unfold dayN at h
  split at h
  · cases h
  · rename_i q
    simp only [not_or, Decidable.not_not] at q
    injection h with h
    have s := sum_le (y := y) (ks := List.range (m - 1))
    have d2 := mdj_le (y := y) (j := m - 1)
    rw [List.length_range] at s
    omega
theorem chk_lt {o a b c : List Nat} {n : Int} (h : chk o a b c = some n) : n.natAbs < 10 ^ 13 := by
  unfold chk chk3 at h
  split at h
  · rename_i q
    simp only [Bool.and_eq_true] at q
    obtain ⟨y1, y2, y3⟩ := okF_d q.1
    have := dval_lt y3
    have p : 10 ^ (sel o a b c).1.length ≤ 10 ^ 4 := Nat.pow_le_pow_right (by decide) y2
    exact day_lt (by omega) h
  · cases h
theorem pdL_lt {o l : List Nat} {n : Int} : ∀ {ss : List Nat}, pdL o l ss = some n → n.natAbs < 10 ^ 13
  | [], h => by cases h
  | s :: ss, h => by
    by_cases h3 : (splitL s [] l).length = 3
    · obtain ⟨a, b, c, e, _⟩ := split3 h3
      rw [pdL_3 e] at h
      exact chk_lt h
    · rw [pdL_n h3] at h
      exact pdL_lt h
theorem read_same {f : D} (hf : FormOk f) {l : List Nat} (hl : l.length ≤ 70) : ∃ v : Option Int, (∀ n, v = some n → n.natAbs < 10 ^ 13) ∧ (∀ μ, F_l_number [.d f, .d (.str (T l))] μ = .ok (.d (oI v)) μ) ∧ (∀ μ, F_read_as [.d f, .d (.str (T l))] μ = .ok (.d (oI v)) μ) := by
  cases hf with
  | whole =>
    have ef : fm 0 = [.str (T [119, 104, 111, 108, 101])] := rfl
    refine ⟨rd l 0, fun n h => rd_lt (by decide) h, fun μ => ?_, fun μ => ?_⟩
    · rw [num_whole hl]; rfl
    · rw [← ef, F_read_as_eq (by omega) (by decide)]
  | @amount k h1 h2 =>
    have ef : fm k = [.str (T [97, 109, 111, 117, 110, 116]), .int k] := if_neg (by omega)
    refine ⟨rd l k, fun n h => rd_lt h2 h, fun μ => num_amount hl h1 h2, fun μ => ?_⟩
    rw [← ef, F_read_as_eq (by omega) (by omega)]
  | @day o ho =>
    refine ⟨pdL o l [45, 46, 47], fun n h => pdL_lt h, fun μ => ?_, fun μ => ?_⟩
    · have e := F_l_day_eq (μ := μ) (o := o) (l := l) ho (by omega)
      apply eq_of
      refine num_head hl ?_
      simp_arith [r7_l_number, dIx0, dIx1, r6_l_number, r5_l_number, e]
    · have e := F_read_day_eq (μ := μ) (o := o) (l := l) ho (by omega)
      have i0 : dIx (.d (.list [.str (T o)])) (.d (.int 0)) μ = .ok (.d (.str (T o))) μ := dIxl0
      unfold F_read_as B_read_as
      rw [runB_eq]
      simp -implicitDefEqProofs (disch := first | assumption | rfl | exact cMod_of (by decide) | omega | (simp only [List.length_take, List.length_drop, List.length_append, List.length_cons, List.length_nil, List.length_map, List.length_range, List.length_replicate]; omega) | solve_by_elim) [r2_read_as, r1_read_as, e, i0]
def nD (w : List Nat) : D := .str (T w)
abbrev Row := List (Key × D)
def dv (R : Row) : List (Key × Dv) := R.map fun p => (p.1, .d p.2)
def valR (R : Row) (k : Key) : Option D := (R.find? fun p => decide (p.1 = k)).map (·.2)
def putR (R : Row) (k : Key) (v : D) : Row := if (R.any fun p => decide (p.1 = k)) = true then R.map (fun p => if p.1 = k then (p.1, v) else p) else R ++ [(k, v)]
def mergeR (R M : Row) : Row := M.foldl (fun acc p => putR acc p.1 p.2) R
theorem valR_cons {p : Key × D} {R : Row} {k : Key} : valR (p :: R) k = if p.1 = k then some p.2 else valR R k := by
  unfold valR
  rw [List.find?_cons]
  by_cases h : p.1 = k
  · rw [if_pos h, decide_eq_true h]; rfl
  · rw [if_neg h, decide_eq_false h]
theorem valD_dv {k : Key} : ∀ {R : Row}, valD (dv R) k = (valR R k).map .d
  | [] => rfl
  | p :: R => by
    have ih := valD_dv (k := k) (R := R)
    rw [valR_cons]
    show valD ((p.1, .d p.2) :: dv R) k = _
    unfold valD at ih ⊢
    rw [List.find?_cons]
    by_cases h : p.1 = k
    · simp [h]
    · simp only [h, decide_false]
      exact ih
theorem any_dv {k : Key} {R : Row} : ((dv R).any fun p => decide (p.1 = k)) = R.any fun p => decide (p.1 = k) := by
  unfold dv
  rw [List.any_map]
  rfl
theorem putD_dv {R : Row} {k : Key} {v : D} : putD (dv R) k (.d v) = dv (putR R k v) := by
  unfold putD putR
  rw [any_dv]
  split
  · unfold dv
    rw [List.map_map, List.map_map]
    refine List.map_congr_left fun p hp => ?_
    show (if p.1 = k then (p.1, Dv.d v) else (p.1, .d p.2)) = ((if p.1 = k then (p.1, v) else p).1, Dv.d (if p.1 = k then (p.1, v) else p).2)
    split <;> rfl
  · unfold dv
    rw [List.map_append]
    rfl
theorem putR_len {R : Row} {k : Key} {v : D} : (putR R k v).length ≤ R.length + 1 := by
  unfold putR
  split <;> simp
theorem valR_none {k : Key} : ∀ {R : Row}, (R.any fun p => decide (p.1 = k)) = false → valR R k = none
  | [], _ => rfl
  | p :: R, h => by
    rw [List.any_cons, Bool.or_eq_false_iff] at h
    rw [valR_cons, if_neg (by simpa using h.1)]
    exact valR_none h.2
theorem valR_app {k : Key} {v : D} {k' : Key} : ∀ {R : Row}, valR (R ++ [(k, v)]) k' = match valR R k' with | some x => some x | none => if k = k' then some v else none
  | [] => by rw [List.nil_append, valR_cons]; rfl
  | p :: R => by
    rw [List.cons_append, valR_cons, valR_cons]
    split
    · rfl
    · exact valR_app
theorem valR_map {k : Key} {v : D} {k' : Key} : ∀ {R : Row}, (R.any fun p => decide (p.1 = k)) = true → valR (R.map fun p => if p.1 = k then (p.1, v) else p) k' = if k = k' then some v else valR R k'
  | [], h => by cases h
  | p :: R, h => by
    rw [List.map_cons, valR_cons, valR_cons]
    by_cases hp : p.1 = k
    · rw [if_pos hp]
      show (if p.1 = k' then some v else _) = _
      by_cases hk : k = k'
      · rw [if_pos (hp.trans hk), if_pos hk]
      · rw [if_neg (fun z => hk (hp.symm.trans z)), if_neg hk, if_neg (fun z => hk (hp.symm.trans z))]
        clear h
        induction R with
        | nil => rfl
        | cons q R ih =>
          rw [List.map_cons, valR_cons, valR_cons, ih]
          by_cases hq : q.1 = k
          · rw [if_pos hq, if_neg (fun z => hk (hq.symm.trans z)), if_neg (fun z => hk (hq.symm.trans z))]
          · rw [if_neg hq]
    · rw [if_neg hp]
      rw [List.any_cons, decide_eq_false hp, Bool.false_or] at h
      by_cases hk : p.1 = k'
      · rw [if_pos hk, if_neg (fun z => hp (hk.trans z.symm)), if_pos hk]
      · rw [if_neg hk, if_neg hk]
        exact valR_map h
theorem valR_put {R : Row} {k k' : Key} {v : D} : valR (putR R k v) k' = if k = k' then some v else valR R k' := by
  unfold putR
  split
  · rename_i h
    exact valR_map h
  · rename_i h
    have h : (R.any fun p => decide (p.1 = k)) = false := Bool.eq_false_iff.mpr h
    rw [valR_app]
    by_cases hk : k = k'
    · subst hk
      rw [valR_none h, if_pos rfl]
    · simp only [if_neg hk]
      split <;> simp_all
def kN (w : List Nat) : Key := .inr (T w)
theorem kN_inj {a b : List Nat} (h : kN a = kN b) : a = b := by
  unfold kN at h
  injection h with h
  exact T_inj.mp h
theorem keyOf_nD (w : List Nat) : DL.keyOf (nD w) = some (kN w) := rfl
theorem dDG_row {μ : Store} {n : Nat} {R : Row} {w : List Nat} {v : D} (e : μ[n]? = some (.dic (dv R))) (h : valR R (kN w) = some v) : dDG (.c n) (.d (nD w)) μ = .ok (.d v) μ := by
  unfold dDG
  have e1 : dpairs (.c n) μ = some (dv R) := by
    unfold dpairs
    simp only [e]
  simp only [e1, keyOf_nD, valD_dv, h]
  rfl
/-- a worth of a kind, or none -/
def Vk (B : Nat) (t : Bool) (v : D) : Prop := v = .none ∨ if t = true then ∃ l : List Nat, v = .str (T l) ∧ l.length + 1 ≤ B ∧ ∀ c ∈ l, c < 128 else ∃ i : Int, v = .int i ∧ i.natAbs < 10 ^ 13
theorem Vk.mono {B C : Nat} {t : Bool} {v : D} (h : Vk B t v) (hBC : B ≤ C) : Vk C t v := by
  rcases h with h | h
  · exact .inl h
  · refine .inr ?_
    cases t with
    | true =>
      obtain ⟨l, e, h1, h2⟩ := h
      exact ⟨l, e, by omega, h2⟩
    | false => exact h
theorem Wk.vk {B : Nat} {t : Bool} {v : D} (h : Wk t v) (hB : 11 ≤ B) : Vk B t v := by
  refine .inr ?_
  cases t with
  | true =>
    obtain ⟨l, e, h1, h2⟩ := h
    exact ⟨l, e, by omega, h2⟩
  | false =>
    obtain ⟨i, e, h1⟩ := h
    exact ⟨i, e, by omega⟩
end LW

namespace LW
open PySem PySem.Spec PyProof.Rows L2 DL
theorem dp_dic {M : Row} {μ : Store} : dpairs (.d (dicOf M)) μ = some (dv M) := kvD_map M
theorem dDG_d {μ : Store} {R : Row} {w : List Nat} {v : D} (h : valR R (kN w) = some v) : dDG (.d (dicOf R)) (.d (nD w)) μ = .ok (.d v) μ := by
  unfold dDG
  have e1 : dpairs (.d (dicOf R)) μ = some (dv R) := dp_dic
  simp only [e1, keyOf_nD, valD_dv, h]
  rfl
theorem isi_s {x : Str} {μ : Store} : dIsi "str" (.d (.str x)) μ = .ok (.d (.bool true)) μ := rfl
theorem isi_t {x : List D} {μ : Store} : dIsi "str" (.d (.tuple x)) μ = .ok (.d (.bool false)) μ := rfl
/-- a step does the same by the law and by the program -/
def SameD (s : D) (R M : Row) (mk : Bool) : Prop := (∀ (μ : Store), F_l_does [.d s, .d (dicOf R)] μ = .ok (.d (.tuple [dicOf M, .bool mk])) μ) ∧ (∀ (μ : Store), F_done [.d s, .d (dicOf R)] μ = .ok (.d (.tuple [dicOf M, .bool mk])) μ)
section
variable {β : Type} {ρ : DEnv} {μ : Store} {y : Dv} {Q : Dv → Store → Prop}
theorem w_done {w : List Nat} {i : Nat} {F : OpN} {x : D} {r : List D} (hw : lkF tab_DONE (T w) = some i) (hF : Fs_DONE i = some F) (h : Wp (F [.d (.tuple (x :: .str (T w) :: r)), y] μ) Q) : Wp (F_done [.d (.tuple (x :: .str (T w) :: r)), y] μ) Q := by
  have ht : dFTab tab_DONE (.d (.str (T w))) μ = .ok (.f i) μ := by
    show (match lkF tab_DONE (T w) with
      | some n => Out.ok (Dv.f n) μ
      | none => .bad) = _
    rw [hw]
  unfold F_done B_done
  apply Wp_run
  simp_arith [dIx1, ht]
  unfold r1_done
  rw [Wp_sRet, Wp_callV (n := i) rfl hF]
  simp_arith []
  exact h
def kD1 (x : Dv) (a b : ME) (ρ : DEnv) (Q : Dv → Store → Prop) : Dv → Store → Prop := fun y μ => Wp (dDicF [(x, y)] μ) Q
@[simp ↓] theorem kD1_r {x y : Dv} {a b : ME} : kD1 x a b ρ Q y μ = Wp (dDicF [(x, y)] μ) Q := id rfl
def kD0 (a b : ME) (ρ : DEnv) (Q : Dv → Store → Prop) : Dv → Store → Prop := fun x μ => Wp (b ρ μ) (kD1 x a b ρ Q)
@[simp ↓] theorem kD0_r {x : Dv} {a b : ME} : kD0 a b ρ Q x μ = Wp (b ρ μ) (kD1 x a b ρ Q) := id rfl
@[simp ↓] theorem Wp_eDic1 {a b : ME} : Wp (eDic [(a, b)] ρ μ) Q = Wp (a ρ μ) (kD0 a b ρ Q) := by
  unfold eDic prsM
  rw [Wp_bind, Wp_bind]
  congr 1
  funext x μ1
  rw [Wp_bind, kD0_r]
  congr 1
  funext y μ2
  rw [Wp_bind, kD1_r]
  unfold prsM
  rw [Wp_ok]
  show Wp (.ok [(x, y)] μ2) _ = _
  rw [Wp_ok]
@[simp ↓] theorem Wp_eDic0 : Wp (eDic0 ρ μ) Q = Q (.d (.dict [])) μ := Wp_ok
theorem dDicF_1 {w : List Nat} {v : D} : dDicF [(.d (nD w), .d v)] μ = .ok (.d (dicOf [(kN w, v)])) μ := rfl
theorem isN_none : isNone .none = true := rfl
theorem isN_not {B : Nat} {t : Bool} {v : D} (h : Vk B t v) : v = .none ∨ isNone v = false := by
  rcases h with h | h
  · exact .inl h
  · refine .inr ?_
    cases t with
    | true => obtain ⟨l, rfl, _⟩ := h; rfl
    | false => obtain ⟨i, rfl, _⟩ := h; rfl
end
section
variable {R : Row} {x : D} {c : List Nat} {t : Bool} {v : D}
theorem st_given (hv : valR R (kN c) = some v) : SameD (.tuple [x, .str (T [103, 105, 118, 101, 110]), nD c]) R [] (isNone v) := by
  refine ⟨fun μ => ?_, fun μ => ?_⟩
  · have g := dDG_d (μ := μ) hv
    have is_ : dIsi "str" (.d (nD c)) μ = .ok (.d (.bool true)) μ := isi_s
    apply eq_of
    unfold F_l_does B_l_does
    apply Wp_run
    simp_arith [dIx1, dIx2, g, r15_l_does, is_, r14_l_does, r13_l_does, r12_l_does, r11_l_does, r10_l_does, r9_l_does]
    first | rfl | exact ⟨rfl, rfl⟩
  · have g := dDG_d (μ := μ) hv
    apply eq_of
    refine w_done (i := 5) rfl rfl ?_
    unfold F_given_step B_given_step
    apply Wp_run
    simp_arith [dIx2, g]
    first | rfl | exact ⟨rfl, rfl⟩
def nn (t : Bool) (v : D) : Prop := if t = true then ∃ z, v = .str z else ∃ i, v = .int i
theorem Vk.nn {B : Nat} (h : Vk B t v) (h2 : isNone v = false) : nn t v := by
  rcases h with rfl | h
  · cases h2
  · cases t with
    | true => obtain ⟨l, e, _⟩ := h; exact ⟨_, e⟩
    | false => obtain ⟨i, e, _⟩ := h; exact ⟨_, e⟩
theorem Wk.nn (h : Wk t v) : nn t v := by
  cases t with
  | true => obtain ⟨l, e, _⟩ := h; exact ⟨_, e⟩
  | false => obtain ⟨i, e, _⟩ := h; exact ⟨_, e⟩
theorem cmp_lt {a b : D} (ha : nn t a) (hb : nn t b) : ∃ k, (∀ μ, dLt (.d a) (.d b) μ = .ok (.d (.bool k)) μ) ∧ (∀ μ, dLe (.d b) (.d a) μ = .ok (.d (.bool (!k))) μ) ∧ ∀ μ, dGe (.d a) (.d b) μ = .ok (.d (.bool (!k))) μ := by
  cases t with
  | true =>
    obtain ⟨x, rfl⟩ := ha
    obtain ⟨y, rfl⟩ := hb
    exact ⟨_, fun μ => rfl, fun μ => rfl, fun μ => rfl⟩
  | false =>
    obtain ⟨x, rfl⟩ := ha
    obtain ⟨y, rfl⟩ := hb
    refine ⟨decide (x < y), fun μ => rfl, fun μ => ?_, fun μ => ?_⟩
    · show Out.ok (Dv.d (.bool (decide (y ≤ x)))) μ = _
      have : decide (y ≤ x) = !decide (x < y) := by rw [Bool.eq_iff_iff]; simp
      rw [this]
    · show Out.ok (Dv.d (.bool (decide (x ≥ y)))) μ = _
      have : decide (x ≥ y) = !decide (x < y) := by rw [Bool.eq_iff_iff]; simp
      rw [this]
theorem st_within {B : Nat} {a b : D} (hv : valR R (kN c) = some v) (hk : Vk B t v) (ha : Wk t a) (hb : Wk t b) : ∃ mk, SameD (.tuple [x, .str (T [119, 105, 116, 104, 105, 110]), nD c, a, b]) R [] mk := by
  have is_ : ∀ μ, dIsi "str" (.d (nD c)) μ = .ok (.d (.bool true)) μ := fun μ => isi_s
  rcases isN_not hk with rfl | hn
  · refine ⟨false, fun μ => ?_, fun μ => ?_⟩
    · have g := dDG_d (μ := μ) hv
      have is_ := is_ μ
      apply eq_of
      unfold F_l_does B_l_does
      apply Wp_run
      simp_arith [dIx1, dIx2, g, r15_l_does, is_, r14_l_does, r13_l_does, r12_l_does, r11_l_does, r10_l_does, r9_l_does, r8_l_does, isN_none]
      first | rfl | exact ⟨rfl, rfl⟩
    · have g := dDG_d (μ := μ) hv
      apply eq_of
      refine w_done (i := 6) rfl rfl ?_
      unfold F_within_step B_within_step
      apply Wp_run
      simp_arith [r2_within_step, r1_within_step, g, isN_none]
      first | rfl | exact ⟨rfl, rfl⟩
  · obtain ⟨k1, h1, h1', _⟩ := cmp_lt (hk.nn hn) ha.nn
    obtain ⟨k2, h2, h2', _⟩ := cmp_lt hb.nn (hk.nn hn)
    refine ⟨k1 || k2, fun μ => ?_, fun μ => ?_⟩
    · have g := dDG_d (μ := μ) hv
      have h1 := h1 μ
      have h2 := h2 μ
      have is_ := is_ μ
      apply eq_of
      unfold F_l_does B_l_does
      apply Wp_run
      cases k1 with
      | true =>
        simp_arith [dIx1, dIx2, dIx3, dIx4, g, r15_l_does, is_, r14_l_does, r13_l_does, r12_l_does, r11_l_does, r10_l_does, r9_l_does, r8_l_does, hn, h1]
        first | rfl | exact ⟨rfl, rfl⟩
      | false =>
        simp_arith [dIx1, dIx2, dIx3, dIx4, g, r15_l_does, is_, r14_l_does, r13_l_does, r12_l_does, r11_l_does, r10_l_does, r9_l_does, r8_l_does, hn, h1, h2]
        first | rfl | exact ⟨rfl, rfl⟩
    · have g := dDG_d (μ := μ) hv
      have h1 := h1' μ
      have h2 := h2' μ
      apply eq_of
      refine w_done (i := 6) rfl rfl ?_
      unfold F_within_step B_within_step
      apply Wp_run
      simp_arith [-eChain_r, r2_within_step, r1_within_step, g, hn, h1]
      cases k1 with
      | true =>
        simp_arith []
        first | rfl | exact ⟨rfl, rfl⟩
      | false =>
        simp_arith [-eChain_r, h2]
        cases k2 <;> first | rfl | exact ⟨rfl, rfl⟩
theorem in_ex {ws : List D} (hv : nn t v) (hw : ∀ w ∈ ws, Wk t w) : ∃ k, ∀ μ, dIn true (.d v) (.d (.tuple ws)) μ = .ok (.d (.bool k)) μ := by
  have fl : ∀ w ∈ ws, flatD w = true := fun w h => by
    have := (hw w h).nn
    cases t with
    | true => obtain ⟨z, rfl⟩ := this; rfl
    | false => obtain ⟨z, rfl⟩ := this; rfl
  refine ⟨!(ws.any fun y => PyData.eqv y v), fun μ => ?_⟩
  have go : (match allFlat (ws.map Dv.d) with
      | some (es : List D) => (if flatD v = true then Out.ok (Dv.d (PyData.bool (if true = true then !(es.any fun y => PyData.eqv y v) else es.any fun y => PyData.eqv y v))) μ else Out.bad)
      | none => .bad) = .ok (.d (.bool (!(ws.any fun y => PyData.eqv y v)))) μ := by
    rw [allFlat_map fl]
    have : flatD v = true := by
      cases t with
      | true => obtain ⟨z, rfl⟩ := hv; rfl
      | false => obtain ⟨z, rfl⟩ := hv; rfl
    show (if flatD v = true then _ else _) = _
    rw [if_pos this, if_pos rfl]
  cases t with
  | true => obtain ⟨z, rfl⟩ := hv; exact go
  | false => obtain ⟨z, rfl⟩ := hv; exact go
theorem st_among {B : Nat} {ws : List D} (hv : valR R (kN c) = some v) (hk : Vk B t v) (hw : ∀ w ∈ ws, Wk t w) : ∃ mk, SameD (.tuple [x, .str (T [97, 109, 111, 110, 103]), nD c, .tuple ws]) R [] mk := by
  have is_ : ∀ μ, dIsi "str" (.d (nD c)) μ = .ok (.d (.bool true)) μ := fun μ => isi_s
  rcases isN_not hk with rfl | hn
  · refine ⟨false, fun μ => ?_, fun μ => ?_⟩
    · have g := dDG_d (μ := μ) hv
      have is_ := is_ μ
      apply eq_of
      unfold F_l_does B_l_does
      apply Wp_run
      simp_arith [dIx1, dIx2, g, r15_l_does, is_, r14_l_does, r13_l_does, r12_l_does, r11_l_does, r10_l_does, r9_l_does, r8_l_does, r7_l_does, isN_none]
      first | rfl | exact ⟨rfl, rfl⟩
    · have g := dDG_d (μ := μ) hv
      apply eq_of
      refine w_done (i := 7) rfl rfl ?_
      unfold F_among_step B_among_step
      apply Wp_run
      simp_arith [r2_among_step, r1_among_step, g, isN_none]
      first | rfl | exact ⟨rfl, rfl⟩
  · obtain ⟨k, hk⟩ := in_ex (hk.nn hn) hw
    refine ⟨k, fun μ => ?_, fun μ => ?_⟩
    · have g := dDG_d (μ := μ) hv
      have h1 := hk μ
      have is_ := is_ μ
      apply eq_of
      unfold F_l_does B_l_does
      apply Wp_run
      simp_arith [dIx1, dIx2, dIx3, g, r15_l_does, is_, r14_l_does, r13_l_does, r12_l_does, r11_l_does, r10_l_does, r9_l_does, r8_l_does, r7_l_does, hn, h1]
      first | rfl | exact ⟨rfl, rfl⟩
    · have g := dDG_d (μ := μ) hv
      have h1 := hk μ
      apply eq_of
      refine w_done (i := 7) rfl rfl ?_
      unfold F_among_step B_among_step
      apply Wp_run
      simp_arith [r2_among_step, r1_among_step, g, hn, h1]
      first | rfl | exact ⟨rfl, rfl⟩
theorem st_before {B : Nat} {d : List Nat} {u : D} (hv : valR R (kN c) = some v) (hu : valR R (kN d) = some u) (hk : Vk B t v) (hk2 : Vk B t u) : ∃ mk, SameD (.tuple [x, .str (T [98, 101, 102, 111, 114, 101]), nD c, nD d]) R [] mk := by
  have is_ : ∀ μ, dIsi "str" (.d (nD c)) μ = .ok (.d (.bool true)) μ := fun μ => isi_s
  rcases isN_not hk with rfl | hn
  · refine ⟨false, fun μ => ?_, fun μ => ?_⟩
    · have g := dDG_d (μ := μ) hv
      have g2 := dDG_d (μ := μ) hu
      have is_ := is_ μ
      apply eq_of
      unfold F_l_does B_l_does
      apply Wp_run
      simp_arith [dIx1, dIx2, dIx3, g, g2, r15_l_does, is_, r14_l_does, r13_l_does, r12_l_does, r11_l_does, r10_l_does, r9_l_does, r8_l_does, r7_l_does, r6_l_does, isN_none]
      first | rfl | exact ⟨rfl, rfl⟩
    · have g := dDG_d (μ := μ) hv
      have g2 := dDG_d (μ := μ) hu
      apply eq_of
      refine w_done (i := 8) rfl rfl ?_
      unfold F_before_step B_before_step
      apply Wp_run
      simp_arith [r2_before_step, r1_before_step, g, g2, isN_none]
      first | rfl | exact ⟨rfl, rfl⟩
  · rcases isN_not hk2 with rfl | hn2
    · refine ⟨false, fun μ => ?_, fun μ => ?_⟩
      · have g := dDG_d (μ := μ) hv
        have g2 := dDG_d (μ := μ) hu
        have is_ := is_ μ
        apply eq_of
        unfold F_l_does B_l_does
        apply Wp_run
        simp_arith [dIx1, dIx2, dIx3, g, g2, r15_l_does, is_, r14_l_does, r13_l_does, r12_l_does, r11_l_does, r10_l_does, r9_l_does, r8_l_does, r7_l_does, r6_l_does, hn, isN_none]
        first | rfl | exact ⟨rfl, rfl⟩
      · have g := dDG_d (μ := μ) hv
        have g2 := dDG_d (μ := μ) hu
        apply eq_of
        refine w_done (i := 8) rfl rfl ?_
        unfold F_before_step B_before_step
        apply Wp_run
        simp_arith [r2_before_step, r1_before_step, g, g2, hn, isN_none]
        first | rfl | exact ⟨rfl, rfl⟩
    · obtain ⟨k, h1, _, h3⟩ := cmp_lt (hk.nn hn) (hk2.nn hn2)
      refine ⟨!k, fun μ => ?_, fun μ => ?_⟩
      · have g := dDG_d (μ := μ) hv
        have g2 := dDG_d (μ := μ) hu
        have h1 := h1 μ
        have is_ := is_ μ
        apply eq_of
        unfold F_l_does B_l_does
        apply Wp_run
        simp_arith [dIx1, dIx2, dIx3, g, g2, r15_l_does, is_, r14_l_does, r13_l_does, r12_l_does, r11_l_does, r10_l_does, r9_l_does, r8_l_does, r7_l_does, r6_l_does, hn, hn2, h1]
        first | rfl | exact ⟨rfl, rfl⟩
      · have g := dDG_d (μ := μ) hv
        have g2 := dDG_d (μ := μ) hu
        have h1 := h3 μ
        apply eq_of
        refine w_done (i := 8) rfl rfl ?_
        unfold F_before_step B_before_step
        apply Wp_run
        simp_arith [r2_before_step, r1_before_step, g, g2, hn, hn2, h1]
        first | rfl | exact ⟨rfl, rfl⟩
theorem st_put {w : D} (hv : valR R (kN c) = some v) : SameD (.tuple [x, .str (T [112, 117, 116]), nD c, w]) R [(kN c, if isNone v = true then w else v)] false := by
  have is_ : ∀ μ, dIsi "str" (.d (nD c)) μ = .ok (.d (.bool true)) μ := fun μ => isi_s
  have go : ∀ u, u = (if isNone v = true then w else v) → SameD (.tuple [x, .str (T [112, 117, 116]), nD c, w]) R [(kN c, u)] false := fun u hu => by
    have dd : ∀ μ, dDicF [(.d (nD c), .d u)] μ = .ok (.d (dicOf [(kN c, u)])) μ := fun μ => dDicF_1
    cases hn : isNone v with
    | true =>
      rw [hn, if_pos rfl] at hu
      subst hu
      refine ⟨fun μ => ?_, fun μ => ?_⟩
      · have g := dDG_d (μ := μ) hv
        have dd := dd μ
        have is_ := is_ μ
        apply eq_of
        unfold F_l_does B_l_does
        apply Wp_run
        simp_arith [dIx1, dIx2, dIx3, g, r15_l_does, is_, r14_l_does, r13_l_does, r12_l_does, r11_l_does, r10_l_does, hn, dd]
      · have g := dDG_d (μ := μ) hv
        have dd := dd μ
        apply eq_of
        refine w_done (i := 4) rfl rfl ?_
        unfold F_put_step B_put_step
        apply Wp_run
        simp_arith [r2_put_step, r1_put_step, g, hn, dd]
    | false =>
      rw [hn, if_neg (by decide)] at hu
      subst hu
      refine ⟨fun μ => ?_, fun μ => ?_⟩
      · have g := dDG_d (μ := μ) hv
        have dd := dd μ
        have is_ := is_ μ
        apply eq_of
        unfold F_l_does B_l_does
        apply Wp_run
        simp_arith [dIx1, dIx2, dIx3, g, r15_l_does, is_, r14_l_does, r13_l_does, r12_l_does, r11_l_does, r10_l_does, hn, dd]
      · have g := dDG_d (μ := μ) hv
        have dd := dd μ
        apply eq_of
        refine w_done (i := 4) rfl rfl ?_
        unfold F_put_step B_put_step
        apply Wp_run
        simp_arith [r2_put_step, r1_put_step, g, hn, dd]
  exact go _ rfl
end
end LW

namespace LW
open PySem PySem.Spec PyProof.Rows L2 DL
theorem tx_lay {l : List Nat} (h2 : ∀ c ∈ l, c < 128) : (PyData.str (T l)).canLay0 = true := by
  show PyData.strOk (T l) = true
  unfold PyData.strOk
  simp only [T, Array.all_eq_true', List.mem_toArray]
  first
    | (intro c hc; have := h2 c hc; simp; omega)
    | (simp; intro c hc; have := h2 c hc; omega)
theorem nt_shaped : ∀ {gs : List D}, (∀ d ∈ gs, d = .none ∨ ∃ l : List Nat, d = .str (T l) ∧ ∀ c ∈ l, c < 128) → PyData.canLayAll0 gs = true ∧ PyData.depthAll gs = 0
  | [], _ => ⟨rfl, rfl⟩
  | d :: gs, h => by
    obtain ⟨a, b⟩ := nt_shaped (gs := gs) fun e he => h e (List.mem_cons_of_mem _ he)
    have q : d.canLay0 = true ∧ d.depth = 0 := by
      rcases h d List.mem_cons_self with rfl | ⟨l, rfl, h2⟩
      · exact ⟨rfl, rfl⟩
      · exact ⟨tx_lay h2, rfl⟩
    refine ⟨?_, ?_⟩
    · rw [PyData.canLayAll0, a, q.1]; rfl
    · rw [PyData.depthAll, b, q.2]; rfl
theorem nt_list {gs : List D} (h : ∀ d ∈ gs, d = .none ∨ ∃ l : List Nat, d = .str (T l) ∧ ∀ c ∈ l, c < 128) : SeqAt.shaped (.list gs) = true := by
  obtain ⟨a, b⟩ := nt_shaped h
  unfold SeqAt.shaped
  rw [PyData.canLay0, PyData.depth, a, b]
  rfl
theorem nt_emp {gs : List D} (h : ∀ d ∈ gs, d = .none ∨ ∃ l : List Nat, d = .str (T l) ∧ ∀ c ∈ l, c < 128) (neg : Bool) (μ : Store) : dEq neg (.d (.list gs)) (.d (.list [])) μ = .ok (.d (.bool (if gs = [] then !neg else neg))) μ := by
  rw [dEq_dd (by rw [nt_list h]; rfl)]
  cases gs <;> cases neg <;> rfl
/-- a pair of a step spell -/
def splD (p : List Nat × D) : D := .tuple [nD p.1, p.2]
def SpOk (ps : List (List Nat × D)) : Prop := (ps.map Prod.fst).Nodup ∧ ps.length ≤ 4 ∧ ∀ p ∈ ps, (∀ c ∈ p.1, c < 128) ∧ p.1.length ≤ 60 ∧ (p.2 = .none ∨ Sc p.2)
section
variable {R : Row} {x : D} {c : List Nat} {t : Bool} {v : D}
def spR (ps : List (List Nat × D)) : Row := ps.map fun p => (kN p.1, p.2)
theorem spR_pairs : ∀ ps : List (List Nat × D), pairsD (ps.map splD) = some (spR ps)
  | [] => rfl
  | p :: ps => by
    have ih := spR_pairs ps
    show (match DL.keyOf (nD p.1), pairsD (ps.map splD) with
      | some k, some qs => some ((k, p.2) :: qs)
      | _, _ => none) = _
    rw [ih]
    rfl
theorem spR_nodup {ps : List (List Nat × D)} (h : (ps.map Prod.fst).Nodup) : ((spR ps).map Prod.fst).Nodup := by
  unfold spR
  rw [List.map_map]
  rw [List.nodup_iff_pairwise_ne] at h ⊢
  rw [List.pairwise_map] at h ⊢
  exact h.imp fun ne e => ne (kN_inj e)
theorem ddp_sp {ps : List (List Nat × D)} {μ : Store} (h : (ps.map Prod.fst).Nodup) : dDictP [.d (.tuple (ps.map splD))] μ = .ok (.d (dicOf (spR ps))) μ := by
  show (match pairsD (ps.map splD) with
    | some kvs => if (kvs.map Prod.fst).Nodup then Out.ok (Dv.d (dicOf kvs)) μ else .bad
    | none => .bad) = _
  rw [spR_pairs]
  exact if_pos (spR_nodup h)
theorem get_none {M : Row} {d : Dv} {μ : Store} : dGet2F (.d (dicOf M)) (.d .none) d μ = .ok d μ := by
  unfold dGet2F
  rw [dp_dic]
  rfl
theorem get_str {M : Row} {l : List Nat} {d : D} {μ : Store} : dGet2F (.d (dicOf M)) (.d (.str (T l))) (.d d) μ = .ok (.d ((valR M (kN l)).getD d)) μ := by
  unfold dGet2F
  rw [dp_dic]
  show Out.ok ((valD (dv M) (kN l)).getD (.d d)) μ = _
  rw [valD_dv]
  cases valR M (kN l) <;> rfl
theorem isDp_dic {M : Row} {μ : Store} : isDp (.d (dicOf M)) μ = true := by
  unfold isDp
  rw [dp_dic]
  rfl
theorem kG0_dic {M : Row} {a c : ME} {ρ : DEnv} {Q : Dv → Store → Prop} {μ : Store} : kG0 a c ρ Q (.d (dicOf M)) μ = Wp (a ρ μ) (kG1 (.d (dicOf M)) c ρ Q) := kG0_r isDp_dic
theorem valR_mem {k : Key} {v : D} : ∀ {M : Row}, valR M k = some v → ∃ p ∈ M, p.2 = v
  | [], h => by cases h
  | p :: M, h => by
    rw [valR_cons] at h
    split at h
    · injection h with h
      exact ⟨p, List.mem_cons_self, h⟩
    · obtain ⟨q, hq, e⟩ := valR_mem h
      exact ⟨q, List.mem_cons_of_mem _ hq, e⟩
def gvn (ps : List (List Nat × D)) (l : List Nat) : List D := (ps.filter fun p => decide (p.1 = l)).map Prod.snd
theorem gvn_head {l : List Nat} : ∀ {ps : List (List Nat × D)}, valR (spR ps) (kN l) = (gvn ps l).head?
  | [] => rfl
  | p :: ps => by
    have ih := gvn_head (l := l) (ps := ps)
    show valR ((kN p.1, p.2) :: spR ps) (kN l) = _
    rw [valR_cons]
    unfold gvn
    by_cases h : p.1 = l
    · rw [if_pos (by rw [h]), List.filter_cons_of_pos (by simpa using h)]
      rfl
    · rw [if_neg (fun z => h (kN_inj z)), List.filter_cons_of_neg (by simpa using h)]
      exact ih
theorem gvn_f {l : List Nat} : ∀ {ps : List (List Nat × D)}, ((((ps.map splD).map Dv.d).filter fun b => match b with | .d (.tuple (.str x :: _)) => decide (x = T l) | _ => false).map fun b => match b with | .d (.tuple [_, y]) => Dv.d y | b => b) = (gvn ps l).map .d
  | [] => rfl
  | p :: ps => by
    have ih := gvn_f (l := l) (ps := ps)
    rw [List.map_cons, List.map_cons]
    unfold gvn
    by_cases h : p.1 = l
    · rw [List.filter_cons_of_pos (by show decide (T p.1 = T l) = true; rw [h]; simp), List.filter_cons_of_pos (by simpa using h), List.map_cons, ih]
      rfl
    · rw [List.filter_cons_of_neg (by show ¬ decide (T p.1 = T l) = true; simp only [decide_eq_true_eq]; exact fun z => h (T_inj.mp z)), List.filter_cons_of_neg (by simpa using h), ih]
      rfl
theorem st_spell {B : Nat} {ps : List (List Nat × D)} (hB : 11 ≤ B) (hv : valR R (kN c) = some v) (hk : Vk B true v) (hp : SpOk ps) : ∃ u, Vk B true u ∧ SameD (.tuple [x, .str (T [115, 112, 101, 108, 108]), nD c, .tuple (ps.map splD)]) R [(kN c, u)] false := by
  have is_ : ∀ μ, dIsi "str" (.d (nD c)) μ = .ok (.d (.bool true)) μ := fun μ => isi_s
  have l4 := hp.2.1
  rcases hk with rfl | ⟨l, rfl, l1, l2⟩
  · have dd : ∀ μ, dDicF [(.d (nD c), .d .none)] μ = .ok (.d (dicOf [(kN c, .none)])) μ := fun μ => dDicF_1
    refine ⟨.none, .inl rfl, fun μ => ?_, fun μ => ?_⟩
    · have g := dDG_d (μ := μ) hv
      have is_ := is_ μ
      have dd := dd μ
      have e1 := nt_emp (gs := []) (by simp) true μ
      have e1 : dEq true (.d (.list [])) (.d (.list [])) μ = .ok (.d (.bool false)) μ := e1
      have ec := lcM_filter (g := gT 2 (gsCons (gN 11) (gsCons (gN 12) (gsNil)))) (tt := t2_l_does) (te := c4_l_does) (ρ := wipeD [some (.d (.tuple [x, .str (T [115, 112, 101, 108, 108]), nD c, .tuple (ps.map splD)])), some (.d (dicOf R)), some (.d (.str (T [115, 112, 101, 108, 108]))), some (.d (nD c)), some (.d .none), none, none, none, none, none, none, none, none] [11, 12]) (μ := μ) (p := fun _ => false) (f := fun b => match b with | .d (.tuple [_, y]) => Dv.d y | b => b) (bs := (ps.map splD).map .d) (fun b hb => by
        obtain ⟨d, hd, rfl⟩ := List.mem_map.mp hb
        obtain ⟨p, hp, rfl⟩ := List.mem_map.mp hd
        have en : dEq false (.d (nD p.1)) (.d .none) μ = .ok (.d (.bool false)) μ := by rw [dEq_dd rfl]; rfl
        refine ⟨_, rfl, ?_, ?_⟩
        · simp -implicitDefEqProofs (disch := first | assumption | rfl | exact cMod_of (by decide) | omega | (simp only [List.length_take, List.length_drop, List.length_append, List.length_cons, List.length_nil, List.length_map, List.length_range, List.length_replicate]; omega) | solve_by_elim) [t2_l_does, wipeD, en]
        · simp -implicitDefEqProofs (disch := first | assumption | rfl | exact cMod_of (by decide) | omega | (simp only [List.length_take, List.length_drop, List.length_append, List.length_cons, List.length_nil, List.length_map, List.length_range, List.length_replicate]; omega) | solve_by_elim) [c4_l_does, wipeD]
          rfl)
      have ef : (((ps.map splD).map Dv.d).filter fun _ => false) = [] := by simp
      rw [ef] at ec
      apply eq_of
      unfold F_l_does B_l_does
      apply Wp_run
      simp_arith [dIx1, dIx2, dIx3, g, r15_l_does, is_, r14_l_does, r13_l_does, r12_l_does]
      refine Wp_lcF (by simp; omega) ?_
      try rw [← List.map_map]
      refine of_eq ec ?_
      simp_arith [r4_l_does, e1, dd]
    · have g := dDG_d (μ := μ) hv
      have g3 : dGet2F (.d (dicOf (spR ps))) (.d .none) (.d .none) μ = .ok (.d .none) μ := get_none
      have dp := ddp_sp (μ := μ) hp.1
      have dd := dd μ
      apply eq_of
      refine w_done (i := 2) rfl rfl ?_
      unfold F_spell_step B_spell_step
      apply Wp_run
      simp_arith [r3_spell_step, r2_spell_step, r1_spell_step, g, dp, kG0_dic, g3, dd]
  · have hgs : ∀ d ∈ gvn ps l, d = .none ∨ ∃ l : List Nat, d = .str (T l) ∧ ∀ c ∈ l, c < 128 := fun d hd => by
      obtain ⟨p, hp2, rfl⟩ := List.mem_map.mp hd
      rcases (hp.2.2 p (List.mem_filter.mp hp2).1).2.2 with z | ⟨m, e, _, m2⟩
      · exact .inl z
      · exact .inr ⟨m, e, m2⟩
    have hlen : (gvn ps l).length ≤ 4 := by
      unfold gvn
      rw [List.length_map]
      exact Nat.le_trans (List.length_filter_le _ _) l4
    have hu : Vk B true ((valR (spR ps) (kN l)).getD (.str (T l))) := by
      cases q : valR (spR ps) (kN l) with
      | none => exact .inr ⟨l, rfl, l1, l2⟩
      | some w =>
        obtain ⟨p, hp2, e⟩ := valR_mem q
        obtain ⟨p', hp', rfl⟩ := List.mem_map.mp hp2
        subst e
        rcases (hp.2.2 p' hp').2.2 with h | h
        · exact .inl h
        · obtain ⟨m, e, h1, h2⟩ := h
          exact .inr ⟨m, e, by omega, h2⟩
    have ec : ∀ μ, lcM (gT 2 (gsCons (gN 11) (gsCons (gN 12) (gsNil)))) t2_l_does c4_l_does (wipeD [some (.d (.tuple [x, .str (T [115, 112, 101, 108, 108]), nD c, .tuple (ps.map splD)])), some (.d (dicOf R)), some (.d (.str (T [115, 112, 101, 108, 108]))), some (.d (nD c)), some (.d (.str (T l))), none, none, none, none, none, none, none, none] [11, 12]) ((ps.map splD).map .d) μ = .ok ((gvn ps l).map .d) μ := fun μ => by
      rw [← gvn_f]
      refine lcM_filter fun b hb => ?_
      obtain ⟨d, hd, rfl⟩ := List.mem_map.mp hb
      obtain ⟨p, hp, rfl⟩ := List.mem_map.mp hd
      have en : dEq false (.d (nD p.1)) (.d (.str (T l))) μ = .ok (.d (.bool (decide (T p.1 = T l)))) μ := by
        rw [show decide (T p.1 = T l) = decide (p.1 = l) by rw [Bool.eq_iff_iff]; simp only [decide_eq_true_eq]; exact T_inj]
        exact dEq_ss
      refine ⟨_, rfl, ?_, ?_⟩
      · simp -implicitDefEqProofs (disch := first | assumption | rfl | exact cMod_of (by decide) | omega | (simp only [List.length_take, List.length_drop, List.length_append, List.length_cons, List.length_nil, List.length_map, List.length_range, List.length_replicate]; omega) | solve_by_elim) [t2_l_does, wipeD, en]
        rfl
      · simp -implicitDefEqProofs (disch := first | assumption | rfl | exact cMod_of (by decide) | omega | (simp only [List.length_take, List.length_drop, List.length_append, List.length_cons, List.length_nil, List.length_map, List.length_range, List.length_replicate]; omega) | solve_by_elim) [c4_l_does, wipeD]
        rfl
    refine ⟨_, hu, fun μ => ?_, fun μ => ?_⟩
    · have g := dDG_d (μ := μ) hv
      have is_ := is_ μ
      have e1 := nt_emp hgs true μ
      have ec := ec μ
      rw [gvn_head]
      apply eq_of
      unfold F_l_does B_l_does
      apply Wp_run
      generalize gvn ps l = gs at *
      simp_arith [dIx1, dIx2, dIx3, g, r15_l_does, is_, r14_l_does, r13_l_does, r12_l_does]
      refine Wp_lcF (by simp; omega) ?_
      try rw [← List.map_map]
      refine of_eq ec ?_
      rw [dList_map (by omega)]
      cases gs with
      | nil =>
        have dd : dDicF [(.d (nD c), .d (.str (T l)))] μ = .ok (.d (dicOf [(kN c, .str (T l))])) μ := dDicF_1
        have e1 : dEq true (.d (.list [])) (.d (.list [])) μ = .ok (.d (.bool false)) μ := e1
        simp_arith [r4_l_does, e1, dd]
        try first | rfl | exact ⟨rfl, rfl⟩
      | cons d gs =>
        have dd : dDicF [(.d (nD c), .d d)] μ = .ok (.d (dicOf [(kN c, d)])) μ := dDicF_1
        have e1 : dEq true (.d (.list (d :: gs))) (.d (.list [])) μ = .ok (.d (.bool true)) μ := e1
        simp_arith [r4_l_does, e1, dIxl0, dd]
        try first | rfl | exact ⟨rfl, rfl⟩
    · have g := dDG_d (μ := μ) hv
      have g3 : dGet2F (.d (dicOf (spR ps))) (.d (.str (T l))) (.d (.str (T l))) μ = .ok (.d ((valR (spR ps) (kN l)).getD (.str (T l)))) μ := get_str
      have dp := ddp_sp (μ := μ) hp.1
      generalize ((valR (spR ps) (kN l)).getD (.str (T l))) = u at *
      have dd : dDicF [(.d (nD c), .d u)] μ = .ok (.d (dicOf [(kN c, u)])) μ := dDicF_1
      apply eq_of
      refine w_done (i := 2) rfl rfl ?_
      unfold F_spell_step B_spell_step
      apply Wp_run
      simp_arith [r3_spell_step, r2_spell_step, r1_spell_step, g, dp, kG0_dic, g3, dd]
theorem isN_oI {w : Option Int} : isNone (oI w) = w.isNone := by cases w <;> rfl
theorem st_read {B : Nat} {f : D} {nw : List Nat} (hB : B ≤ 70) (hv : valR R (kN c) = some v) (hk : Vk B true v) (hf : FormOk f) : ∃ u mk, Vk B false u ∧ SameD (.tuple [x, .str (T [114, 101, 97, 100]), nD c, f, nD nw]) R [(kN nw, u)] mk := by
  have is_ : ∀ μ, dIsi "str" (.d (nD c)) μ = .ok (.d (.bool true)) μ := fun μ => isi_s
  rcases hk with rfl | ⟨l, rfl, l1, l2⟩
  · have dd : ∀ μ, dDicF [(.d (nD nw), .d .none)] μ = .ok (.d (dicOf [(kN nw, .none)])) μ := fun μ => dDicF_1
    refine ⟨.none, false, .inl rfl, fun μ => ?_, fun μ => ?_⟩
    · have g := dDG_d (μ := μ) hv
      have is_ := is_ μ
      have dd := dd μ
      apply eq_of
      unfold F_l_does B_l_does
      apply Wp_run
      simp_arith [dIx1, dIx2, dIx3, dIx4, g, r15_l_does, is_, r14_l_does, r13_l_does, r12_l_does, r11_l_does, r5_l_does, isN_none, dd]
    · have g := dDG_d (μ := μ) hv
      have dd := dd μ
      apply eq_of
      refine w_done (i := 3) rfl rfl ?_
      unfold F_read_step B_read_step
      apply Wp_run
      simp_arith [r3_read_step, r2_read_step, r1_read_step, g, isN_none, dd]
  · obtain ⟨w, w1, w2, w3⟩ := read_same hf (l := l) (by omega)
    have dd : ∀ μ, dDicF [(.d (nD nw), .d (oI w))] μ = .ok (.d (dicOf [(kN nw, oI w)])) μ := fun μ => dDicF_1
    have iT : isNone (.str (T l)) = false := rfl
    refine ⟨oI w, w.isNone, ?_, fun μ => ?_, fun μ => ?_⟩
    · cases w with
      | none => exact .inl rfl
      | some i => exact .inr ⟨i, rfl, w1 i rfl⟩
    · have g := dDG_d (μ := μ) hv
      have w2 := w2 μ
      have iw := isN_oI (w := w)
      have is_ := is_ μ
      have dd := dd μ
      apply eq_of
      unfold F_l_does B_l_does
      apply Wp_run
      generalize oI w = ow at *
      simp_arith [dIx1, dIx2, dIx3, dIx4, g, r15_l_does, is_, r14_l_does, r13_l_does, r12_l_does, r11_l_does, r5_l_does, iT, w2, iw, dd]
    · have g := dDG_d (μ := μ) hv
      have w3 := w3 μ
      have dd := dd μ
      have iw := isN_oI (w := w)
      apply eq_of
      refine w_done (i := 3) rfl rfl ?_
      unfold F_read_step B_read_step
      apply Wp_run
      generalize oI w = ow at *
      simp_arith [r3_read_step, r2_read_step, r1_read_step, g, iT, w3, iw, dd]
end
end LW

namespace LW
open PySem PySem.Spec PyProof.Rows L2 DL
theorem tx_shaped : ∀ {ls : List (List Nat)}, (∀ l ∈ ls, ∀ c ∈ l, c < 128) → PyData.canLayAll0 (ls.map fun l => .str (T l)) = true ∧ PyData.depthAll (ls.map fun l => .str (T l)) = 0
  | [], _ => ⟨rfl, rfl⟩
  | l :: ls, h => by
    obtain ⟨a, b⟩ := tx_shaped (ls := ls) fun e he => h e (List.mem_cons_of_mem _ he)
    refine ⟨?_, ?_⟩
    · rw [List.map_cons, PyData.canLayAll0, a, tx_lay (h l List.mem_cons_self)]; rfl
    · rw [List.map_cons, PyData.depthAll, b]; rfl
theorem tx_list {ls : List (List Nat)} (h : ∀ l ∈ ls, ∀ c ∈ l, c < 128) : SeqAt.shaped (.list (ls.map fun l => .str (T l))) = true := by
  obtain ⟨a, b⟩ := tx_shaped h
  unfold SeqAt.shaped
  rw [PyData.canLay0, PyData.depth, a, b]
  rfl
section
variable {R : Row} {x : D} {c : List Nat} {t : Bool} {v : D}
/-- the worth of a column's name -/
def colV (R : Row) (b : Dv) : D := match b with
  | .d (.str s) => (valR R (.inr s)).getD .none
  | _ => .none
theorem glue_ls {B : Nat} : ∀ {cs : List (List Nat)}, (∀ c ∈ cs, ∃ v, valR R (kN c) = some v ∧ Vk B true v) → ∃ ls : List (List Nat), (((cs.map nD).map Dv.d).filter fun b => !isNone (colV R b)).map (fun b => Dv.d (colV R b)) = (ls.map fun l => PyData.str (T l)).map .d ∧ ls.length ≤ cs.length ∧ ∀ l ∈ ls, l.length + 1 ≤ B ∧ ∀ c ∈ l, c < 128
  | [], _ => ⟨[], rfl, Nat.le_refl _, fun l h => by cases h⟩
  | c :: cs, h => by
    obtain ⟨ls, e, hl, hb⟩ := glue_ls (cs := cs) fun d hd => h d (List.mem_cons_of_mem _ hd)
    obtain ⟨v, hv, hk⟩ := h c List.mem_cons_self
    have ec : colV R (.d (nD c)) = v := by
      show (valR R (kN c)).getD .none = v
      rw [hv]; rfl
    rw [List.map_cons, List.map_cons]
    rcases hk with rfl | ⟨l, rfl, l1, l2⟩
    · rw [List.filter_cons_of_neg (by rw [ec]; decide)]
      exact ⟨ls, e, by rw [List.length_cons]; omega, hb⟩
    · rw [List.filter_cons_of_pos (by rw [ec]; rfl), List.map_cons, e, ec]
      refine ⟨l :: ls, rfl, by simp; omega, fun m hm => ?_⟩
      rcases List.mem_cons.mp hm with rfl | hm
      · exact ⟨l1, l2⟩
      · exact hb m hm
theorem join_len {s B : Nat} : ∀ {ls : List (List Nat)}, (∀ l ∈ ls, l.length + 1 ≤ B) → (TL.joinL [s] ls).length + 1 ≤ ls.length * B + 1 ∧ (ls ≠ [] → (TL.joinL [s] ls).length + 1 ≤ ls.length * B)
  | [], _ => ⟨by simp [TL.joinL], fun h => absurd rfl h⟩
  | [p], h => by
    have := h p (by simp)
    refine ⟨by simp [TL.joinL]; omega, fun _ => by simp [TL.joinL]; omega⟩
  | p :: q :: r, h => by
    have hp := h p (by simp)
    have ih := (join_len (s := s) (B := B) (ls := q :: r) fun l hl => h l (List.mem_cons_of_mem _ hl)).2 (by simp)
    have e : (p :: q :: r).length * B = (q :: r).length * B + B := by rw [List.length_cons (a := p), Nat.succ_mul]
    rw [e]
    have e2 : (TL.joinL [s] (p :: q :: r)).length = p.length + (1 + (TL.joinL [s] (q :: r)).length) := by
      show (p ++ ([s] ++ TL.joinL [s] (q :: r))).length = _
      simp
      omega
    rw [e2]
    exact ⟨by omega, fun _ => by omega⟩
theorem join_asc {s : Nat} (hs : s < 128) : ∀ {ls : List (List Nat)}, (∀ l ∈ ls, ∀ c ∈ l, c < 128) → ∀ c ∈ TL.joinL [s] ls, c < 128
  | [], _, c, hc => by cases hc
  | [p], h, c, hc => h p (by simp) c hc
  | p :: q :: r, h, c, hc => by
    have hc : c ∈ p ++ ([s] ++ TL.joinL [s] (q :: r)) := hc
    simp only [List.mem_append, List.mem_singleton] at hc
    rcases hc with hc | hc | hc
    · exact h p (by simp) c hc
    · omega
    · exact join_asc hs (fun l hl => h l (List.mem_cons_of_mem _ hl)) c hc
theorem sum_len {B : Nat} : ∀ {ls : List (List Nat)}, (∀ l ∈ ls, l.length + 1 ≤ B) → (ls.map (·.length)).sum ≤ ls.length * B
  | [], _ => by simp
  | l :: ls, h => by
    have := sum_len (B := B) (ls := ls) fun m hm => h m (List.mem_cons_of_mem _ hm)
    have := h l (by simp)
    rw [List.map_cons, List.sum_cons, List.length_cons, Nat.succ_mul]
    omega
theorem st_glue {B s : Nat} {cs : List (List Nat)} {nw : List Nat} (hB : B ≤ 50000) (hs : s < 128) (hv : ∀ c ∈ cs, ∃ v, valR R (kN c) = some v ∧ Vk B true v) (h4 : cs.length ≤ 4) : ∃ u, Vk (4 * B) true u ∧ SameD (.tuple [x, .str (T [103, 108, 117, 101]), .tuple (cs.map nD), .str (T [s]), nD nw]) R [(kN nw, u)] false := by
  obtain ⟨ls, el, ll, hl⟩ := glue_ls hv
  have l4 : ls.length ≤ 4 := by omega
  have es := tx_list (ls := ls) fun l h => (hl l h).2
  have hj : ∀ μ, ls ≠ [] → dJoin (.d (.str (T [s]))) [.d (.list (ls.map fun l => PyData.str (T l)))] μ = .ok (.d (.str (T (TL.joinL [s] ls)))) μ := fun μ hne => dJoin_s (by
    have := sum_len fun l h => (hl l h).1
    have : ls.length * B ≤ 4 * 50000 := Nat.mul_le_mul l4 hB
    simp
    omega)
  have lcm : ∀ {g : MG} {tt : MT} {te : ME} {ρ : DEnv} {μ : Store}, (∀ c ∈ cs, ∃ ρ', g (.d (nD c)) ρ μ = .ok ρ' μ ∧ tt ρ' μ = .ok (!isNone (colV R (.d (nD c)))) μ ∧ te ρ' μ = .ok (.d (colV R (.d (nD c)))) μ) → lcM g tt te ρ ((cs.map nD).map .d) μ = .ok ((ls.map fun l => PyData.str (T l)).map .d) μ := fun {g tt te ρ μ} h => by
    rw [← el]
    refine lcM_filter fun b hb => ?_
    obtain ⟨d, hd, rfl⟩ := List.mem_map.mp hb
    obtain ⟨c, hc, rfl⟩ := List.mem_map.mp hd
    exact h c hc
  have col : ∀ c ∈ cs, ∀ (μ : Store), dDG (.d (dicOf R)) (.d (nD c)) μ = .ok (.d (colV R (.d (nD c)))) μ := fun c hc μ => by
    obtain ⟨v, h1, _⟩ := hv c hc
    have ec : colV R (.d (nD c)) = v := by
      show (valR R (kN c)).getD .none = v
      rw [h1]; rfl
    rw [ec]
    exact dDG_d h1
  have emp : ∀ (neg : Bool) (μ : Store), dEq neg (.d (.list (ls.map fun l => PyData.str (T l)))) (.d (.list [])) μ = .ok (.d (.bool (if ls = [] then !neg else neg))) μ := fun neg μ => by
    rw [dEq_dd (by rw [es]; rfl)]
    cases ls <;> cases neg <;> rfl
  refine ⟨if ls = [] then .none else .str (T (TL.joinL [s] ls)), ?_, fun μ => ?_, fun μ => ?_⟩
  · by_cases h0 : ls = []
    · rw [if_pos h0]; exact .inl rfl
    · rw [if_neg h0]
      refine .inr ⟨_, rfl, ?_, join_asc hs fun l h => (hl l h).2⟩
      have := (join_len (s := s) fun l h => (hl l h).1).2 h0
      have : ls.length * B ≤ 4 * B := Nat.mul_le_mul_right _ l4
      omega
  · have hj := hj μ
    have e1 := emp true μ
    apply eq_of
    unfold F_l_does B_l_does
    apply Wp_run
    simp_arith [dIx1, dIx2, dIx3, dIx4, r15_l_does, isi_t, r14_l_does, r13_l_does]
    refine Wp_lcF (by simp; omega) ?_
    have lm := lcm (g := gN 10) (tt := t1_l_does) (te := c3_l_does) (ρ := wipeD [some (.d (.tuple [x, .str (T [103, 108, 117, 101]), .tuple (cs.map nD), .str (T [s]), nD nw])), some (.d (dicOf R)), some (.d (.str (T [103, 108, 117, 101]))), some (.d (.tuple (cs.map nD))), some (.d .none), none, none, none, none, none, none, none, none] [10]) (μ := μ) (fun c hc => by
      have := col c hc μ
      generalize colV R (.d (nD c)) = w at *
      refine ⟨_, rfl, ?_, ?_⟩
      · simp -implicitDefEqProofs (disch := first | assumption | rfl | exact cMod_of (by decide) | omega | (simp only [List.length_take, List.length_drop, List.length_append, List.length_cons, List.length_nil, List.length_map, List.length_range, List.length_replicate]; omega) | solve_by_elim) [t1_l_does, wipeD, this]
      · simp -implicitDefEqProofs (disch := first | assumption | rfl | exact cMod_of (by decide) | omega | (simp only [List.length_take, List.length_drop, List.length_append, List.length_cons, List.length_nil, List.length_map, List.length_range, List.length_replicate]; omega) | solve_by_elim) [c3_l_does, wipeD, this])
    try rw [← List.map_map]
    refine of_eq lm ?_
    rw [dList_map (by simp; omega)]
    by_cases h0 : ls = []
    · rw [if_pos h0] at e1 ⊢
      have dd : dDicF [(.d (nD nw), .d .none)] μ = .ok (.d (dicOf [(kN nw, .none)])) μ := dDicF_1
      simp_arith [r3_l_does, dIx3, dIx4, e1, dd]
    · rw [if_neg h0] at e1 ⊢
      have hj := hj h0
      have dd : dDicF [(.d (nD nw), .d (.str (T (TL.joinL [s] ls))))] μ = .ok (.d (dicOf [(kN nw, .str (T (TL.joinL [s] ls)))])) μ := dDicF_1
      simp_arith [r3_l_does, dIx3, dIx4, e1, hj, dd]
  · have hj := hj μ
    have e1 := emp true μ
    apply eq_of
    refine w_done (i := 1) rfl rfl ?_
    unfold F_glue_step B_glue_step
    apply Wp_run
    simp_arith [r2_glue_step]
    refine Wp_lcF (by simp; omega) ?_
    have lm := lcm (g := gN 8) (tt := t1_glue_step) (te := c1_glue_step) (ρ := wipeD [some (.d (.tuple [x, .str (T [103, 108, 117, 101]), .tuple (cs.map nD), .str (T [s]), nD nw])), some (.d (dicOf R)), some (.d x), some (.d (.str (T [103, 108, 117, 101]))), some (.d (.tuple (cs.map nD))), some (.d (.str (T [s]))), some (.d (nD nw)), none, none] [8]) (μ := μ) (fun c hc => by
      have := col c hc μ
      generalize colV R (.d (nD c)) = w at *
      refine ⟨_, rfl, ?_, ?_⟩
      · simp -implicitDefEqProofs (disch := first | assumption | rfl | exact cMod_of (by decide) | omega | (simp only [List.length_take, List.length_drop, List.length_append, List.length_cons, List.length_nil, List.length_map, List.length_range, List.length_replicate]; omega) | solve_by_elim) [t1_glue_step, wipeD, this]
      · simp -implicitDefEqProofs (disch := first | assumption | rfl | exact cMod_of (by decide) | omega | (simp only [List.length_take, List.length_drop, List.length_append, List.length_cons, List.length_nil, List.length_map, List.length_range, List.length_replicate]; omega) | solve_by_elim) [c1_glue_step, wipeD, this])
    try rw [← List.map_map]
    refine of_eq lm ?_
    rw [dList_map (by simp; omega)]
    by_cases h0 : ls = []
    · rw [if_pos h0] at e1 ⊢
      have dd : dDicF [(.d (nD nw), .d .none)] μ = .ok (.d (dicOf [(kN nw, .none)])) μ := dDicF_1
      simp_arith [r1_glue_step, e1, dd]
    · rw [if_neg h0] at e1 ⊢
      have hj := hj h0
      have dd : dDicF [(.d (nD nw), .d (.str (T (TL.joinL [s] ls))))] μ = .ok (.d (dicOf [(kN nw, .str (T (TL.joinL [s] ls)))])) μ := dDicF_1
      simp_arith [r1_glue_step, e1, hj, dd]
end
end LW

namespace LW
open PySem PySem.Spec PyProof.Rows L2 DL
def stripL (l : List Nat) : List Nat := (Txt.stripChars (T l) (T [32])).cps.toList
theorem dStripC_s {l : List Nat} {μ : Store} (h : l.length ≤ 16000000) : dStripC (.d (.str (T l))) [.d (.str (T [32]))] μ = .ok (.d (.str (T (stripL l)))) μ := by
  have hb := line_big
  show (if (T l).length ≤ sizeLine then Out.ok (Dv.d (.str (Txt.stripChars (T l) (T [32])))) μ else .bad) = _
  rw [if_pos (by rw [T_len]; omega)]
  rfl
theorem strip_sub {l : List Nat} : (stripL l).length ≤ l.length ∧ ∀ c ∈ stripL l, c ∈ l := by
  have e1 : Txt.stripChars (T l) (T [32]) = Builtin.Str.strSub (T l) (stripLo (T [32]).cps.contains true (T l)) (stripHi (T [32]).cps.contains true (T l) (stripLo (T [32]).cps.contains true (T l))) := PyProof.Rows.stripBy_eq _ _ _ _
  unfold stripL
  rw [e1]
  unfold Builtin.Str.strSub
  generalize stripLo (T [32]).cps.contains true (T l) = i
  generalize stripHi (T [32]).cps.contains true (T l) i = j
  show ((l.toArray.extract i j).toList).length ≤ _ ∧ _
  refine ⟨?_, fun c hc => ?_⟩
  · simp
    omega
  · have : c ∈ (l.toArray.extract i j).toList := hc
    simp at this
    exact List.mem_of_mem_drop (List.mem_of_mem_take this)
theorem splitL_sub {s : Nat} : ∀ {l acc : List Nat} {p : List Nat}, p ∈ splitL s acc l → p.length ≤ acc.length + l.length ∧ ∀ c ∈ p, c ∈ acc ∨ c ∈ l
  | [], acc, p, h => by
    unfold splitL at h
    rw [List.mem_singleton.mp h]
    exact ⟨by simp, fun c hc => .inl hc⟩
  | c :: l, acc, p, h => by
    unfold splitL at h
    split at h
    · rcases List.mem_cons.mp h with rfl | h
      · exact ⟨by simp, fun c hc => .inl hc⟩
      · obtain ⟨h1, h2⟩ := splitL_sub h
        refine ⟨by simp at h1 ⊢; omega, fun d hd => ?_⟩
        rcases h2 d hd with h | h
        · cases h
        · exact .inr (List.mem_cons_of_mem _ h)
    · obtain ⟨h1, h2⟩ := splitL_sub h
      refine ⟨by simp at h1 ⊢; omega, fun d hd => ?_⟩
      rcases h2 d hd with h | h
      · rcases List.mem_append.mp h with h | h
        · exact .inl h
        · rw [List.mem_singleton.mp h]; exact .inr List.mem_cons_self
      · exact .inr (List.mem_cons_of_mem _ h)
/-- a cell's worth -/
def cw (q : List Nat) : D := if q = [] then .none else .str (T q)
def noM (ns : List (List Nat)) : Row := ns.map fun w => (kN w, .none)
def cutM (ns : List (List Nat)) (qs : List (List Nat)) : Row := (ns.map kN).zip (qs.map cw)
theorem keysZ_nD : ∀ ns : List (List Nat), keysZ (ns.map nD) = some (ns.map kN)
  | [] => rfl
  | w :: ns => by
    have ih := keysZ_nD ns
    show (match DL.keyOf (nD w), keysZ (ns.map nD) with
      | some k, some ks => some (k :: ks)
      | _, _ => none) = _
    rw [ih]
    rfl
theorem nodup_kN {ns : List (List Nat)} (h : ns.Nodup) : (ns.map kN).Nodup := by
  rw [List.nodup_iff_pairwise_ne] at h ⊢
  exact List.pairwise_map.mpr (h.imp fun ne e => ne (kN_inj e))
theorem dzip_cut {ns : List (List Nat)} {ws : List D} {μ : Store} (h : ns.Nodup) (hl : ns.length ≤ 1000) : dZipF finDat [.d (.tuple (ns.map nD)), .d (.list ws)] μ = .ok (.d (dicOf ((ns.map kN).zip ws))) μ := by
  have hb := line_big
  show (match keysZ (ns.map nD) with
      | some ks => if isSeqDv (.d (.list ws)) = true ∧ (ks.take ws.length).Nodup ∧ ks.length ≤ sizeLine then finDat (ks.zip ws) μ else .bad
      | none => .bad) = _
  rw [keysZ_nD]
  show (if isSeqDv (.d (.list ws)) = true ∧ ((ns.map kN).take ws.length).Nodup ∧ (ns.map kN).length ≤ sizeLine then finDat ((ns.map kN).zip ws) μ else .bad) = _
  rw [if_pos ⟨rfl, List.Sublist.nodup (List.take_sublist _ _) (nodup_kN h), by simp; omega⟩]
  rfl
theorem ddp_spl {ps : List (List Nat × D)} {μ : Store} (h : (ps.map Prod.fst).Nodup) : dDictP [.d (.list (ps.map splD))] μ = .ok (.d (dicOf (spR ps))) μ := by
  show (match pairsD (ps.map splD) with
    | some kvs => if (kvs.map Prod.fst).Nodup then Out.ok (Dv.d (dicOf kvs)) μ else .bad
    | none => .bad) = _
  rw [spR_pairs]
  exact if_pos (spR_nodup h)
theorem dcM_no {ρ : DEnv} (hρ : ρ.length = 11) {μ : Store} : ∀ {ns : List (List Nat)} {acc : Row}, (acc.map Prod.fst ++ ns.map kN).Nodup → dcM (gN 10) tYesM (eVar 10) (eC (.d .none)) ρ acc ((ns.map nD).map .d) μ = .ok (acc ++ noM ns) μ
  | [], acc, _ => by rw [show acc ++ noM [] = acc from List.append_nil acc]; rfl
  | w :: ns, acc, h => by
    rw [List.map_cons, List.map_cons]
    have g10 : (ρ.set 10 (some (Dv.d (nD w))))[10]? = some (some (.d (nD w))) := by rw [List.getElem?_set_self]; omega
    have ev : eVar 10 (ρ.set 10 (some (Dv.d (nD w)))) μ = .ok (.d (nD w)) μ := by
      unfold eVar
      rw [g10]
    have nin : kN w ∉ acc.map Prod.fst := fun q => by
      have := (List.nodup_append.mp h).2.2 _ q _ (List.mem_map.mpr ⟨w, List.mem_cons_self, rfl⟩)
      exact this rfl
    rw [dcM_step (ρ' := ρ.set 10 (some (.d (nD w)))) (k := kN w) (y := .none) rfl rfl ev rfl rfl (by
      rw [List.any_eq_false]
      intro p hp
      simp only [decide_eq_true_eq]
      intro z
      exact nin (List.mem_map.mpr ⟨p, hp, z⟩))]
    rw [dcM_no hρ (μ := μ) (ns := ns) (acc := acc ++ [(kN w, (PyData.none : D))]) (by
      rw [List.map_append]
      rw [List.map_cons] at h
      simpa using h)]
    show Out.ok (acc ++ [(kN w, PyData.none)] ++ noM ns) μ = .ok (acc ++ (kN w, .none) :: noM ns) μ
    simp
theorem len_b {l : List Nat} {s : Nat} : (splitL s [] l).length ≤ l.length + 1 := splitL_le
/-- the law's comprehension over parts -/
theorem lc_strip {te : ME} {i k : Nat} {ρ : DEnv} {μ : Store} {ps : List (List Nat)} {f : List Nat → D} (hl : ps.length ≤ 1000000) (h : ∀ p ∈ ps, te ((wipeD ρ [k]).set i (some (.d (.str (T p))))) μ = .ok (.d (f p)) μ) : lcF dList (gN i) tYesM te [k] ρ ((ps.map fun p => PyData.str (T p)).map .d) μ = .ok (.d (.list (ps.map f))) μ := by
  have hb := line_big
  unfold lcF
  rw [if_pos (by simp; omega), lcM_map (f := fun b => match b with | .d (.str x) => .d (f x.cps.toList) | b => b) (fun b hb => ?_)]
  · show dList ((((ps.map fun p => PyData.str (T p)).map Dv.d)).map _) μ = _
    rw [List.map_map, List.map_map]
    have : ps.map (((fun b => match b with | .d (.str x) => Dv.d (f x.cps.toList) | b => b) ∘ Dv.d) ∘ fun p => PyData.str (T p)) = (ps.map f).map .d := by rw [List.map_map]; rfl
    rw [this]
    exact dList_map (by simp; omega)
  · obtain ⟨d, hd, rfl⟩ := List.mem_map.mp hb
    obtain ⟨p, hp, rfl⟩ := List.mem_map.mp hd
    exact ⟨_, rfl, h p hp⟩
section
variable {R : Row} {x : D} {c : List Nat} {v : D}
theorem w_cell {p : List Nat} {μ : Store} (h : p.length ≤ 1000000) : F_cell_worth [.d (.str (T p))] μ = .ok (.d (cw (stripL p))) μ := by
  have e := dStripC_s (μ := μ) (l := p) (by omega)
  unfold cw
  apply eq_of
  unfold F_cell_worth B_cell_worth
  apply Wp_run
  by_cases h0 : stripL p = []
  · rw [h0] at e
    rw [if_pos h0]
    simp_arith [e, r1_cell_worth]
  · rw [if_neg h0]
    simp_arith [e, r1_cell_worth, h0]
theorem w_lworth {p : List Nat} {μ : Store} (h : p.length ≤ 1000000) : F_l_worth [.d (.str (T p))] μ = .ok (.d (cw (stripL p))) μ := by
  have e := dStripC_s (μ := μ) (l := p) (by omega)
  unfold cw
  apply eq_of
  unfold F_l_worth B_l_worth
  apply Wp_run
  by_cases h0 : stripL p = []
  · rw [h0] at e
    rw [if_pos h0]
    simp_arith [e]
  · rw [if_neg h0]
    simp_arith [e, h0]
theorem ddp_no {ns : List (List Nat)} {μ : Store} (h : ns.Nodup) : dDictP [.d (.list (itemsD (noM ns)))] μ = .ok (.d (dicOf (noM ns))) μ := by
  have e := ddp_spl (μ := μ) (ps := ns.map fun w => (w, PyData.none)) (by rw [List.map_map]; exact (show (ns.map fun w => w).Nodup from by rw [List.map_id']; exact h))
  have e1 : (ns.map fun w => (w, PyData.none)).map splD = itemsD (noM ns) := by
    unfold itemsD noM
    rw [List.map_map, List.map_map]
    rfl
  have e2 : spR (ns.map fun w => (w, PyData.none)) = noM ns := by
    unfold spR noM
    rw [List.map_map]
    rfl
  rw [e1, e2] at e
  exact e
theorem st_cut {B s : Nat} {ns : List (List Nat)} (hB : B ≤ 50000) (hs : s < 128) (h2 : 2 ≤ ns.length) (h3 : ns.length ≤ 4) (hn : ns.Nodup) (hv : valR R (kN c) = some v) (hk : Vk B true v) :
    ∃ M mk, SameD (.tuple [x, .str (T [99, 117, 116]), nD c, .str (T [s]), .tuple (ns.map nD)]) R M mk ∧ M.map Prod.fst = ns.map kN ∧ ∀ p ∈ M, Vk B true p.2 := by
  have noL : ∀ {ρ : DEnv} {μ : Store}, ρ.length = 13 → lcF dList (gN 9) tYesM c2_l_does [9] ρ ((ns.map nD).map .d) μ = .ok (.d (.list (itemsD (noM ns)))) μ := fun {ρ μ} hρ => by
    have hb := line_big
    unfold lcF
    rw [if_pos (by simp; omega), lcM_map (f := fun b => match b with | .d y => .d (.tuple [y, .none]) | b => b) (fun b hb => ?_)]
    · show dList ((((ns.map nD).map Dv.d)).map _) μ = _
      have : ((ns.map nD).map Dv.d).map (fun b => match b with | .d y => Dv.d (.tuple [y, .none]) | b => b) = (itemsD (noM ns)).map .d := by
        unfold itemsD noM
        rw [List.map_map, List.map_map, List.map_map, List.map_map]
        rfl
      rw [this]
      exact dList_map (by simp [itemsD, noM]; omega)
    · obtain ⟨d, hd, rfl⟩ := List.mem_map.mp hb
      refine ⟨_, rfl, ?_⟩
      have g4 : ((wipeD ρ [9]).set 9 (some (Dv.d d)))[9]? = some (some (.d d)) := by
        rw [List.getElem?_set_self]
        simp [wipeD, hρ]
      have ev : eVar 9 ((wipeD ρ [9]).set 9 (some (Dv.d d))) μ = .ok (.d d) μ := by
        unfold eVar
        rw [g4]
      apply eq_of
      unfold c2_l_does
      rw [Wp_eN, Wp_aCons]
      refine of_eq ev ?_
      simp_arith []
  have noD : ∀ {ρ : DEnv} {μ : Store}, ρ.length = 11 → ρ[6]? = some (some (.d (.tuple (ns.map nD)))) → eDc (iSeq (eVar 6)) (gN 10) (tYesM) (eVar 10) (eC (.d .none)) [10] ρ μ = .ok (.d (dicOf (noM ns))) μ := fun {ρ μ} hρ h6 => by
    have hb := line_big
    have ev : eVar 6 ρ μ = .ok (.d (.tuple (ns.map nD))) μ := by unfold eVar; rw [h6]
    apply eq_of
    unfold eDc
    rw [Wp_bind, Wp_iSeq]
    refine of_eq ev ?_
    rw [kIS_r]
    refine of_eq (b := (ns.map nD).map .d) (μ := μ) rfl ?_
    rw [if_pos (by simp; omega), Wp_gb]
    refine of_eq (dcM_no (by simp [wipeD, hρ]) (acc := []) (by simpa using nodup_kN hn)) ?_
    exact .mk ⟨rfl, rfl⟩
  have fstM : (noM ns).map Prod.fst = ns.map kN := by unfold noM; rw [List.map_map]; rfl
  have nl : ((ns.length : Nat) : Int) ≠ 0 := by omega
  rcases hk with rfl | ⟨l, rfl, l1, l2⟩
  · refine ⟨noM ns, false, ⟨fun μ => ?_, fun μ => ?_⟩, fstM, fun p hp => ?_⟩
    · have g := dDG_d (μ := μ) hv
      have nl' : ¬ (ns = []) := by intro z; rw [z] at h2; simp at h2
      have is_ : dIsi "str" (.d (nD c)) μ = .ok (.d (.bool true)) μ := isi_s
      have dn := ddp_no (μ := μ) hn
      apply eq_of
      unfold F_l_does B_l_does
      apply Wp_run
      have z0 : ¬ (0 : Int) = ((ns.length : Nat) : Int) := fun z => nl z.symm
      simp_arith [dIx1, dIx2, g, r15_l_does, is_, r14_l_does, isN_none, r2_l_does, dIx4, z0, nl', r1_l_does]
      try rw [← List.map_map]
      refine of_eq (noL rfl) ?_
      simp_arith [isN_none, dn]
    · have g := dDG_d (μ := μ) hv
      have nl' : ¬ (ns = []) := by intro z; rw [z] at h2; simp at h2
      apply eq_of
      refine w_done (i := 0) rfl rfl ?_
      unfold F_cut_step B_cut_step
      apply Wp_run
      have z0 : ¬ (0 : Int) = ((ns.length : Nat) : Int) := fun z => nl z.symm
      simp_arith [r4_cut_step, g, r3_cut_step, isN_none, r2_cut_step, z0, nl', r1_cut_step]
      refine of_eq (noD rfl rfl) ?_
      simp_arith [isN_none]
    · obtain ⟨w, hw, rfl⟩ := List.mem_map.mp hp
      exact .inl rfl
  · have iT : isNone (.str (T l)) = false := rfl
    have sp := fun μ => dSplit_one (μ := μ) (l := l) (s := s) (by omega) (by omega)
    have lps : (splitL s [] l).length ≤ 60000 := Nat.le_trans len_b (by omega)
    have bps : ∀ p ∈ splitL s [] l, p.length ≤ l.length ∧ ∀ c ∈ p, c < 128 := fun p hp => by
      obtain ⟨a, b⟩ := splitL_sub hp
      refine ⟨by simpa using a, fun c hc => ?_⟩
      rcases b c hc with h | h
      · cases h
      · exact l2 c h
    generalize splitL s [] l = ps at *
    have bqs : ∀ q ∈ ps.map stripL, q.length ≤ l.length ∧ ∀ c ∈ q, c < 128 := fun q hq => by
      obtain ⟨p, hp, rfl⟩ := List.mem_map.mp hq
      obtain ⟨a, b⟩ := bps p hp
      exact ⟨Nat.le_trans strip_sub.1 a, fun c hc => b c (strip_sub.2 c hc)⟩
    have lcw : ∀ (ρ : DEnv) (μ : Store), ρ.length = 13 → lcF dList (gN 8) tYesM c1_l_does [8] ρ ((ps.map fun p => PyData.str (T p)).map .d) μ = .ok (.d (.list ((ps.map stripL).map cw))) μ := fun ρ μ hρ => by
      rw [List.map_map (f := stripL) (g := cw)]
      refine lc_strip (ps := ps) (f := fun p => cw (stripL p)) (by omega) fun p hp => ?_
      have g3 : ((wipeD ρ [8]).set 8 (some (Dv.d (.str (T p)))))[8]? = some (some (.d (.str (T p)))) := by
        rw [List.getElem?_set_self]
        simp [wipeD, hρ]
      have ev : eVar 8 ((wipeD ρ [8]).set 8 (some (Dv.d (.str (T p))))) μ = .ok (.d (.str (T p))) μ := by
        unfold eVar
        rw [g3]
      have es := w_lworth (μ := μ) (p := p) (by have := (bps p hp).1; omega)
      apply eq_of
      unfold c1_l_does
      rw [Wp_eN, Wp_aCons]
      refine of_eq ev ?_
      simp_arith [es]
    have lcp : ∀ (ρ : DEnv) (μ : Store), ρ.length = 11 → lcF dList (gN 9) tYesM c1_cut_step [9] ρ ((ps.map fun p => PyData.str (T p)).map .d) μ = .ok (.d (.list ((ps.map stripL).map cw))) μ := fun ρ μ hρ => by
      rw [List.map_map (f := stripL) (g := cw)]
      refine lc_strip (ps := ps) (f := fun p => cw (stripL p)) (by omega) fun p hp => ?_
      have g3 : ((wipeD ρ [9]).set 9 (some (Dv.d (.str (T p)))))[9]? = some (some (.d (.str (T p)))) := by
        rw [List.getElem?_set_self]
        simp [wipeD, hρ]
      have ev : eVar 9 ((wipeD ρ [9]).set 9 (some (Dv.d (.str (T p))))) μ = .ok (.d (.str (T p))) μ := by
        unfold eVar
        rw [g3]
      have es := w_cell (μ := μ) (p := p) (by have := (bps p hp).1; omega)
      apply eq_of
      unfold c1_cut_step
      rw [Wp_eN, Wp_aCons]
      refine of_eq ev ?_
      simp_arith [es]
    have lq : (ps.map stripL).length = ps.length := by simp
    generalize ps.map stripL = qs at *
    have lW : (qs.map cw).length = ps.length := by simp [lq]
    have dz : ∀ μ, dZipF finDat [.d (.tuple (ns.map nD)), .d (.list (qs.map cw))] μ = .ok (.d (dicOf (cutM ns qs))) μ := fun μ => dzip_cut hn (by omega)
    have okM : ps.length = ns.length → (cutM ns qs).map Prod.fst = ns.map kN ∧ ∀ p ∈ cutM ns qs, Vk B true p.2 := fun h => by
      refine ⟨List.map_fst_zip (by simp; omega), fun p hp => ?_⟩
      have := (List.of_mem_zip (a := p.1) (b := p.2) hp).2
      obtain ⟨q, hq, e⟩ := List.mem_map.mp this
      rw [← e]
      unfold cw
      split
      · exact .inl rfl
      · obtain ⟨a, b⟩ := bqs q hq
        exact .inr ⟨q, rfl, by omega, b⟩
    have noV : ∀ p ∈ noM ns, Vk B true p.2 := fun p hp => by
      obtain ⟨w, hw, rfl⟩ := List.mem_map.mp hp
      exact .inl rfl
    generalize (ps.map fun p => PyData.str (T p)) = PL at *
    generalize (qs.map cw) = W at *
    generalize cutM ns qs = M at *
    generalize ps.length = k at *
    have kk : ns.map nD = (ns.map nD) := rfl
    by_cases hlen : k = ns.length
    · refine ⟨M, false, ⟨fun μ => ?_, fun μ => ?_⟩, (okM hlen).1, (okM hlen).2⟩
      · have g := dDG_d (μ := μ) hv
        have sp := sp μ
        have dz := dz μ
        have is_ : dIsi "str" (.d (nD c)) μ = .ok (.d (.bool true)) μ := isi_s
        apply eq_of
        unfold F_l_does B_l_does
        apply Wp_run
        simp_arith [dIx1, dIx2, dIx3, dIx4, g, r15_l_does, is_, r14_l_does, iT, sp]
        refine of_eq (lcw _ μ rfl) ?_
        have z1 : (((W.length : Nat) : Int) = ((ns.length : Nat) : Int)) := by omega
        simp_arith [r2_l_does, dIx4, z1, dz]
      · have g := dDG_d (μ := μ) hv
        have sp := sp μ
        have dz := dz μ
        apply eq_of
        refine w_done (i := 0) rfl rfl ?_
        unfold F_cut_step B_cut_step
        apply Wp_run
        simp_arith [r4_cut_step, g, r3_cut_step, iT, sp]
        refine of_eq (lcp _ μ rfl) ?_
        have z1 : (((W.length : Nat) : Int) = ((ns.length : Nat) : Int)) := by omega
        simp_arith [r2_cut_step, z1, dz]
    · refine ⟨noM ns, true, ⟨fun μ => ?_, fun μ => ?_⟩, fstM, noV⟩
      · have g := dDG_d (μ := μ) hv
        have sp := sp μ
        have dn := ddp_no (μ := μ) hn
        have is_ : dIsi "str" (.d (nD c)) μ = .ok (.d (.bool true)) μ := isi_s
        apply eq_of
        unfold F_l_does B_l_does
        apply Wp_run
        simp_arith [dIx1, dIx2, dIx3, dIx4, g, r15_l_does, is_, r14_l_does, iT, sp]
        refine of_eq (lcw _ μ rfl) ?_
        have z1 : ¬ (((W.length : Nat) : Int) = ((ns.length : Nat) : Int)) := by omega
        simp_arith [r2_l_does, dIx4, z1, r1_l_does]
        try rw [← List.map_map]
        refine of_eq (noL rfl) ?_
        simp_arith [iT, dn]
      · have g := dDG_d (μ := μ) hv
        have sp := sp μ
        apply eq_of
        refine w_done (i := 0) rfl rfl ?_
        unfold F_cut_step B_cut_step
        apply Wp_run
        simp_arith [r4_cut_step, g, r3_cut_step, iT, sp]
        refine of_eq (lcp _ μ rfl) ?_
        have z1 : ¬ (((W.length : Nat) : Int) = ((ns.length : Nat) : Int)) := by omega
        simp_arith [r2_cut_step, z1, r1_cut_step]
        refine of_eq (noD rfl rfl) ?_
        simp_arith [iT]
end
end LW

namespace LW
open PySem PySem.Spec PyProof.Rows L2 DL
/-- a text of at most n signs -/
def Tn (n : Nat) (d : D) : Prop := ∃ l : List Nat, d = .str (T l) ∧ l.length ≤ n ∧ ∀ c ∈ l, c < 128
theorem Tn.of {n : Nat} {l : List Nat} (h : (decide (l.length ≤ n) && l.all fun c => decide (c < 128)) = true) : Tn n (.str (T l)) := by
  simp only [Bool.and_eq_true, decide_eq_true_eq, List.all_eq_true] at h
  exact ⟨l, rfl, h.1, h.2⟩
theorem Tn.up {n m : Nat} {d : D} (h : Tn n d) (hm : n ≤ m) : Tn m d := by
  obtain ⟨l, e, h1, h2⟩ := h
  exact ⟨l, e, by omega, h2⟩
theorem Tn.vk {n B : Nat} {d : D} (h : Tn n d) (hB : n + 1 ≤ B) : Vk B true d := by
  obtain ⟨l, e, h1, h2⟩ := h
  exact .inr ⟨l, e, by omega, h2⟩
theorem Tn.app {n m : Nat} {a b : D} {μ : Store} (h : Tn n a) (k : Tn m b) (hs : n + m ≤ 1000) : ∃ d, dAdd (.d a) (.d b) μ = .ok (.d d) μ ∧ Tn (n + m) d := by
  obtain ⟨l, rfl, h1, h2⟩ := h
  obtain ⟨r, rfl, k1, k2⟩ := k
  refine ⟨_, dAdd_ss (by omega), l ++ r, rfl, by simp; omega, fun c hc => ?_⟩
  rcases List.mem_append.mp hc with z | z
  · exact h2 c z
  · exact k2 c z
theorem tns_of {n : Nat} : ∀ {es : List D}, (∀ e ∈ es, Tn n e) → ∃ ls : List (List Nat), es = ls.map (fun l => PyData.str (T l)) ∧ ∀ l ∈ ls, l.length ≤ n ∧ ∀ c ∈ l, c < 128
  | [], _ => ⟨[], rfl, fun l h => by cases h⟩
  | e :: es, h => by
    obtain ⟨ls, rfl, hl⟩ := tns_of (es := es) fun x hx => h x (List.mem_cons_of_mem _ hx)
    obtain ⟨l, rfl, h1, h2⟩ := h e List.mem_cons_self
    refine ⟨l :: ls, rfl, fun x hx => ?_⟩
    rcases List.mem_cons.mp hx with rfl | hx
    · exact ⟨h1, h2⟩
    · exact hl x hx
section
variable {h m : Nat} {μ : Store} {P : Dv → Store → Prop}
theorem w_text {s : Nat} (hs : s < 128) (H : Bx h m μ) (hm : m + 10 ≤ 10 ^ 9) (fin : ∀ v μ', Vk 30 true v → Bx h (m + 10) μ' → Oth h μ μ' → P (.d v) μ') : Wp (F_l_text [.c h, .d (.str (T [s]))] μ) P := by
  unfold F_l_text B_l_text
  apply Wp_run
  simp_arith []
  refine w_take H (by omega) (by decide) (by decide) fun r μ1 hr H1 O1 => ?_
  obtain ⟨k, ek, hk⟩ : ∃ k : Nat, (1 : Int) + (r : Int) = (k : Int) ∧ k ≤ 5 := ⟨1 + r, by omega, by omega⟩
  simp_arith [ek, rng1_n (show k ≤ 1000000 by omega)]
  refine Wp_lcF (by simp; omega) ?_
  refine Wp_lcM_y (fun j μ' => Bx h (m + 1 + j) μ' ∧ Oth h μ μ') (fun y => ∃ d, y = .d d ∧ Tn 3 d) (i := 0) ⟨H1, O1⟩ (fun j b μ' hb I => ?_) fun ys μ' hl2 hy I => ?_
  · obtain ⟨i, hi, rfl⟩ := mem_rng hb
    have hj : j < 5 := by
      have := (List.getElem?_eq_some_iff.mp hb).1
      simp at this
      omega
    simp_arith [c1_l_text, wipeD]
    refine w_of I.1 (by omega) (by simp) (by simp) fun e μ2 he H2 O2 => ?_
    refine ⟨⟨e, rfl, ?_⟩, H2.mono (by omega), I.2.trans O2⟩
    simp only [List.mem_cons, List.not_mem_nil, or_false] at he
    rcases he with rfl | rfl | rfl | rfl | rfl | rfl <;> exact Tn.of (by decide)
  · obtain ⟨ss, rfl, hs2⟩ := all_d hy
    have ls2 : ss.length = k := by simpa using hl2
    have I1 : Bx h (m + 6) μ' := I.1.mono (by simp; omega)
    obtain ⟨ls, rfl, hl⟩ := tns_of hs2
    rw [List.length_map] at ls2
    have sl := sum_len (B := 4) (ls := ls) fun l hl3 => by have := (hl l hl3).1; omega
    have dj := dJoin_s (μ := μ') (l := [s]) (ls := ls) (by
      have : ls.length * 4 ≤ 20 := by omega
      simp
      omega)
    have jl := (join_len (s := s) (B := 4) (ls := ls) fun l hl3 => by have := (hl l hl3).1; omega).1
    have ja := join_asc hs (ls := ls) fun l hl3 => (hl l hl3).2
    have j20 : (TL.joinL [s] ls).length ≤ 20 := by
      have : ls.length * 4 ≤ 20 := by omega
      omega
    generalize TL.joinL [s] ls = j at *
    have ds := dStripC_s (μ := μ') (l := j) (by omega)
    have ss2 := strip_sub (l := j)
    generalize stripL j = t at *
    have ht : Tn 20 (.str (T t)) := ⟨t, rfl, by omega, fun c hc => ja c (ss2.2 c hc)⟩
    rw [dList_map (by simp; omega)]
    generalize (ls.map fun l => PyData.str (T l)) = L at *
    simp_arith [r2_l_text, dj, ds, r1_l_text]
    by_cases h0 : t = []
    · subst h0
      simp_arith []
      exact fin _ _ (.inl rfl) (I1.mono (by omega)) I.2
    · simp_arith [h0]
      refine w_of I1 (by omega) (by simp) (by simp) fun e μ2 he H2 O2 => ?_
      simp_arith []
      refine fin _ _ ?_ (H2.mono (by omega)) (I.2.trans O2)
      simp only [List.mem_cons, List.not_mem_nil, or_false] at he
      rcases he with rfl | rfl | rfl | rfl | rfl
      · exact ht.vk (by decide)
      · exact ht.vk (by decide)
      · exact ht.vk (by decide)
      · exact .inl rfl
      · exact (Tn.of (n := 20) (by decide)).vk (by decide)
theorem w_form (H : Bx h m μ) (hm : m + 10 ≤ 10 ^ 9) (fin : ∀ f μ', FormOk f → Bx h (m + 10) μ' → Oth h μ μ' → P (.d f) μ') : Wp (F_l_form [.c h] μ) P := by
  unfold F_l_form B_l_form
  apply Wp_run
  simp_arith []
  refine w_of H (by omega) (by simp) (by simp) fun o μ1 ho H1 O1 => ?_
  have ho2 : ∃ l : List Nat, o = .str (T l) ∧ l ∈ [[121, 109, 100], [100, 109, 121], [109, 100, 121]] := by
    simp only [List.mem_cons, List.not_mem_nil, or_false] at ho
    rcases ho with rfl | rfl | rfl
    · exact ⟨_, rfl, by simp⟩
    · exact ⟨_, rfl, by simp⟩
    · exact ⟨_, rfl, by simp⟩
  obtain ⟨l, rfl, hl⟩ := ho2
  simp_arith [r1_l_form]
  refine w_take H1 (by omega) (by decide) (by decide) fun r μ2 hr H2 O2 => ?_
  obtain ⟨k, ek, hk⟩ : ∃ k : Nat, (1 : Int) + (r : Int) = (k : Int) ∧ 1 ≤ k ∧ k ≤ 4 := ⟨1 + r, by omega, by omega⟩
  simp_arith [ek]
  refine w_of H2 (by omega) (by simp) (by simp) fun f μ3 hf H3 O3 => ?_
  simp_arith []
  refine fin _ _ ?_ (H3.mono (by omega)) ((O1.trans O2).trans O3)
  simp only [List.mem_cons, List.not_mem_nil, or_false] at hf
  rcases hf with rfl | rfl | rfl | rfl
  · exact .whole
  · exact .amount hk.1 hk.2
  · exact .day hl
  · exact .day hl
end
end LW

namespace LW
open PySem PySem.Spec PyProof.Rows L2 DL
section
variable {ρ : DEnv} {μ : Store} {Q : Dv → Store → Prop} {P : List (Dv × Dv) → Store → Prop}
def kCD (Q : Dv → Store → Prop) : List (Dv × Dv) → Store → Prop := fun ps μ => Wp (cDicF ps μ) Q
@[simp ↓] theorem kCD_r {ps : List (Dv × Dv)} : kCD Q ps μ = Wp (cDicF ps μ) Q := id rfl
def kP2 (x y : Dv) (P : List (Dv × Dv) → Store → Prop) : List (Dv × Dv) → Store → Prop := fun ps μ => P ((x, y) :: ps) μ
@[simp ↓] theorem kP2_r {x y : Dv} {ps : List (Dv × Dv)} : kP2 x y P ps μ = P ((x, y) :: ps) μ := id rfl
def kP1 (x : Dv) (r : ML) (ρ : DEnv) (P : List (Dv × Dv) → Store → Prop) : Dv → Store → Prop := fun y μ => Wp (prsM r ρ μ) (kP2 x y P)
@[simp ↓] theorem kP1_r {x y : Dv} {r : ML} : kP1 x r ρ P y μ = Wp (prsM r ρ μ) (kP2 x y P) := id rfl
def kP0 (b : ME) (r : ML) (ρ : DEnv) (P : List (Dv × Dv) → Store → Prop) : Dv → Store → Prop := fun x μ => Wp (b ρ μ) (kP1 x r ρ P)
@[simp ↓] theorem kP0_r {b : ME} {x : Dv} {r : ML} : kP0 b r ρ P x μ = Wp (b ρ μ) (kP1 x r ρ P) := id rfl
@[simp ↓] theorem Wp_prs0 : Wp (prsM [] ρ μ) P = P [] μ := Wp_ok
@[simp ↓] theorem Wp_prs1 {a b : ME} {r : ML} : Wp (prsM ((a, b) :: r) ρ μ) P = Wp (a ρ μ) (kP0 b r ρ P) := by
  show Wp ((a ρ μ).bind fun x μ => (b ρ μ).bind fun y μ => (prsM r ρ μ).bind fun ps μ => .ok ((x, y) :: ps) μ) P = _
  rw [Wp_bind]
  congr 1
  funext x μ1
  rw [Wp_bind, kP0_r]
  congr 1
  funext y μ2
  rw [Wp_bind, kP1_r]
  congr 1
  funext ps μ3
  rw [Wp_ok, kP2_r]
@[simp ↓] theorem Wp_cDic {l : ML} : Wp (cDic l ρ μ) Q = Wp (prsM l ρ μ) (kCD Q) := by
  unfold cDic
  rw [Wp_bind]
  rfl
end
theorem cDicF_1 {w : List Nat} {v : D} {μ : Store} : cDicF [(.d (nD w), .d v)] μ = .ok (.c μ.length) (μ ++ [.dic (dv [(kN w, v)])]) := by
  show (if ([kN w] : List Key).Nodup ∧ 1 ≤ 15 then Out.ok (Dv.c μ.length) (μ ++ [.dic [(kN w, .d v)]]) else .bad) = _
  rw [if_pos ⟨by simp, by decide⟩]
  rfl
theorem cDicF_3 {a b c : List Nat} {x y z : D} {μ : Store} (h1 : a ≠ b) (h2 : a ≠ c) (h3 : b ≠ c) : cDicF [(.d (nD a), .d x), (.d (nD b), .d y), (.d (nD c), .d z)] μ = .ok (.c μ.length) (μ ++ [.dic (dv [(kN a, x), (kN b, y), (kN c, z)])]) := by
  show (if ([kN a, kN b, kN c] : List Key).Nodup ∧ 3 ≤ 15 then Out.ok (Dv.c μ.length) (μ ++ [.dic [(kN a, .d x), (kN b, .d y), (kN c, .d z)]]) else .bad) = _
  rw [if_pos ⟨by
    have g1 : kN a ≠ kN b := fun e => h1 (kN_inj e)
    have g2 : kN a ≠ kN c := fun e => h2 (kN_inj e)
    have g3 : kN b ≠ kN c := fun e => h3 (kN_inj e)
    simp [g1, g2, g3], by decide⟩]
  rfl
theorem dSetD_row {n : Nat} {R : Row} {w : List Nat} {v : D} {μ : Store} (e : μ[n]? = some (.dic (dv R))) (hR : R.length ≤ 1000) : dSetD (.c n) (.d (nD w)) (.d v) μ = some (μ.set n (.dic (dv (putR R (kN w) v)))) := by
  have hb := line_big
  unfold dSetD
  simp only [e, keyOf_nD]
  rw [if_pos (by unfold dv; rw [List.length_map]; omega), putD_dv]
theorem Bx.at_set {h m n : Nat} {c : Cell} {μ : Store} (x : Bx h m μ) (hn : n ≠ h) : Bx h m (μ.set n c) := by
  obtain ⟨a, b, d, e, r⟩ := x
  exact ⟨a, b, d, by rw [List.getElem?_set_ne hn]; exact e, r⟩
theorem Bx.at_app {h m : Nat} {xs μ : Store} (x : Bx h m μ) : Bx h m (μ ++ xs) := by
  obtain ⟨a, b, d, e, r⟩ := x
  exact ⟨a, b, d, by rw [List.getElem?_append_left (lt_of_get e)]; exact e, r⟩
theorem Bx.lt {h m : Nat} {μ : Store} (x : Bx h m μ) : h < μ.length := by
  obtain ⟨a, b, d, e, r⟩ := x
  exact lt_of_get e
theorem Ext.at_set {h n : Nat} {a b : Store} {c : Cell} (x : Ext h a b) (hn : a.length ≤ n) : Ext h a (b.set n c) := ⟨by rw [List.length_set]; exact x.1, fun i hi hh => by rw [List.getElem?_set_ne (by omega)]; exact x.2 i hi hh⟩
section
variable {h m : Nat} {μ : Store} {P : Dv → Store → Prop}
theorem near_lc {n : Nat} {o : List Nat} {R : Row} {y q d : D} {s0 s2 : Option Dv} (e : μ[n]? = some (.dic (dv R))) (hy : valR R (kN [121]) = some y) (hq : valR R (kN [109]) = some q) (hd : valR R (kN [100]) = some d) (ho : o ∈ Ods) :
    ∃ a b c, lcM (gN 4) tYesM c1_l_near_day (wipeD [s0, some (.d (.str (T o))), s2, some (.c n), none] [4]) (o.map fun c => .d (.str (T [c]))) μ = .ok [.d a, .d b, .d c] μ ∧ a ∈ [y, q, d] ∧ b ∈ [y, q, d] ∧ c ∈ [y, q, d] := by
  have el : ∀ {w : List Nat} {v : D}, valR R (kN w) = some v → c1_l_near_day [s0, some (.d (.str (T o))), s2, some (.c n), some (.d (nD w))] μ = .ok (.d v) μ := fun {w v} hv => by
    have g := dDG_row e hv
    unfold c1_l_near_day
    simp -implicitDefEqProofs (disch := first | assumption | rfl | exact cMod_of (by decide) | omega | (simp only [List.length_take, List.length_drop, List.length_append, List.length_cons, List.length_nil, List.length_map, List.length_range, List.length_replicate]; omega) | solve_by_elim) [g]
  simp only [Ods, List.mem_cons, List.not_mem_nil, or_false] at ho
  rcases ho with rfl | rfl | rfl
  · exact ⟨y, q, d, lcM_yes rfl (el hy) (lcM_yes rfl (el hq) (lcM_yes rfl (el hd) rfl)), by simp, by simp, by simp⟩
  · exact ⟨d, q, y, lcM_yes rfl (el hd) (lcM_yes rfl (el hq) (lcM_yes rfl (el hy) rfl)), by simp, by simp, by simp⟩
  · exact ⟨q, d, y, lcM_yes rfl (el hq) (lcM_yes rfl (el hd) (lcM_yes rfl (el hy) rfl)), by simp, by simp, by simp⟩
theorem w_near_day {o : List Nat} (ho : o ∈ Ods) (H : Bx h m μ) (hm : m + 10 ≤ 10 ^ 9) (fin : ∀ v μ', Tn 25 v → Bx h (m + 10) μ' → Ext h μ μ' → P (.d v) μ') : Wp (F_l_near_day [.c h, .d (.str (T o))] μ) P := by
  unfold F_l_near_day B_l_near_day
  apply Wp_run
  simp_arith []
  refine w_of H (by omega) (by simp) (by simp) fun sg μ1 hs H1 O1 => ?_
  have hs2 : ∃ s : Nat, sg = .str (T [s]) ∧ s < 128 := by
    simp only [List.mem_cons, List.not_mem_nil, or_false] at hs
    rcases hs with rfl | rfl | rfl | rfl | rfl <;> exact ⟨_, rfl, by decide⟩
  obtain ⟨s, rfl, hs3⟩ := hs2
  simp_arith [r4_l_near_day]
  refine w_of H1 (by omega) (by simp) (by simp) fun y μ2 hy H2 O2 => ?_
  have hy : Tn 4 y := by
    simp only [List.mem_cons, List.not_mem_nil, or_false] at hy
    rcases hy with rfl | rfl | rfl | rfl | rfl | rfl | rfl <;> exact Tn.of (by decide)
  have E2 : Ext h μ μ2 := (Ext.oth O1).trans (.oth O2)
  have c1 : cDicF [(.d (.str (T [121])), .d y)] μ2 = _ := cDicF_1 (w := [121]) (v := y) (μ := μ2)
  simp_arith [c1]
  have hn : μ2.length ≠ h := by have := H2.lt; omega
  have e3 : (μ2 ++ [Cell.dic (dv [(kN [121], y)])])[μ2.length]? = some (.dic (dv [(kN [121], y)])) := by simp
  have H3 := H2.at_app (xs := [Cell.dic (dv [(kN [121], y)])])
  have E3 := E2.trans (Ext.app h μ2 [Cell.dic (dv [(kN [121], y)])])
  have ln : μ.length ≤ μ2.length := E2.1
  generalize μ2.length = n at *
  generalize hμ3 : (μ2 ++ [Cell.dic (dv [(kN [121], y)])]) = μ3 at *
  simp_arith [r3_l_near_day]
  refine w_of H3 (by omega) (by simp) (by simp) fun q μ4 hq H4 O4 => ?_
  have hq : Tn 4 q := by
    simp only [List.mem_cons, List.not_mem_nil, or_false] at hq
    rcases hq with rfl | rfl | rfl | rfl | rfl | rfl | rfl <;> exact Tn.of (by decide)
  have e4 : μ4[n]? = some (.dic (dv [(kN [121], y)])) := (O4.2 n hn).trans e3
  have sd : dSetD (.c n) (.d (.str (T [109]))) (.d q) μ4 = _ := dSetD_row (w := [109]) (v := q) e4 (by simp)
  simp_arith [sd]
  have e5 : (μ4.set n (.dic (dv (putR [(kN [121], y)] (kN [109]) q))))[n]? = some (.dic (dv (putR [(kN [121], y)] (kN [109]) q))) := by rw [List.getElem?_set_self (lt_of_get e4)]
  have H5 := H4.at_set (c := .dic (dv (putR [(kN [121], y)] (kN [109]) q))) hn
  have E5 := (E3.trans (.oth O4)).at_set (c := .dic (dv (putR [(kN [121], y)] (kN [109]) q))) ln
  generalize (μ4.set n (.dic (dv (putR [(kN [121], y)] (kN [109]) q)))) = μ5 at *
  simp_arith [r2_l_near_day]
  refine w_of H5 (by omega) (by simp) (by simp) fun d μ6 hd H6 O6 => ?_
  have hd : Tn 4 d := by
    simp only [List.mem_cons, List.not_mem_nil, or_false] at hd
    rcases hd with rfl | rfl | rfl | rfl | rfl | rfl | rfl <;> exact Tn.of (by decide)
  have e6 := (O6.2 n hn).trans e5
  have sd2 : dSetD (.c n) (.d (.str (T [100]))) (.d d) μ6 = _ := dSetD_row (w := [100]) (v := d) e6 (Nat.le_trans putR_len (by simp))
  simp_arith [sd2]
  have v1 : valR (putR (putR [(kN [121], y)] (kN [109]) q) (kN [100]) d) (kN [121]) = some y := by
    rw [valR_put, if_neg (fun z => by have := kN_inj z; simp at this), valR_put, if_neg (fun z => by have := kN_inj z; simp at this), valR_cons, if_pos rfl]
  have v2 : valR (putR (putR [(kN [121], y)] (kN [109]) q) (kN [100]) d) (kN [109]) = some q := by
    rw [valR_put, if_neg (fun z => by have := kN_inj z; simp at this), valR_put, if_pos rfl]
  have v3 : valR (putR (putR [(kN [121], y)] (kN [109]) q) (kN [100]) d) (kN [100]) = some d := by
    rw [valR_put, if_pos rfl]
  generalize putR (putR [(kN [121], y)] (kN [109]) q) (kN [100]) d = R at *
  have e7 : (μ6.set n (.dic (dv R)))[n]? = some (.dic (dv R)) := by rw [List.getElem?_set_self (lt_of_get e6)]
  have H7 := H6.at_set (c := .dic (dv R)) hn
  have E7 := (E5.trans (.oth O6)).at_set (c := .dic (dv R)) ln
  generalize (μ6.set n (.dic (dv R))) = μ7 at *
  obtain ⟨a, b, c, lc, ha, hb, hc⟩ := near_lc (s0 := some (.c h)) (s2 := some (.d (.str (T [s])))) e7 v1 v2 v3 ho
  have tx : ∀ x ∈ [y, q, d], Tn 4 x := fun x hx => by
    simp only [List.mem_cons, List.not_mem_nil, or_false] at hx
    rcases hx with rfl | rfl | rfl
    · exact hy
    · exact hq
    · exact hd
  obtain ⟨la, rfl, la1, la2⟩ := tx a ha
  obtain ⟨lb, rfl, lb1, lb2⟩ := tx b hb
  obtain ⟨lc', rfl, lc1, lc2⟩ := tx c hc
  have dj := dJoin_s (μ := μ7) (l := [s]) (ls := [la, lb, lc']) (by simp; omega)
  have jl := (join_len (s := s) (B := 5) (ls := [la, lb, lc']) (by simp; omega)).1
  have ja := join_asc hs3 (ls := [la, lb, lc']) (by
    intro l hl
    simp only [List.mem_cons, List.not_mem_nil, or_false] at hl
    rcases hl with rfl | rfl | rfl
    · exact la2
    · exact lb2
    · exact lc2)
  have ht : Tn 20 (.str (T (TL.joinL [s] [la, lb, lc']))) := ⟨_, rfl, by simp at jl; omega, ja⟩
  simp only [List.map_cons, List.map_nil] at dj
  generalize TL.joinL [s] [la, lb, lc'] = j at *
  simp_arith [r1_l_near_day]
  refine Wp_lcF (by
    have : o.length = 3 := by
      simp only [Ods, List.mem_cons, List.not_mem_nil, or_false] at ho
      rcases ho with rfl | rfl | rfl <;> rfl
    simp [this]) ?_
  refine of_eq lc ?_
  simp_arith [dj]
  refine w_of H7 (by omega) (by simp) (by simp) fun t μ8 ht2 H8 O8 => ?_
  have ht2 : Tn 1 t := by
    simp only [List.mem_cons, List.not_mem_nil, or_false] at ht2
    rcases ht2 with rfl | rfl | rfl | rfl | rfl <;> exact Tn.of (by decide)
  obtain ⟨u, eu, hu⟩ := ht.app (μ := μ8) ht2 (by decide)
  simp_arith [eu]
  exact fin _ _ (hu.up (by decide)) (H8.mono (by omega)) (E7.trans (.oth O8))
theorem w_near {f : D} (hf : FormOk f) (H : Bx h m μ) (hm : m + 20 ≤ 10 ^ 9) (fin : ∀ v μ', Tn 25 v → Bx h (m + 20) μ' → Ext h μ μ' → P (.d v) μ') : Wp (F_l_near [.c h, .d f] μ) P := by
  have num : ∀ (w : List Nat) (r : List D) (z : Bool), f = .tuple (.str (T w) :: r) → ¬ w = [100, 97, 121] → (decide (w = [97, 109, 111, 117, 110, 116]) = z) → Wp (F_l_near [.c h, .d f] μ) P := fun w r z ef hw hz => by
    subst ef
    unfold F_l_near B_l_near
    apply Wp_run
    simp_arith [dIx0, hw, r3_l_near]
    refine w_of H (by omega) (by simp) (by simp) fun fg μ1 h1 H1 O1 => ?_
    have t1 : Tn 10 fg := by
      simp only [List.mem_cons, List.not_mem_nil, or_false] at h1
      rcases h1 with rfl | rfl | rfl | rfl | rfl | rfl | rfl | rfl | rfl <;> exact Tn.of (by decide)
    simp_arith [r2_l_near]
    refine w_of H1 (by omega) (by simp) (by simp) fun la μ2 h2 H2 O2 => ?_
    have t2 : Tn 6 la := by
      simp only [List.mem_cons, List.not_mem_nil, or_false] at h2
      rcases h2 with rfl | rfl | rfl | rfl | rfl | rfl | rfl | rfl | rfl <;> exact Tn.of (by decide)
    simp_arith [r1_l_near]
    refine w_of H2 (by omega) (by simp) (by simp) fun sg μ3 h3 H3 O3 => ?_
    have t3 : Tn 2 sg := by
      simp only [List.mem_cons, List.not_mem_nil, or_false] at h3
      rcases h3 with rfl | rfl | rfl | rfl | rfl <;> exact Tn.of (by decide)
    obtain ⟨u, eu, hu⟩ := t3.app (μ := μ3) t1 (by decide)
    have i1 : dInt [.d (.bool true)] μ3 = .ok (.d (.int 1)) μ3 := rfl
    have i0 : dInt [.d (.bool false)] μ3 = .ok (.d (.int 0)) μ3 := rfl
    obtain ⟨l, rfl, l1, l2⟩ := t2
    have m1 := dMulA_s1 (z := l) (μ := μ3) (by omega)
    have m0 := dMulA_s0 (z := l) (μ := μ3)
    cases z with
    | true =>
      have hz : w = [97, 109, 111, 117, 110, 116] := by simpa using hz
      subst hz
      obtain ⟨x, ex, hx⟩ := hu.app (μ := μ3) (⟨l, rfl, l1, l2⟩ : Tn 6 (.str (T l))) (by decide)
      simp_arith [eu, dIx0, i1, m1, ex]
      exact fin _ _ (hx.up (by decide)) (H3.mono (by omega)) (.oth ((O1.trans O2).trans O3))
    | false =>
      have hz : ¬ w = [97, 109, 111, 117, 110, 116] := by simpa using hz
      obtain ⟨x, ex, hx⟩ := hu.app (μ := μ3) (Tn.of (n := 0) (l := []) (by decide)) (by decide)
      simp_arith [eu, dIx0, hz, i0, m0, ex]
      exact fin _ _ (hx.up (by decide)) (H3.mono (by omega)) (.oth ((O1.trans O2).trans O3))
  cases hf with
  | whole => exact num _ _ false rfl (by decide) (by decide)
  | amount _ _ => exact num _ _ true rfl (by decide) (by decide)
  | @day o ho =>
    unfold F_l_near B_l_near
    apply Wp_run
    simp_arith [dIx0, dIx1]
    refine w_near_day ho H (by omega) fun v μ1 hv H1 E1 => ?_
    simp_arith []
    exact fin _ _ hv (H1.mono (by omega)) E1
end
end LW

namespace LW
open PySem PySem.Spec PyProof.Rows L2 DL
open PySem.Builtin.Str (reprChar)
/-- a repr, sign by sign -/
def sh (d : D) : List Nat := d.shown.cps.toList
theorem app_cps (x y : Str) : (x ++ y).cps.toList = x.cps.toList ++ y.cps.toList := by
  show (x.cps ++ y.cps).toList = _
  simp
theorem sh_none : sh .none = [78, 111, 110, 101] := by unfold sh; simp only [PyData.shown]; decide +kernel
theorem sh_true : sh (.bool true) = [84, 114, 117, 101] := by unfold sh; simp only [PyData.shown]; decide +kernel
theorem sh_false : sh (.bool false) = [70, 97, 108, 115, 101] := by unfold sh; simp only [PyData.shown]; decide +kernel
theorem sh_nat (n : Nat) : sh (.int n) = TL.numL n := by
  unfold sh
  simp only [PyData.shown]
  exact TL.tl_num n
theorem sh_neg (n : Nat) (h : 0 < n) : sh (.int (-(n : Int))) = 45 :: TL.numL n := by
  unfold sh
  simp only [PyData.shown]
  have e2 := TL.tl_num n
  rw [toString_neg n h]
  have : Str.ofString ("-" ++ toString (n : Int)) = T (45 :: TL.numL n) := TL.ext_tl (by
    rw [TL.tl_ofString, String.toList_append, List.map_append]
    have e := TL.tl_num n
    have e2 := TL.tl_ofString (toString (n : Int))
    rw [e] at e2
    rw [← e2]
    rfl)
  rw [this]
  rfl
theorem foldl_flat (q : Nat) : ∀ (l : List Nat) (acc : Array Nat), (l.foldl (fun out c => out ++ (reprChar q c).toArray) acc).toList = acc.toList ++ l.flatMap (reprChar q)
  | [], acc => by simp
  | c :: l, acc => by
    rw [List.foldl_cons, foldl_flat q l]
    simp
theorem sh_str (z : Str) : sh (.str z) = reprQuote z :: (z.cps.toList.flatMap (reprChar (reprQuote z)) ++ [reprQuote z]) := by
  unfold sh
  rw [PyData.shown_str]
  unfold reprText
  rw [Array.toList_push, ← Array.foldl_toList, foldl_flat]
  rfl
def J : List D → List Nat
  | [] => []
  | [d] => sh d
  | d :: e :: r => sh d ++ 44 :: 32 :: J (e :: r)
theorem join_J : ∀ ds : List D, (Str.join ", " (PyData.shownAll ds)).cps.toList = J ds
  | [] => rfl
  | [d] => rfl
  | d :: e :: r => by
    rw [PyData.shownAll, PyData.shownAll]
    show (d.shown ++ ", " ++ Str.join ", " (e.shown :: PyData.shownAll r)).cps.toList = _
    rw [app_cps, app_cps]
    have := join_J (e :: r)
    rw [PyData.shownAll] at this
    rw [this, J]
    show (sh d ++ [44, 32]) ++ J (e :: r) = _
    simp
theorem shownAll_len : ∀ ds : List D, (PyData.shownAll ds).length = ds.length
  | [] => rfl
  | d :: ds => by rw [PyData.shownAll, List.length_cons, List.length_cons, shownAll_len ds]
def endT (ds : List D) : List Nat := if ds.length = 1 then [44, 41] else [41]
theorem sh_tuple (ds : List D) : sh (.tuple ds) = 40 :: (J ds ++ endT ds) := by
  unfold sh
  simp only [PyData.shown, tupleText]
  rw [app_cps, app_cps, join_J, shownAll_len]
  unfold endT
  by_cases h : ds.length = 1
  · simp only [h]
    rfl
  · have : (ds.length == 1) = false := by simpa using h
    rw [this, if_neg h]
    rfl
theorem textFrom_J : ∀ (ds : List D) (k : Nat) (acc : Str), 0 < k → (textFrom k acc (PyData.shownAll ds)).cps.toList = acc.cps.toList ++ (match ds with | [] => [] | d :: r => 44 :: 32 :: J (d :: r))
  | [], k, acc, _ => by simp [PyData.shownAll, textFrom]
  | d :: r, k, acc, hk => by
    rw [PyData.shownAll]
    show (textFrom (k + 1) (acc ++ (if k > 0 then ", " else "" : String) ++ d.shown) (PyData.shownAll r)).cps.toList = _
    rw [textFrom_J r (k + 1) _ (Nat.succ_pos _), app_cps, app_cps, if_pos hk]
    cases r with
    | nil => show (acc.cps.toList ++ [44, 32]) ++ sh d ++ [] = _; simp [J]
    | cons e r => show (acc.cps.toList ++ [44, 32]) ++ sh d ++ _ = _; simp [J]
theorem sh_list (ds : List D) : sh (.list ds) = 91 :: (J ds ++ [93]) := by
  unfold sh
  simp only [PyData.shown, listText]
  rw [app_cps]
  cases ds with
  | nil => rfl
  | cons d r =>
    rw [PyData.shownAll]
    show (textFrom 1 ((("[" : Str) ++ (if (0 : Nat) > 0 then ", " else "" : String)) ++ d.shown) (PyData.shownAll r)).cps.toList ++ _ = _
    rw [textFrom_J r 1 _ (by decide), app_cps, app_cps]
    cases r with
    | nil => show ([91] ++ [] ++ sh d ++ []) ++ [93] = _; simp [J]
    | cons e r => show ([91] ++ [] ++ sh d ++ _) ++ [93] = _; simp [J]
theorem quote_c (z : Str) : reprQuote z = 34 ∨ reprQuote z = 39 := by
  unfold reprQuote
  split
  · exact .inl rfl
  · exact .inr rfl
theorem int_cases (i : Int) : (∃ n : Nat, i = n) ∨ ∃ n : Nat, 0 < n ∧ i = -(n : Int) := by
  rcases Int.le_total 0 i with h | h
  · exact .inl ⟨i.toNat, (Int.toNat_of_nonneg h).symm⟩
  · by_cases z : i = 0
    · exact .inl ⟨0, z⟩
    · exact .inr ⟨(-i).toNat, by omega, by omega⟩

theorem rc_ok : ∀ c < 128, (∀ x ∈ reprChar 34 c, x < 1114112) ∧ (∀ x ∈ reprChar 39 c, x < 1114112) := by decide +kernel
mutual
def ascD : D → Bool
  | .none => true
  | .bool _ => true
  | .int _ => true
  | .str z => z.cps.toList.all fun c => decide (c < 128)
  | .list ds => ascDs ds
  | .tuple ds => ascDs ds
  | .dict _ => false
def ascDs : List D → Bool
  | [] => true
  | d :: ds => ascD d && ascDs ds
end
theorem num_ok (n : Nat) : ∀ c ∈ TL.numL n, c < 1114112 := fun c hc => by
  have := TL.numL_digits n c hc
  have h2 : 48 ≤ c ∧ c ≤ 57 := this
  omega
mutual
theorem sh_ok : ∀ d : D, ascD d = true → ∀ c ∈ sh d, c < 1114112
  | .none, _, c, hc => by rw [sh_none] at hc; revert c; decide
  | .bool true, _, c, hc => by rw [sh_true] at hc; revert c; decide
  | .bool false, _, c, hc => by rw [sh_false] at hc; revert c; decide
  | .int i, _, c, hc => by
    rcases int_cases i with ⟨n, rfl⟩ | ⟨n, h, rfl⟩
    · rw [sh_nat] at hc
      exact num_ok n c hc
    · rw [sh_neg n h] at hc
      rcases List.mem_cons.mp hc with rfl | hc
      · decide
      · exact num_ok n c hc
  | .str z, h, c, hc => by
    have h : (z.cps.toList.all fun c => decide (c < 128)) = true := by rw [ascD] at h; exact h
    rw [sh_str] at hc
    have hq : reprQuote z = 34 ∨ reprQuote z = 39 := quote_c z
    rcases List.mem_cons.mp hc with rfl | hc
    · rcases hq with q | q <;> rw [q] <;> decide
    · rcases List.mem_append.mp hc with hc | hc
      · obtain ⟨x, hx, hc⟩ := List.mem_flatMap.mp hc
        have hx2 := of_decide_eq_true (List.all_eq_true.mp h x hx)
        rcases hq with q | q
        · rw [q] at hc; exact (rc_ok x hx2).1 c hc
        · rw [q] at hc; exact (rc_ok x hx2).2 c hc
      · rw [List.mem_singleton.mp hc]
        rcases hq with q | q <;> rw [q] <;> decide
  | .list ds, h, c, hc => by
    have h : ascDs ds = true := by rw [ascD] at h; exact h
    rw [sh_list] at hc
    rcases List.mem_cons.mp hc with rfl | hc
    · decide
    · rcases List.mem_append.mp hc with hc | hc
      · exact J_ok ds h c hc
      · rw [List.mem_singleton.mp hc]; decide
  | .tuple ds, h, c, hc => by
    have h : ascDs ds = true := by rw [ascD] at h; exact h
    rw [sh_tuple] at hc
    rcases List.mem_cons.mp hc with rfl | hc
    · decide
    · rcases List.mem_append.mp hc with hc | hc
      · exact J_ok ds h c hc
      · unfold endT at hc
        split at hc
        · simp only [List.mem_cons, List.not_mem_nil, or_false] at hc
          rcases hc with rfl | rfl <;> decide
        · rw [List.mem_singleton.mp hc]; decide
  | .dict ds, h, c, hc => by rw [ascD] at h; cases h
theorem J_ok : ∀ ds : List D, ascDs ds = true → ∀ c ∈ J ds, c < 1114112
  | [], _, c, hc => by cases hc
  | [d], h, c, hc => by
    rw [ascDs, Bool.and_eq_true] at h
    exact sh_ok d h.1 c hc
  | d :: e :: r, h, c, hc => by
    rw [ascDs, Bool.and_eq_true] at h
    have hc : c ∈ sh d ++ 44 :: 32 :: J (e :: r) := hc
    rcases List.mem_append.mp hc with hc | hc
    · exact sh_ok d h.1 c hc
    · rcases List.mem_cons.mp hc with rfl | hc
      · decide
      · rcases List.mem_cons.mp hc with rfl | hc
        · decide
        · exact J_ok (e :: r) h.2 c hc
end
theorem strOk_shown {d : D} (h : ascD d = true) : PyData.strOk d.shown = true := by
  have e := sh_ok d h
  unfold sh at e
  unfold PyData.strOk
  rw [← Array.all_toList, List.all_eq_true]
  intro c hc
  exact decide_eq_true (e c hc)
mutual
theorem eqv_self : ∀ d : D, PyData.canLay0 d = true → PyData.eqv d d = true
  | .none, _ => rfl
  | .bool b, _ => by simp [PyData.eqv]
  | .int i, _ => by simp [PyData.eqv]
  | .str x, _ => by simp [PyData.eqv]
  | .list xs, h => by rw [PyData.eqv]; rw [PyData.canLay0] at h; exact eqvAll_self xs h
  | .tuple xs, h => by rw [PyData.eqv]; rw [PyData.canLay0] at h; exact eqvAll_self xs h
  | .dict _, h => by simp [PyData.canLay0] at h
theorem eqvAll_self : ∀ xs : List D, PyData.canLayAll0 xs = true → PyData.eqvAll xs xs = true
  | [], _ => rfl
  | x :: xs, h => by
    rw [PyData.canLayAll0, Bool.and_eq_true] at h
    rw [PyData.eqvAll, eqv_self x h.1, eqvAll_self xs h.2]
    rfl
end
structure Sw (k n : Nat) (d : D) : Prop where
  sh : d.showable = true
  dp : d.depth ≤ k
  ln : d.shown.length ≤ n
theorem Sw.up {k k' n n' : Nat} {d : D} (h : Sw k n d) (hk : k ≤ k') (hn : n ≤ n') : Sw k' n' d := ⟨h.sh, Nat.le_trans h.dp hk, Nat.le_trans h.ln hn⟩
theorem Sw.of {k c : Nat} {d : D} (h : Sm k c d) : Sw k c d := ⟨h.sh, h.dp, h.ln⟩
theorem Sw.repr {d : D} (h : Sw 40 16000000 d) {μ : Store} : dReprG [.d d] μ = .ok (.d (.str d.shown)) μ := by
  have hb := line_big
  show (if (d.showable && decide (d.depth ≤ 40) && decide (d.shown.length ≤ sizeLine)) = true then Out.ok (Dv.d (.str d.shown)) μ else .bad) = _
  rw [if_pos]
  have := h.ln
  rw [h.sh, decide_eq_true h.dp, decide_eq_true (show d.shown.length ≤ sizeLine by omega)]
  rfl
theorem sw_kv {k n : Nat} : ∀ {ps : List (D × D)}, (∀ p ∈ ps, Sw k n p.1 ∧ Sw k n p.2) → PyData.showableKv ps = true ∧ PyData.depthKv ps ≤ k ∧ ((PyData.shownKv ps).map (·.length)).sum + 2 * (PyData.shownKv ps).length ≤ ps.length * (2 * n + 4)
  | [], _ => ⟨rfl, Nat.zero_le _, by simp [PyData.shownKv]⟩
  | p :: ps, h => by
    obtain ⟨a, b, c⟩ := sw_kv (ps := ps) fun q hq => h q (List.mem_cons_of_mem _ hq)
    obtain ⟨h1, h2⟩ := h p List.mem_cons_self
    obtain ⟨x, y⟩ := p
    have g1 := h1.ln
    have g2 := h2.ln
    refine ⟨?_, ?_, ?_⟩
    · rw [PyData.showableKv, h1.sh, h2.sh, a]; rfl
    · rw [PyData.depthKv]
      have := h1.dp
      have := h2.dp
      simp only at *
      omega
    · rw [PyData.shownKv]
      simp only [List.map_cons, List.sum_cons, List.length_cons]
      have e3 : (Str.ofString ": ").length = 2 := by decide +kernel
      rw [str_len_app, str_len_app]
      have e3' : Str.length (": " : Str) = 2 := e3
      simp only at g1 g2
      have e : (ps.length + 1) * (2 * n + 4) = ps.length * (2 * n + 4) + (2 * n + 4) := Nat.succ_mul _ _
      rw [e, e3']
      omega
theorem Sw.dic {k n m : Nat} {R : Row} (h : ∀ p ∈ R, Sw k n (kD p.1) ∧ Sw k n p.2) (hl : R.length ≤ m) : Sw (k + 1) (m * (2 * n + 4) + 3) (dicOf R) := by
  obtain ⟨a, b, c⟩ := sw_kv (ps := R.map fun p => (kD p.1, p.2)) (k := k) (n := n) fun q hq => by
    obtain ⟨p, hp, rfl⟩ := List.mem_map.mp hq
    exact h p hp
  rw [List.length_map] at c
  have mm : R.length * (2 * n + 4) ≤ m * (2 * n + 4) := Nat.mul_le_mul_right _ hl
  refine ⟨?_, ?_, ?_⟩
  · show PyData.showable (.dict _) = true
    rw [PyData.showable]; exact a
  · show PyData.depth (.dict _) ≤ _
    rw [PyData.depth]; omega
  · show (PyData.shown (.dict _)).length ≤ _
    rw [PyData.shown]
    have := dictText_len_le (PyData.shownKv (R.map fun p => (kD p.1, p.2)))
    omega
theorem sw_all {k c : Nat} : ∀ {ds : List D}, (∀ d ∈ ds, Sw k c d) → PyData.showableAll ds = true ∧ PyData.depthAll ds ≤ k ∧ piled (PyData.shownAll ds) ≤ ds.length * (c + 2)
  | [], _ => ⟨rfl, Nat.zero_le _, Nat.zero_le _⟩
  | d :: ds, h => by
    obtain ⟨a1, a2, a3⟩ := sw_all (ds := ds) fun e he => h e (List.mem_cons_of_mem _ he)
    obtain ⟨b1, b2, b3⟩ := h d List.mem_cons_self
    refine ⟨?_, ?_, ?_⟩
    · simp [PyData.showableAll, a1, b1]
    · simp only [PyData.depthAll]; omega
    · rw [PyData.shownAll, piled_cons, List.length_cons, Nat.succ_mul]; omega
theorem Sw.tup {k c n : Nat} {ds : List D} (h : ∀ d ∈ ds, Sw k c d) (hn : ds.length ≤ n) : Sw (k + 1) (n * (c + 2) + 3) (.tuple ds) := by
  obtain ⟨a1, a2, a3⟩ := sw_all h
  have m : ds.length * (c + 2) ≤ n * (c + 2) := Nat.mul_le_mul_right _ hn
  refine ⟨by simpa [PyData.showable] using a1, by simp only [PyData.depth]; omega, ?_⟩
  have := tupleText_le (PyData.shownAll ds)
  rw [PyData.shown]
  omega
/-- a worth that a step may write -/
def Vb (d : D) : Prop := d = .none ∨ (∃ l : List Nat, d = .str (T l) ∧ l.length ≤ 200 ∧ ∀ c ∈ l, c < 128) ∨ ∃ i : Int, d = .int i ∧ i.natAbs < 10 ^ 13
theorem Vk.vb {B : Nat} {t : Bool} {d : D} (h : Vk B t d) (hB : B ≤ 200) : Vb d := by
  rcases h with h | h
  · exact .inl h
  · cases t with
    | true =>
      obtain ⟨l, e, h1, h2⟩ := h
      exact .inr (.inl ⟨l, e, by omega, h2⟩)
    | false => exact .inr (.inr h)
theorem Tn.vb {n : Nat} {d : D} (h : Tn n d) (hn : n ≤ 200) : Vb d := by
  obtain ⟨l, e, h1, h2⟩ := h
  exact .inr (.inl ⟨l, e, by omega, h2⟩)
theorem Vb.sw {d : D} (h : Vb d) : Sw 0 2002 d := by
  rcases h with rfl | ⟨l, rfl, h1, h2⟩ | ⟨i, rfl, h1⟩
  · exact (Sw.of Sm.none).up (Nat.le_refl _) (by decide)
  · exact (Sw.of (Sm.str fun c hc => Nat.lt_trans (h2 c hc) (by decide))).up (Nat.le_refl _) (by omega)
  · exact (Sw.of (Sm.int (by omega))).up (Nat.le_refl _) (by decide)
theorem Vb.asc {d : D} (h : Vb d) : ascD d = true := by
  rcases h with rfl | ⟨l, rfl, h1, h2⟩ | ⟨i, rfl, h1⟩
  · rfl
  · show (l.toArray.toList.all fun c => decide (c < 128)) = true
    rw [List.all_eq_true]
    intro c hc
    simpa using h2 c (by simpa using hc)
  · rfl
end LW

namespace LW
open PySem PySem.Spec PyProof.Rows L2 DL
def MOk (M : Row) : Prop := (M.map Prod.fst).Nodup ∧ (∃ ws : List (List Nat), M.map Prod.fst = ws.map kN ∧ ∀ w ∈ ws, ∀ c ∈ w, c < 128) ∧ M.length ≤ 10 ∧ ∀ p ∈ M, Vb p.2
theorem MOk.nil : MOk [] := ⟨by simp, ⟨[], rfl, by simp⟩, by simp, by simp⟩
theorem MOk.one {w : List Nat} {u : D} (hw : ∀ c ∈ w, c < 128) (hu : Vb u) : MOk [(kN w, u)] := ⟨by simp, ⟨[w], rfl, by simpa using hw⟩, by simp, by simpa using hu⟩
theorem keys_of : ∀ {M : Row} {ws : List (List Nat)}, M.map Prod.fst = ws.map kN → keysS (M.map fun p => (kD p.1, p.2)) = some (ws.map T)
  | [], [], _ => rfl
  | [], w :: ws, h => by simp at h
  | p :: M, [], h => by simp at h
  | p :: M, w :: ws, h => by
    rw [List.map_cons, List.map_cons] at h
    injection h with h1 h2
    obtain ⟨k, v⟩ := p
    simp only at h1
    subst h1
    have ih := keys_of h2
    rw [List.map_cons]
    show (keysS (M.map fun p => (kD p.1, p.2))).map (T w :: ·) = _
    rw [ih]
    rfl
theorem val_of {k : Key} : ∀ {M : Row}, k ∈ M.map Prod.fst → ∃ v, valR M k = some v
  | [], h => by cases h
  | p :: M, h => by
    rw [valR_cons]
    by_cases e : p.1 = k
    · exact ⟨p.2, if_pos e⟩
    · rw [if_neg e]
      rw [List.map_cons] at h
      rcases List.mem_cons.mp h with h | h
      · exact absurd h.symm e
      · exact val_of h
def tellF (M : Row) (y : Str) : D := .tuple [.str y, .str ((valR M (.inr y)).getD .none).shown]
theorem dEq_bb {b : Bool} {μ : Store} : dEq false (.d (.bool b)) (.d (.bool b)) μ = .ok (.d (.bool true)) μ := by
  rw [dEq_dd rfl]
  cases b <;> rfl
theorem told_shape {M : Row} : ∀ {S : List Str}, (∀ y ∈ S, (PyData.str y).canLay0 = true ∧ (PyData.str ((valR M (.inr y)).getD .none).shown).canLay0 = true) → PyData.canLayAll0 (S.map (tellF M)) = true ∧ PyData.depthAll (S.map (tellF M)) ≤ 1
  | [], _ => ⟨rfl, Nat.zero_le _⟩
  | y :: S, h => by
    obtain ⟨a, b⟩ := told_shape (S := S) fun z hz => h z (List.mem_cons_of_mem _ hz)
    obtain ⟨h1, h2⟩ := h y List.mem_cons_self
    rw [List.map_cons]
    refine ⟨?_, ?_⟩
    · rw [PyData.canLayAll0, a, tellF, PyData.canLay0, PyData.canLayAll0, PyData.canLayAll0, PyData.canLayAll0, h1, h2]
      rfl
    · rw [PyData.depthAll, tellF, PyData.depth, PyData.depthAll, PyData.depthAll, PyData.depthAll]
      have e1 : (PyData.str y).depth = 0 := rfl
      have e2 : (PyData.str ((valR M (.inr y)).getD .none).shown).depth = 0 := rfl
      rw [e1, e2]
      omega
theorem w_told {M : Row} {mk : Bool} {μ : Store} (h : MOk M) : F_l_told_right [.d (.tuple [dicOf M, .bool mk]), .d (.tuple [dicOf M, .bool mk])] μ = .ok (.d (.bool true)) μ := by
  obtain ⟨nd, ⟨ws, ew, hw⟩, hl, hv⟩ := h
  have lw : ws.length = M.length := by have := congrArg List.length ew; simpa using this.symm
  have i1 : dIsi "tuple" (.d (.tuple [dicOf M, .bool mk])) μ = .ok (.d (.bool true)) μ := rfl
  have i2 : dIsi "dict" (.d (dicOf M)) μ = .ok (.d (.bool true)) μ := rfl
  have i3 : dIsi "bool" (.d (.bool mk)) μ = .ok (.d (.bool true)) μ := rfl
  have mem : ∀ y ∈ srtS (ws.map T), ∃ w ∈ ws, y = T w := fun y hy => by
    obtain ⟨w, h1, h2⟩ := List.mem_map.mp ((srtS_perm _).mem_iff.mp hy)
    exact ⟨w, h1, h2.symm⟩
  have ls : (srtS (ws.map T)).length ≤ 10 := by
    rw [(srtS_perm _).length_eq, List.length_map]
    omega
  have so : dSortDk [.d (dicOf M)] μ = .ok (.d (.list ((srtS (ws.map T)).map PyData.str))) μ := by
    show (match keysS (M.map fun p => (kD p.1, p.2)) with
      | some ks => if ks.length < 64 then dList (((srtS ks).map PyData.str).map .d) μ else .bad
      | none => .bad) = _
    rw [keys_of ew]
    show (if (ws.map T).length < 64 then dList (((srtS (ws.map T)).map PyData.str).map .d) μ else .bad) = _
    rw [if_pos (by rw [List.length_map]; omega), dList_map (by rw [List.length_map]; omega)]
  have vals : ∀ w ∈ ws, ∃ v, valR M (kN w) = some v ∧ Vb v := fun w h1 => by
    obtain ⟨v, e⟩ := val_of (M := M) (k := kN w) (by rw [ew]; exact List.mem_map.mpr ⟨w, h1, rfl⟩)
    obtain ⟨p, hp, e2⟩ := valR_mem e
    exact ⟨v, e, e2 ▸ hv p hp⟩
  generalize hS : srtS (ws.map T) = S at *
  have el1 : ∀ (s2 : Option Dv), ∀ b ∈ (S.map PyData.str).map Dv.d, ∃ ρ', gN 3 b (wipeD [some (.d (.tuple [dicOf M, .bool mk])), some (.d (.tuple [dicOf M, .bool mk])), s2, none] [3]) μ = .ok ρ' μ ∧ c1_l_told_right ρ' μ = .ok ((fun b => match b with | .d (.str y) => Dv.d (tellF M y) | b => b) b) μ ∧ c2_l_told_right ρ' μ = .ok ((fun b => match b with | .d (.str y) => Dv.d (tellF M y) | b => b) b) μ := fun s2 b hb => by
    obtain ⟨d, hd, rfl⟩ := List.mem_map.mp hb
    obtain ⟨y, hy, rfl⟩ := List.mem_map.mp hd
    obtain ⟨w, h1, rfl⟩ := mem y hy
    obtain ⟨v, ev, bv⟩ := vals w h1
    have g : dDG (.d (dicOf M)) (.d (.str (T w))) μ = .ok (.d v) μ := dDG_d ev
    have r := (bv.sw.up (k' := 40) (n' := 16000000) (by decide) (by decide)).repr (μ := μ)
    have et : tellF M (T w) = .tuple [.str (T w), .str v.shown] := by
      unfold tellF
      have : valR M (.inr (T w)) = some v := ev
      rw [this]
      rfl
    refine ⟨_, rfl, ?_, ?_⟩
    · show _ = Out.ok (Dv.d (tellF M (T w))) μ
      rw [et]
      apply eq_of
      unfold c1_l_told_right
      generalize v.shown = vs at *
      simp_arith [wipeD, dIx0, dIx1, g, r]
      try first | rfl | exact ⟨rfl, rfl⟩
    · show _ = Out.ok (Dv.d (tellF M (T w))) μ
      rw [et]
      apply eq_of
      unfold c2_l_told_right
      generalize v.shown = vs at *
      simp_arith [wipeD, dIx0, dIx1, g, r]
      try first | rfl | exact ⟨rfl, rfl⟩
  have ex : ((S.map PyData.str).map Dv.d).map (fun b => match b with | .d (.str y) => Dv.d (tellF M y) | b => b) = (S.map (tellF M)).map .d := by
    rw [List.map_map, List.map_map, List.map_map]
    rfl
  have lc1 : ∀ s2, lcM (gN 3) tYesM c1_l_told_right (wipeD [some (.d (.tuple [dicOf M, .bool mk])), some (.d (.tuple [dicOf M, .bool mk])), s2, none] [3]) ((S.map PyData.str).map .d) μ = .ok ((S.map (tellF M)).map .d) μ := fun s2 => by
    rw [← ex]
    refine lcM_map fun b hb => ?_
    obtain ⟨ρ', a, b1, _⟩ := el1 s2 b hb
    exact ⟨ρ', a, b1⟩
  have lc2 : ∀ s2, lcM (gN 3) tYesM c2_l_told_right (wipeD [some (.d (.tuple [dicOf M, .bool mk])), some (.d (.tuple [dicOf M, .bool mk])), s2, none] [3]) ((S.map PyData.str).map .d) μ = .ok ((S.map (tellF M)).map .d) μ := fun s2 => by
    rw [← ex]
    refine lcM_map fun b hb => ?_
    obtain ⟨ρ', a, _, b1⟩ := el1 s2 b hb
    exact ⟨ρ', a, b1⟩
  have shp : SeqAt.shaped (.list (S.map (tellF M))) = true ∧ PyData.eqv (.list (S.map (tellF M))) (.list (S.map (tellF M))) = true := by
    obtain ⟨a, b⟩ := told_shape (M := M) (S := S) fun y hy => by
      obtain ⟨w, h1, rfl⟩ := mem y hy
      obtain ⟨v, ev, bv⟩ := vals w h1
      have : valR M (.inr (T w)) = some v := ev
      rw [this]
      exact ⟨tx_lay (hw w h1), strOk_shown bv.asc⟩
    refine ⟨?_, ?_⟩
    · unfold SeqAt.shaped
      rw [PyData.canLay0, PyData.depth, a, decide_eq_true (show PyData.depthAll (S.map (tellF M)) + 1 ≤ 64 by omega)]
      rfl
    · exact eqv_self _ (by rw [PyData.canLay0]; exact a)
  have eqL : dEq false (.d (.list (S.map (tellF M)))) (.d (.list (S.map (tellF M)))) μ = .ok (.d (.bool true)) μ := by
    rw [dEq_dd (by rw [shp.1]; simp), shp.2]
    rfl
  have dl := dList_map (μ := μ) (ds := S.map (tellF M)) (by rw [List.length_map]; omega)
  have lS : ((S.map PyData.str).map Dv.d).length ≤ 16000000 := by simp; omega
  generalize S.map (tellF M) = L at *
  generalize (S.map PyData.str) = K at *
  generalize dicOf M = d at *
  have eb := dEq_bb (b := mk) (μ := μ)
  apply eq_of
  unfold F_l_told_right B_l_told_right
  apply Wp_run
  simp_arith [i1, dIx0, dIx1, i2, i3, r2_l_told_right, so]
  refine Wp_lcF lS ?_
  refine of_eq (lc1 _) ?_
  rw [dl]
  simp_arith [r1_l_told_right, dIx0, dIx1, so]
  refine Wp_lcF lS ?_
  refine of_eq (lc2 _) ?_
  rw [dl]
  simp_arith [eqL, dIx1, eb]
end LW

namespace LW
open PySem PySem.Spec PyProof.Rows L2 DL
theorem dToTup_l {ds : List D} {μ : Store} (h : ds.length ≤ 16000000) : dToTup (.d (.list ds)) μ = .ok (.d (.tuple ds)) μ := by
  show dTup (ds.map .d) μ = _
  exact dTup_l h
theorem in_fl {v : D} {ws : List D} {μ : Store} (hv : v = .none ∨ ∃ z, v = .str z) (fl : ∀ w ∈ ws, flatD w = true) : dIn true (.d v) (.d (.tuple ws)) μ = .ok (.d (.bool (!(ws.any fun y => PyData.eqv y v)))) μ := by
  have go : (match allFlat (ws.map Dv.d) with
      | some (es : List D) => (if flatD v = true then Out.ok (Dv.d (PyData.bool (if true = true then !(es.any fun y => PyData.eqv y v) else es.any fun y => PyData.eqv y v))) μ else Out.bad)
      | none => .bad) = .ok (.d (.bool (!(ws.any fun y => PyData.eqv y v)))) μ := by
    rw [allFlat_map fl]
    have : flatD v = true := by
      rcases hv with rfl | ⟨z, rfl⟩ <;> rfl
    show (if flatD v = true then _ else _) = _
    rw [if_pos this, if_pos rfl]
  rcases hv with rfl | ⟨z, rfl⟩ <;> exact go
theorem rep_1 {x : D} {μ : Store} : cRepF [.d x] (.d (.int 1)) μ = .ok (.c μ.length) (μ ++ [.lst ([x].map .d)]) := by
  have hb := line_big
  show (if -(2 ^ 63) ≤ (1 : Int) ∧ (1 : Int) < 2 ^ 63 ∧ 1 ≤ sizeLine then cList (List.replicate (1 : Int).toNat [Dv.d x]).flatten μ else .bad) = _
  rw [if_pos ⟨by decide, by decide, by omega⟩]
  exact cList_c (by simp)
theorem rep_0 {x : D} {μ : Store} : cRepF [.d x] (.d (.int 0)) μ = .ok (.c μ.length) (μ ++ [.lst (([] : List D).map .d)]) := by
  have hb := line_big
  show (if -(2 ^ 63) ≤ (0 : Int) ∧ (0 : Int) < 2 ^ 63 ∧ 1 ≤ sizeLine then cList (List.replicate (0 : Int).toNat [Dv.d x]).flatten μ else .bad) = _
  rw [if_pos ⟨by decide, by decide, by omega⟩]
  exact cList_c (by simp)
theorem frz_l {n : Nat} {ds : List D} {μ : Store} (e : μ[n]? = some (.lst (ds.map .d))) : dFrzA (.c n) μ = .ok (.d (.list ds)) (μ.set n .dead) := by
  unfold dFrzA
  simp only [e, allD_map]
theorem frz_d {n : Nat} {R : Row} {μ : Store} (e : μ[n]? = some (.dic (dv R))) : dFrzA (.c n) μ = .ok (.d (dicOf R)) (μ.set n .dead) := by
  unfold dFrzA
  have : allKD (dv R) = some R := allKD_map R
  simp only [e, this]
theorem sort_ps {ps : List (List Nat × D)} {μ : Store} (hl : ps.length ≤ 1000) (t0 : μ[0]? = some (.tab 9 lq_l_spelled)) : ∃ qs : List (List Nat × D), qs.Perm ps ∧ dSortL 9 lq_l_spelled (.d (.list (ps.map splD))) μ = .ok (.d (.list (qs.map splD))) μ := by
  refine ⟨ps.mergeSort (PySem.W.dataLe false fun p => fstD (splD p)), List.mergeSort_perm _ _, ?_⟩
  have e : srtL (ps.map splD) = (ps.mergeSort (PySem.W.dataLe false fun p => fstD (splD p))).map splD := (PySem.W.sort_maps splD fun _ _ _ _ => rfl).symm
  have it : items (.d (.list (ps.map splD))) μ = some ((ps.map splD).map .d) := rfl
  have af : (ps.map splD).all isFst = true := by
    rw [List.all_eq_true]
    intro d hd
    obtain ⟨p, _, rfl⟩ := List.mem_map.mp hd
    rfl
  unfold dSortL
  simp only [t0, it, allD_map]
  rw [if_pos ⟨trivial, trivial⟩, if_pos af, e]
  exact dList_map (by rw [List.length_map, (List.mergeSort_perm _ _).length_eq]; omega)
theorem SpOk.sub {ps qs : List (List Nat × D)} (h : SpOk ps) (p : qs.Perm ps) (r : Nat) : SpOk (qs.drop r) := by
  obtain ⟨h1, h2, h3⟩ := h
  refine ⟨?_, ?_, fun x hx => h3 x (p.mem_iff.mp (List.mem_of_mem_drop hx))⟩
  · have n : (qs.map Prod.fst).Nodup := (p.map Prod.fst).nodup_iff.mpr h1
    rw [List.map_drop]
    exact List.Sublist.nodup (List.drop_sublist _ _) n
  · rw [List.length_drop, p.length_eq]; omega
section
variable {h m : Nat} {μ : Store} {P : Dv → Store → Prop}
theorem w_spelled {nm : D} {col : List Nat} {v : D} (hv : Vk 30 true v) (H : Bx h m μ) (hm : m + 10 ≤ 10 ^ 9) (t0 : μ[0]? = some (.tab 9 lq_l_spelled)) (h0 : h ≠ 0) (fin : ∀ ps μ', SpOk ps → Bx h (m + 10) μ' → Ext h μ μ' → P (.d (.tuple [nm, .str (T [115, 112, 101, 108, 108]), nD col, .tuple (ps.map splD)])) μ') : Wp (F_l_spelled [.c h, .d nm, .d (nD col), .d v] μ) P := by
  have hv2 : v = .none ∨ ∃ z, v = .str z := by
    rcases hv with h | ⟨l, e, _⟩
    · exact .inl h
    · exact .inr ⟨_, e⟩
  have lm : 0 < μ.length := lt_of_get t0
  have inn := in_fl (μ := μ) (v := v) (ws := [.none, .str (T [97]), .str (T [98]), .str (T [120])]) hv2 (by simp [flatD])
  have b3 : SpOk [([97], .str (T [98])), ([98], .str (T [99])), ([120], .none)] := by
    refine ⟨by decide, by decide, fun p hp => ?_⟩
    simp only [List.mem_cons, List.not_mem_nil, or_false] at hp
    rcases hp with rfl | rfl | rfl
    · exact ⟨by decide, by decide, .inr (Sc.of (by decide))⟩
    · exact ⟨by decide, by decide, .inr (Sc.of (by decide))⟩
    · exact ⟨by decide, by decide, .inl rfl⟩
  have i1 : dInt [.d (.bool true)] μ = .ok (.d (.int 1)) μ := rfl
  have i0 : dInt [.d (.bool false)] μ = .ok (.d (.int 0)) μ := rfl
  -- the end, with all pairs
  have last : ∀ (ps : List (List Nat × D)) (μ1 : Store), SpOk ps → Bx h m μ1 → Ext h μ μ1 → Wp (r1_l_spelled [some (.c h), some (.d nm), some (.d (nD col)), some (.d v), some (.d (.list (ps.map splD)))] μ1) (finP P) := fun ps μ1 hp H1 E1 => by
    have t1 := E1.at (Ne.symm h0) t0
    obtain ⟨qs, pq, so⟩ := sort_ps (ps := ps) (by have := hp.2.1; omega) t1
    have lq : qs.length ≤ 4 := by rw [pq.length_eq]; exact hp.2.1
    simp_arith [r1_l_spelled, so]
    refine w_take H1 (by omega) (by decide) (by decide) fun r μ2 hr H2 O2 => ?_
    have ec : cutL (qs.map splD) (some (r : Int)) none = (qs.map splD).drop r := by rw [cut_from _ (by omega), Int.toNat_natCast]
    have dt := dToTup_l (μ := μ2) (ds := (qs.map splD).drop r) (by simp; omega)
    simp_arith [dSl_l, ec, dt]
    rw [← List.map_drop]
    exact fin _ _ (hp.sub pq r) (H2.mono (by omega)) (E1.trans (.oth O2))
  -- nothing more
  have no : (!([PyData.none, .str (T [97]), .str (T [98]), .str (T [120])].any fun y => PyData.eqv y v)) = false → Wp (F_l_spelled [.c h, .d nm, .d (nD col), .d v] μ) P := fun k => by
    rw [k] at inn
    have e1 : (μ ++ [Cell.lst (([] : List D).map .d)])[μ.length]? = some (.lst (([] : List D).map .d)) := by simp
    have fz := frz_l e1
    have rp := fun x => rep_0 (x := x) (μ := μ)
    have H1 := (H.at_app (xs := [Cell.lst (([] : List D).map .d)])).at_set (n := μ.length) (c := .dead) (by have := H.lt; omega)
    have E1 := (Ext.app h μ [Cell.lst (([] : List D).map .d)]).at_set (n := μ.length) (c := .dead) (Nat.le_refl _)
    generalize ((μ ++ [Cell.lst (([] : List D).map .d)]).set μ.length .dead) = μ1 at *
    generalize (μ ++ [Cell.lst (([] : List D).map .d)]) = μ0 at *
    have da : dAdd (.d (.list [.tuple [.str (T [97]), .str (T [98])], .tuple [.str (T [98]), .str (T [99])], .tuple [.str (T [120]), .none]])) (.d (.list [])) μ1 = .ok (.d (.list ([([97], PyData.str (T [98])), ([98], .str (T [99])), ([120], .none)].map splD))) μ1 := dAdd_ll (by simp)
    have l1 := last _ μ1 b3 H1 E1
    generalize ([([97], PyData.str (T [98])), ([98], .str (T [99])), ([120], .none)].map splD) = L at *
    unfold F_l_spelled B_l_spelled
    apply Wp_run
    simp_arith [inn, i0, rp, fz, da]
    exact l1
  rcases hv with rfl | ⟨l, rfl, l1, l2⟩
  · exact no (by rfl)
  · by_cases k : ([PyData.none, .str (T [97]), .str (T [98]), .str (T [120])].any fun y => PyData.eqv y (.str (T l))) = true
    · exact no (by rw [k]; rfl)
    · have k2 : ([PyData.none, .str (T [97]), .str (T [98]), .str (T [120])].any fun y => PyData.eqv y (.str (T l))) = false := by
        revert k
        cases ([PyData.none, .str (T [97]), .str (T [98]), .str (T [120])].any fun y => PyData.eqv y (.str (T l))) <;> simp
      rw [k2] at inn
      have inn : dIn true (.d (.str (T l))) (.d (.tuple [.none, .str (T [97]), .str (T [98]), .str (T [120])])) μ = .ok (.d (.bool true)) μ := inn
      have ne : ∀ w : List Nat, (PyData.str (T w)) ∈ [PyData.none, .str (T [97]), .str (T [98]), .str (T [120])] → w ≠ l := fun w hw e => by
        have := List.any_eq_false.mp k2 _ hw
        subst e
        simp [PyData.eqv] at this
      have n1 := ne [97] (by simp)
      have n2 := ne [98] (by simp)
      have n3 := ne [120] (by simp)
      have b4 : SpOk [([97], .str (T [98])), ([98], .str (T [99])), ([120], .none), (l, .str (T [97, 32, 98]))] := by
        obtain ⟨_, _, b33⟩ := b3
        refine ⟨?_, by simp, fun p hp => ?_⟩
        · simp [n1, n2, n3]
        · have hp : p ∈ [([97], PyData.str (T [98])), ([98], .str (T [99])), ([120], .none)] ∨ p = (l, .str (T [97, 32, 98])) := by
            simp only [List.mem_cons, List.not_mem_nil, or_false] at hp ⊢
            rcases hp with h | h | h | h
            · exact .inl (.inl h)
            · exact .inl (.inr (.inl h))
            · exact .inl (.inr (.inr h))
            · exact .inr h
          rcases hp with h | rfl
          · exact b33 p h
          · exact ⟨l2, by show l.length ≤ 60; omega, .inr (Sc.of (by decide))⟩
      have e1 : (μ ++ [Cell.lst ([PyData.tuple [.str (T l), .str (T [97, 32, 98])]].map .d)])[μ.length]? = some (.lst ([PyData.tuple [.str (T l), .str (T [97, 32, 98])]].map .d)) := by simp
      have fz := frz_l e1
      have rp := rep_1 (x := .tuple [.str (T l), .str (T [97, 32, 98])]) (μ := μ)
      have H1 := (H.at_app (xs := [Cell.lst ([PyData.tuple [.str (T l), .str (T [97, 32, 98])]].map .d)])).at_set (n := μ.length) (c := .dead) (by have := H.lt; omega)
      have E1 := (Ext.app h μ [Cell.lst ([PyData.tuple [.str (T l), .str (T [97, 32, 98])]].map .d)]).at_set (n := μ.length) (c := .dead) (Nat.le_refl _)
      generalize ((μ ++ [Cell.lst ([PyData.tuple [.str (T l), .str (T [97, 32, 98])]].map .d)]).set μ.length .dead) = μ1 at *
      generalize (μ ++ [Cell.lst ([PyData.tuple [.str (T l), .str (T [97, 32, 98])]].map .d)]) = μ0 at *
      have da : dAdd (.d (.list [.tuple [.str (T [97]), .str (T [98])], .tuple [.str (T [98]), .str (T [99])], .tuple [.str (T [120]), .none]])) (.d (.list [.tuple [.str (T l), .str (T [97, 32, 98])]])) μ1 = .ok (.d (.list ([([97], PyData.str (T [98])), ([98], .str (T [99])), ([120], .none), (l, .str (T [97, 32, 98]))].map splD))) μ1 := dAdd_ll (by simp)
      have l1 := last _ μ1 b4 H1 E1
      generalize ([([97], PyData.str (T [98])), ([98], .str (T [99])), ([120], .none), (l, .str (T [97, 32, 98]))].map splD) = L at *
      unfold F_l_spelled B_l_spelled
      apply Wp_run
      simp_arith [inn, i1, rp, fz, da]
      exact l1
end
end LW

namespace LW
open PySem PySem.Spec PyProof.Rows L2 DL
def cTA : List Nat := [116, 97]
def cTB : List Nat := [116, 98]
def cNA : List Nat := [110, 97]
def cNB : List Nat := [110, 98]
/-- the row's worths -/
structure RowD (R : Row) : Prop where
  ta : ∃ v, valR R (kN cTA) = some v ∧ Vk 30 true v
  tb : ∃ v, valR R (kN cTB) = some v ∧ Vk 30 true v
  na : ∃ v, valR R (kN cNA) = some v ∧ Vk 30 false v
  nb : ∃ v, valR R (kN cNB) = some v ∧ Vk 30 false v
  sm : ∀ p ∈ R, (∃ w : List Nat, p.1 = kN w ∧ w.length ≤ 10 ∧ ∀ c ∈ w, c < 128) ∧ Vb p.2
  ln : R.length ≤ 6
theorem kD_kN (w : List Nat) : kD (kN w) = nD w := rfl
theorem nD_sw {w : List Nat} (h : w.length ≤ 190) (h2 : ∀ c ∈ w, c < 128) : Sw 0 2002 (nD w) := (Sw.of (Sm.str fun c hc => Nat.lt_trans (h2 c hc) (by decide))).up (Nat.le_refl _) (by omega)
theorem RowD.sw {R : Row} (h : RowD R) : Sw 1 30000 (dicOf R) := (Sw.dic (k := 0) (n := 2002) (m := 6) (fun p hp => by
  obtain ⟨⟨w, e, h1, h2⟩, hb⟩ := h.sm p hp
  rw [e, kD_kN]
  exact ⟨nD_sw (by omega) h2, hb.sw⟩) h.ln).up (Nat.le_refl _) (by decide)
theorem mem_put {R : Row} {k : Key} {v : D} {p : Key × D} (h : p ∈ putR R k v) : p ∈ R ∨ p = (k, v) := by
  unfold putR at h
  split at h
  · obtain ⟨q, hq, e⟩ := List.mem_map.mp h
    by_cases hk : q.1 = k
    · rw [if_pos hk] at e
      rw [← e, hk]
      exact .inr rfl
    · rw [if_neg hk] at e
      rw [← e]
      exact .inl hq
  · rcases List.mem_append.mp h with h | h
    · exact .inl h
    · exact .inr (List.mem_singleton.mp h)
theorem put_len {R : Row} {k : Key} {v u : D} (h : valR R k = some u) : (putR R k v).length = R.length := by
  unfold putR
  rw [if_pos, List.length_map]
  cases q : R.any fun p => decide (p.1 = k) with
  | true => rfl
  | false => rw [valR_none q] at h; cases h
def isTx (c : List Nat) : Prop := c = cTA ∨ c = cTB
theorem isTx.ok {c : List Nat} (h : isTx c) : c.length ≤ 10 ∧ ∀ x ∈ c, x < 128 := by
  rcases h with rfl | rfl <;> exact ⟨by decide, by decide⟩
theorem RowD.tx {R : Row} (h : RowD R) {c : List Nat} (hc : isTx c) : ∃ v, valR R (kN c) = some v ∧ Vk 30 true v := by
  rcases hc with rfl | rfl
  · exact h.ta
  · exact h.tb
theorem RowD.put {R : Row} (h : RowD R) {c : List Nat} (hc : isTx c) {w : D} (hw : Vk 30 true w) : RowD (putR R (kN c) w) := by
  obtain ⟨u, hu, _⟩ := h.tx hc
  have t : ∀ d : List Nat, (∃ v, valR R (kN d) = some v ∧ Vk 30 true v) → ∃ v, valR (putR R (kN c) w) (kN d) = some v ∧ Vk 30 true v := fun d hd => by
    rw [valR_put]
    by_cases e : kN c = kN d
    · rw [if_pos e]; exact ⟨w, rfl, hw⟩
    · rw [if_neg e]; exact hd
  have n : ∀ d : List Nat, d ≠ c → (∃ v, valR R (kN d) = some v ∧ Vk 30 false v) → ∃ v, valR (putR R (kN c) w) (kN d) = some v ∧ Vk 30 false v := fun d hd h => by
    rw [valR_put, if_neg (fun z => hd (kN_inj z).symm)]
    exact h
  refine ⟨t _ h.ta, t _ h.tb, n _ ?_ h.na, n _ ?_ h.nb, fun p hp => ?_, by rw [put_len hu]; exact h.ln⟩
  · rcases hc with rfl | rfl <;> decide
  · rcases hc with rfl | rfl <;> decide
  · rcases mem_put hp with hp | rfl
    · exact h.sm p hp
    · exact ⟨⟨c, rfl, hc.ok.1, hc.ok.2⟩, hw.vb (by decide)⟩
/-- a step that both do alike -/
structure StepD (R : Row) (s : D) : Prop where
  ex : ∃ M mk, SameD s R M mk ∧ MOk M
  sw : Sw 4 100000 s
/-- a part of a step -/
abbrev Pt (d : D) : Prop := Sw 3 9000 d
theorem StepD.of {R : Row} {ds : List D} {M : Row} {mk : Bool} (h : SameD (.tuple ds) R M mk) (hM : MOk M) (hd : ∀ d ∈ ds, Pt d) (hl : ds.length ≤ 5) : StepD R (.tuple ds) := ⟨⟨M, mk, h, hM⟩, (Sw.tup hd hl).up (Nat.le_refl _) (by decide)⟩
theorem Vb.pt {d : D} (h : Vb d) : Pt d := h.sw.up (by decide) (by decide)
theorem Tn.pt {n : Nat} {d : D} (h : Tn n d) (hn : n ≤ 200) : Pt d := (h.vb hn).pt
theorem nD_pt {w : List Nat} (h : w.length ≤ 190) (h2 : ∀ c ∈ w, c < 128) : Pt (nD w) := (nD_sw h h2).up (by decide) (by decide)
theorem tup_pt {ds : List D} (h : ∀ d ∈ ds, Vb d) (hl : ds.length ≤ 4) : Sw 1 8019 (.tuple ds) := (Sw.tup (fun d hd => (h d hd).sw) hl).up (Nat.le_refl _) (by decide)
theorem Wk.vb {t : Bool} {d : D} (h : Wk t d) : Vb d := (h.vk (B := 30) (by decide)).vb (by decide)
theorem form_pt {f : D} (h : FormOk f) : Pt f := by
  cases h with
  | whole => exact (tup_pt (by intro d hd; rw [List.mem_singleton.mp hd]; exact (Tn.of (n := 10) (by decide)).vb (by decide)) (by simp)).up (by decide) (by decide)
  | @amount k h1 h2 => exact (tup_pt (by
      intro d hd
      simp only [List.mem_cons, List.not_mem_nil, or_false] at hd
      rcases hd with rfl | rfl
      · exact (Tn.of (n := 10) (by decide)).vb (by decide)
      · exact .inr (.inr ⟨_, rfl, by omega⟩)) (by simp)).up (by decide) (by decide)
  | @day o ho => exact (tup_pt (by
      intro d hd
      simp only [List.mem_cons, List.not_mem_nil, or_false] at hd ho
      rcases hd with rfl | rfl
      · exact (Tn.of (n := 10) (by decide)).vb (by decide)
      · rcases ho with rfl | rfl | rfl <;> exact (Tn.of (n := 10) (by decide)).vb (by decide)) (by simp)).up (by decide) (by decide)
theorem sp_pt {ps : List (List Nat × D)} (h : SpOk ps) : Pt (.tuple (ps.map splD)) := by
  refine (Sw.tup (k := 1) (c := 1211) (n := 4) (fun d hd => ?_) (by rw [List.length_map]; exact h.2.1)).up (by decide) (by decide)
  obtain ⟨p, hp, rfl⟩ := List.mem_map.mp hd
  obtain ⟨h1, h2, h3⟩ := h.2.2 p hp
  refine (Sw.tup (k := 0) (c := 602) (n := 2) (fun d hd => ?_) (by simp)).up (by decide) (by decide)
  simp only [List.mem_cons, List.not_mem_nil, or_false] at hd
  rcases hd with rfl | rfl
  · exact (Sw.of (Sm.str fun c hc => Nat.lt_trans (h1 c hc) (by decide))).up (Nat.le_refl _) (by omega)
  · rcases h3 with e | ⟨l, e, l1, l2⟩
    · rw [e]; exact (Sw.of Sm.none).up (Nat.le_refl _) (by decide)
    · rw [e]; exact (Sw.of (Sm.str fun c hc => Nat.lt_trans (l2 c hc) (by decide))).up (Nat.le_refl _) (by omega)
end LW

namespace LW
open PySem PySem.Spec PyProof.Rows L2 DL
section
variable {h m : Nat} {μ : Store} {P : Dv → Store → Prop}
theorem int_vk {B : Nat} {i : Int} (hi : i.natAbs < 10 ^ 13) : Vk B false (.int i) := .inr ⟨i, rfl, hi⟩
/-- the row, the column, the sign, the name -/
theorem w_pre {k : Int} (H : Bx h m μ) (hm : m + 100 ≤ 10 ^ 9) (t0 : μ[0]? = some (.tab 9 lq_l_spelled)) (h0 : h ≠ 0)
    (fin : ∀ R n c s nm μ', RowD R → μ'[n]? = some (.dic (dv R)) → n ≠ h → μ.length ≤ n → isTx c → s < 128 → Tn 8 nm → Bx h (m + 40) μ' → Ext h μ μ' → Wp (r14_l_case [some (.c h), some (.d (.int k)), some (.c n), some (.d (nD c)), some (.d (.str (T [s]))), some (.d nm), none, none, none, none, none] μ') (finP P)) : Wp (F_l_case [.c h, .d (.int k)] μ) P := by
  have e8 : dPow (.d (.int 10)) (.d (.int 8)) = fun μ => .ok (.d (.int 100000000)) μ := by
    funext μ
    rfl
  unfold F_l_case B_l_case
  apply Wp_run
  simp_arith []
  refine w_text (s := 45) (by decide) H (by omega) fun v1 μ1 hv1 H1 O1 => ?_
  simp_arith []
  refine w_text (s := 44) (by decide) H1 (by omega) fun v2 μ2 hv2 H2 O2 => ?_
  have e8 : dPow (.d (.int 10)) (.d (.int 8)) μ2 = .ok (.d (.int 100000000)) μ2 := rfl
  simp_arith [e8]
  refine w_of H2 (by omega) (by simp) (by simp) fun v3 μ3 hv3 H3 O3 => ?_
  have hv3 : Vk 30 false v3 := by
    simp only [List.mem_cons, List.not_mem_nil, or_false] at hv3
    rcases hv3 with rfl | rfl | rfl | rfl | rfl
    · exact .inl rfl
    · exact int_vk (by decide)
    · exact int_vk (by decide)
    · exact int_vk (by decide)
    · exact int_vk (by decide)
  have E3 : Ext h μ μ3 := .oth ((O1.trans O2).trans O3)
  have ec : cDicF [(.d (.str (T [116, 97])), .d v1), (.d (.str (T [116, 98])), .d v2), (.d (.str (T [110, 97])), .d v3)] μ3 = _ := cDicF_3 (a := [116, 97]) (b := [116, 98]) (c := [110, 97]) (x := v1) (y := v2) (z := v3) (by decide) (by decide) (by decide)
  simp_arith [ec]
  have hn : μ3.length ≠ h := by have := H3.lt; omega
  have ln : μ.length ≤ μ3.length := E3.1
  have e4 : (μ3 ++ [Cell.dic (dv [(kN [116, 97], v1), (kN [116, 98], v2), (kN [110, 97], v3)])])[μ3.length]? = some (.dic (dv [(kN [116, 97], v1), (kN [116, 98], v2), (kN [110, 97], v3)])) := by simp
  have H4 := H3.at_app (xs := [Cell.dic (dv [(kN [116, 97], v1), (kN [116, 98], v2), (kN [110, 97], v3)])])
  have E4 := E3.trans (Ext.app h μ3 [Cell.dic (dv [(kN [116, 97], v1), (kN [116, 98], v2), (kN [110, 97], v3)])])
  have g4 : dDG (.c μ3.length) (.d (.str (T [110, 97]))) (μ3 ++ [Cell.dic (dv [(kN [116, 97], v1), (kN [116, 98], v2), (kN [110, 97], v3)])]) = .ok (.d v3) (μ3 ++ [Cell.dic (dv [(kN [116, 97], v1), (kN [116, 98], v2), (kN [110, 97], v3)])]) := dDG_row (w := [110, 97]) e4 (by
    rw [valR_cons, if_neg (fun z => by have := kN_inj z; simp at this), valR_cons, if_neg (fun z => by have := kN_inj z; simp at this), valR_cons, if_pos rfl])
  generalize μ3.length = n at *
  generalize (μ3 ++ [Cell.dic (dv [(kN [116, 97], v1), (kN [116, 98], v2), (kN [110, 97], v3)])]) = μ4 at *
  simp_arith [r17_l_case, g4]
  refine w_of H4 (by omega) (by simp) (by simp) fun v4 μ5 hv4 H5 O5 => ?_
  have hv4 : Vk 30 false v4 := by
    simp only [List.mem_cons, List.not_mem_nil, or_false] at hv4
    rcases hv4 with rfl | rfl | rfl | rfl
    · exact .inl rfl
    · exact int_vk (by decide)
    · exact int_vk (by decide)
    · exact hv3
  have e5 := (O5.2 n hn).trans e4
  have sd : dSetD (.c n) (.d (.str (T [110, 98]))) (.d v4) μ5 = _ := dSetD_row (w := [110, 98]) (v := v4) e5 (by simp)
  simp_arith [sd]
  have hR : RowD (putR [(kN [116, 97], v1), (kN [116, 98], v2), (kN [110, 97], v3)] (kN [110, 98]) v4) := by
    have ne : ∀ {a b : List Nat}, a ≠ b → ¬ kN a = kN b := fun h z => h (kN_inj z)
    refine ⟨⟨v1, ?_, hv1⟩, ⟨v2, ?_, hv2⟩, ⟨v3, ?_, hv3⟩, ⟨v4, ?_, hv4⟩, fun p hp => ?_, Nat.le_trans putR_len (by simp)⟩
    · show valR _ (kN [116, 97]) = _
      rw [valR_put, if_neg (ne (by decide)), valR_cons, if_pos rfl]
    · show valR _ (kN [116, 98]) = _
      rw [valR_put, if_neg (ne (by decide)), valR_cons, if_neg (ne (by decide)), valR_cons, if_pos rfl]
    · show valR _ (kN [110, 97]) = _
      rw [valR_put, if_neg (ne (by decide)), valR_cons, if_neg (ne (by decide)), valR_cons, if_neg (ne (by decide)), valR_cons, if_pos rfl]
    · show valR _ (kN [110, 98]) = _
      rw [valR_put, if_pos rfl]
    · rcases mem_put hp with hp | rfl
      · simp only [List.mem_cons, List.not_mem_nil, or_false] at hp
        rcases hp with rfl | rfl | rfl
        · exact ⟨⟨_, rfl, by decide, by decide⟩, hv1.vb (by decide)⟩
        · exact ⟨⟨_, rfl, by decide, by decide⟩, hv2.vb (by decide)⟩
        · exact ⟨⟨_, rfl, by decide, by decide⟩, hv3.vb (by decide)⟩
      · exact ⟨⟨_, rfl, by decide, by decide⟩, hv4.vb (by decide)⟩
  have E5 := E4.trans (.oth O5)
  clear hv1 hv2 hv3 hv4 sd e4 ec g4
  generalize (putR [(kN [116, 97], v1), (kN [116, 98], v2), (kN [110, 97], v3)] (kN [110, 98]) v4) = R at *
  have e6 : (μ5.set n (.dic (dv R)))[n]? = some (.dic (dv R)) := by rw [List.getElem?_set_self (lt_of_get e5)]
  have H6 := H5.at_set (c := .dic (dv R)) hn
  have E6 := E5.at_set (c := .dic (dv R)) ln
  generalize (μ5.set n (.dic (dv R))) = μ6 at *
  simp_arith [r16_l_case]
  refine w_of H6 (by omega) (by simp) (by simp) fun c μ7 hc H7 O7 => ?_
  obtain ⟨cl, rfl, hcl⟩ : ∃ cl, c = nD cl ∧ isTx cl := by
    simp only [List.mem_cons, List.not_mem_nil, or_false] at hc
    rcases hc with rfl | rfl
    · exact ⟨_, rfl, .inl rfl⟩
    · exact ⟨_, rfl, .inr rfl⟩
  simp_arith []
  refine w_of H7 (by omega) (by simp) (by simp) fun sg μ8 hs H8 O8 => ?_
  obtain ⟨s, rfl, hs3⟩ : ∃ s : Nat, sg = .str (T [s]) ∧ s < 128 := by
    simp only [List.mem_cons, List.not_mem_nil, or_false] at hs
    rcases hs with rfl | rfl | rfl | rfl | rfl <;> exact ⟨_, rfl, by decide⟩
  simp_arith [r15_l_case]
  refine w_of H8 (by omega) (by simp) (by simp) fun nm μ9 hnm H9 O9 => ?_
  have hnm : Tn 8 nm := by
    simp only [List.mem_cons, List.not_mem_nil, or_false] at hnm
    rcases hnm with rfl | rfl | rfl <;> exact Tn.of (by decide)
  simp_arith []
  refine fin R n cl s nm μ9 hR ?_ hn ln hcl hs3 hnm (H9.mono (by omega)) (((E6.trans (.oth O7)).trans (.oth O8)).trans (.oth O9))
  exact (O9.2 n hn).trans ((O8.2 n hn).trans ((O7.2 n hn).trans e6))
end
end LW

namespace LW
open PySem PySem.Spec PyProof.Rows L2 DL
section
variable {h m n : Nat} {μ : Store} {P : Dv → Store → Prop} {R : Row} {c : List Nat} {s : Nat} {nm : D}
/-- what a lot ends with -/
def FinL (h m n : Nat) (μ : Store) (P : Dv → Store → Prop) : Prop := ∀ st R' μ', RowD R' → StepD R' st → Bx h (m + 40) μ' → (∀ μ0 : Store, μ0.length ≤ n → Ext h μ0 μ → Ext h μ0 μ') → P (.d (.tuple [st, dicOf R'])) μ'
theorem fin_l {st : D} {R' : Row} {μ1 : Store} (fin : FinL h m n μ P) (hR : RowD R') (hS : StepD R' st) (hn : n ≠ h) (H1 : Bx h (m + 40) μ1) (E1 : Ext h μ μ1) : P (.d (.tuple [st, dicOf R'])) (μ1.set n .dead) :=
  fin st R' _ hR hS (H1.at_set hn) fun μ0 l0 E0 => (E0.trans E1).at_set l0
theorem isTx.vals (hR : RowD R) (hc : isTx c) : ∃ v, valR R (kN c) = some v ∧ Vk 30 true v := hR.tx hc
theorem lot_0 (hR : RowD R) (e : μ[n]? = some (.dic (dv R))) (hn : n ≠ h) (hc : isTx c) (hs : s < 128) (hnm : Tn 8 nm) (H : Bx h m μ) (hm : m + 100 ≤ 10 ^ 9) (fin : FinL h m n μ P) :
    Wp (r14_l_case [some (.c h), some (.d (.int 0)), some (.c n), some (.d (nD c)), some (.d (.str (T [s]))), some (.d nm), none, none, none, none, none] μ) (finP P) := by
  obtain ⟨v, hv, hk⟩ := hR.tx hc
  simp_arith [r14_l_case]
  refine w_take H (by omega) (by decide) (by decide) fun r μ1 hr H1 O1 => ?_
  have hr : r < 3 := by omega
  obtain ⟨q, hq, hq2⟩ : ∃ q : Nat, (2 : Int) + (r : Int) = (q : Int) ∧ q = 2 + r := ⟨2 + r, by omega, rfl⟩
  have ec : cutL [PyData.str (T [112]), .str (T [113]), .str (T [114]), .str (T [117])] none (some (q : Int)) = ([[112], [113], [114], [117]].take q).map nD := by
    rw [cut_to _ (by omega), Int.toNat_natCast, List.map_take]
    rfl
  have fz := frz_d ((O1.2 n hn).trans e)
  have nsl : ([[112], [113], [114], [117]].take q).length = q := by simp; omega
  have nsn : ([[112], [113], [114], [117]].take q).Nodup := List.Sublist.nodup (List.take_sublist _ _) (by decide)
  have nsm : ∀ w ∈ [[112], [113], [114], [117]].take q, w.length ≤ 10 ∧ ∀ x ∈ w, x < 128 := fun w hw => by
    have := List.mem_of_mem_take hw
    simp only [List.mem_cons, List.not_mem_nil, or_false] at this
    rcases this with rfl | rfl | rfl | rfl <;> exact ⟨by decide, by decide⟩
  generalize ([[112], [113], [114], [117]].take q) = ns at *
  obtain ⟨M, mk, sd, fst, vals⟩ := st_cut (x := nm) (R := R) (ns := ns) (B := 30) (by decide) hs (by omega) (by omega) nsn hv hk
  have hM : MOk M := ⟨by rw [fst]; exact nodup_kN nsn, ⟨ns, fst, fun w hw => (nsm w hw).2⟩, by have := congrArg List.length fst; simp at this; omega, fun p hp => (vals p hp).vb (by decide)⟩
  have hS : StepD R (.tuple [nm, .str (T [99, 117, 116]), nD c, .str (T [s]), .tuple (ns.map nD)]) := StepD.of sd hM (fun d hd => by
    simp only [List.mem_cons, List.not_mem_nil, or_false] at hd
    rcases hd with rfl | rfl | rfl | rfl | rfl
    · exact hnm.pt (by decide)
    · exact (Tn.of (n := 10) (by decide)).pt (by decide)
    · exact nD_pt (by have := hc.ok.1; omega) hc.ok.2
    · exact Tn.pt (n := 10) ⟨[s], rfl, by simp, by simpa using hs⟩ (by decide)
    · refine (tup_pt (fun d hd => ?_) (by rw [List.length_map]; omega)).up (by decide) (by decide)
      obtain ⟨w, hw, rfl⟩ := List.mem_map.mp hd
      exact .inr (.inl ⟨w, rfl, by have := (nsm w hw).1; omega, (nsm w hw).2⟩)) (by simp)
  simp_arith [hq, ec, fz]
  exact fin_l fin hR hS hn (H1.mono (by omega)) (.oth O1)
theorem lot_1 (hR : RowD R) (e : μ[n]? = some (.dic (dv R))) (hn : n ≠ h) (hc : isTx c) (hs : s < 128) (hnm : Tn 8 nm) (H : Bx h m μ) (hm : m + 100 ≤ 10 ^ 9) (fin : FinL h m n μ P) :
    Wp (r14_l_case [some (.c h), some (.d (.int 1)), some (.c n), some (.d (nD c)), some (.d (.str (T [s]))), some (.d nm), none, none, none, none, none] μ) (finP P) := by
  simp_arith [r14_l_case, r13_l_case, r1_l_case]
  refine w_of H (by omega) (by simp) (by simp) fun t μ1 ht H1 O1 => ?_
  obtain ⟨cs, rfl, hcs, lcs⟩ : ∃ cs : List (List Nat), t = .tuple (cs.map nD) ∧ (∀ d ∈ cs, isTx d) ∧ cs.length ≤ 4 := by
    simp only [List.mem_cons, List.not_mem_nil, or_false] at ht
    rcases ht with rfl | rfl | rfl | rfl
    · exact ⟨[cTA], rfl, by simp [isTx], by simp⟩
    · exact ⟨[cTA, cTB], rfl, by simp [isTx], by simp⟩
    · exact ⟨[cTB, cTA, cTB], rfl, by simp [isTx], by simp⟩
    · exact ⟨[cTB, cTB, cTA, cTA], rfl, by simp [isTx], by simp⟩
  obtain ⟨u, hu, sd⟩ := st_glue (x := nm) (R := R) (nw := [110, 101, 119]) (B := 30) (s := s) (cs := cs) (by decide) hs (fun d hd => hR.tx (hcs d hd)) lcs
  have hS : StepD R (.tuple [nm, .str (T [103, 108, 117, 101]), .tuple (cs.map nD), .str (T [s]), nD [110, 101, 119]]) := StepD.of sd (.one (by decide) (hu.vb (by decide))) (fun d hd => by
    simp only [List.mem_cons, List.not_mem_nil, or_false] at hd
    rcases hd with rfl | rfl | rfl | rfl | rfl
    · exact hnm.pt (by decide)
    · exact (Tn.of (n := 10) (by decide)).pt (by decide)
    · refine (tup_pt (fun d hd => ?_) (by rw [List.length_map]; omega)).up (by decide) (by decide)
      obtain ⟨w, hw, rfl⟩ := List.mem_map.mp hd
      exact .inr (.inl ⟨w, rfl, by have := (hcs w hw).ok.1; omega, (hcs w hw).ok.2⟩)
    · exact Tn.pt (n := 10) ⟨[s], rfl, by simp, by simpa using hs⟩ (by decide)
    · exact nD_pt (by decide) (by decide)) (by simp)
  have fz := frz_d ((O1.2 n hn).trans e)
  simp_arith [fz]
  exact fin_l fin hR hS hn (H1.mono (by omega)) (.oth O1)
theorem lot_2 (hR : RowD R) (e : μ[n]? = some (.dic (dv R))) (hn : n ≠ h) (hc : isTx c) (hnm : Tn 8 nm) (t0 : μ[0]? = some (.tab 9 lq_l_spelled)) (h0 : h ≠ 0) (H : Bx h m μ) (hm : m + 100 ≤ 10 ^ 9) (fin : FinL h m n μ P) :
    Wp (r14_l_case [some (.c h), some (.d (.int 2)), some (.c n), some (.d (nD c)), some (.d (.str (T [s]))), some (.d nm), none, none, none, none, none] μ) (finP P) := by
  obtain ⟨v, hv, hk⟩ := hR.tx hc
  have g := dDG_row e hv
  simp_arith [r14_l_case, r13_l_case, r12_l_case, g]
  refine w_spelled hk H (by omega) t0 h0 fun ps μ1 hps H1 E1 => ?_
  obtain ⟨u, hu, sd⟩ := st_spell (x := nm) (R := R) (B := 30) (by decide) hv hk hps
  have hS : StepD R (.tuple [nm, .str (T [115, 112, 101, 108, 108]), nD c, .tuple (ps.map splD)]) := StepD.of sd (.one hc.ok.2 (hu.vb (by decide))) (fun d hd => by
    simp only [List.mem_cons, List.not_mem_nil, or_false] at hd
    rcases hd with rfl | rfl | rfl | rfl
    · exact hnm.pt (by decide)
    · exact (Tn.of (n := 10) (by decide)).pt (by decide)
    · exact nD_pt (by have := hc.ok.1; omega) hc.ok.2
    · exact sp_pt hps) (by simp)
  have fz := frz_d (E1.at hn e)
  simp_arith [fz]
  exact fin_l fin hR hS hn (H1.mono (by omega)) E1
theorem lot_3 (hR : RowD R) (e : μ[n]? = some (.dic (dv R))) (hn : n ≠ h) (hc : isTx c) (hnm : Tn 8 nm) (H : Bx h m μ) (hm : m + 100 ≤ 10 ^ 9) (fin : FinL h m n μ P) :
    Wp (r14_l_case [some (.c h), some (.d (.int 3)), some (.c n), some (.d (nD c)), some (.d (.str (T [s]))), some (.d nm), none, none, none, none, none] μ) (finP P) := by
  simp_arith [r14_l_case, r13_l_case, r12_l_case, r11_l_case]
  refine w_form H (by omega) fun f μ1 hf H1 O1 => ?_
  simp_arith [r4_l_case]
  refine w_near hf H1 (by omega) fun w μ2 hw H2 E2 => ?_
  have E2 : Ext h μ μ2 := (Ext.oth O1).trans E2
  -- the end
  have last : ∀ (w2 : D) (μ3 : Store) s8, Vk 30 true w2 → Bx h (m + 40) μ3 → Ext h μ μ3 → Wp (optN (dSetD (.c n) (.d (nD c)) (.d w2) μ3) [some (.c h), some (.d (.int 3)), some (.c n), some (.d (nD c)), some (.d (.str (T [s]))), some (.d nm), none, some (.d f), s8, none, none]) (kSeq r2_l_case (kSeq r10_l_case (finP P))) := fun w2 μ3 s8 hw2 H3 E3 => by
    have e3 := E3.at hn e
    have sd := dSetD_row (w := c) (v := w2) e3 (by have := hR.ln; omega)
    have hR2 := hR.put hc hw2
    have e4 : (μ3.set n (.dic (dv (putR R (kN c) w2))))[n]? = some (.dic (dv (putR R (kN c) w2))) := by rw [List.getElem?_set_self (lt_of_get e3)]
    have fz := frz_d e4
    have ss : ((μ3.set n (.dic (dv (putR R (kN c) w2)))).set n .dead) = μ3.set n .dead := by rw [List.set_set]
    rw [ss] at fz
    have hv2 : valR (putR R (kN c) w2) (kN c) = some w2 := by rw [valR_put, if_pos rfl]
    generalize putR R (kN c) w2 = R2 at *
    obtain ⟨u, mk, hu, s3⟩ := st_read (x := nm) (R := R2) (nw := [110, 101, 119]) (B := 30) (by decide) hv2 hw2 hf
    have hS : StepD R2 (.tuple [nm, .str (T [114, 101, 97, 100]), nD c, f, nD [110, 101, 119]]) := StepD.of s3 (.one (by decide) (hu.vb (by decide))) (fun d hd => by
      simp only [List.mem_cons, List.not_mem_nil, or_false] at hd
      rcases hd with rfl | rfl | rfl | rfl | rfl
      · exact hnm.pt (by decide)
      · exact (Tn.of (n := 10) (by decide)).pt (by decide)
      · exact nD_pt (by have := hc.ok.1; omega) hc.ok.2
      · exact form_pt hf
      · exact nD_pt (by decide) (by decide)) (by simp)
    have end_ := fin_l fin hR2 hS hn H3 E3
    generalize (μ3.set n (.dic (dv R2))) = μ4 at *
    generalize (μ3.set n .dead) = μ5 at *
    simp_arith [sd, r2_l_case, fz]
    exact end_
  obtain ⟨l, rfl, l1, l2⟩ := hw
  simp_arith [r3_l_case]
  by_cases hl : l = []
  · subst hl
    simp_arith []
    exact last _ _ _ (.inl rfl) (H2.mono (by omega)) E2
  · simp_arith [hl]
    refine w_take H2 (by omega) (by decide) (by decide) fun r μ3 hr H3 O3 => ?_
    simp_arith []
    refine kEI_s (fun q => ?_) fun q => ?_
    · simp_arith []
      exact last _ _ _ (.inr ⟨l, rfl, by omega, l2⟩) (H3.mono (by omega)) (E2.trans (.oth O3))
    · simp_arith []
      exact last _ _ _ (.inl rfl) (H3.mono (by omega)) (E2.trans (.oth O3))
end
end LW

namespace LW
open PySem PySem.Spec PyProof.Rows L2 DL
section
variable {h m n : Nat} {μ : Store} {P : Dv → Store → Prop} {R : Row} {c : List Nat} {s : Nat} {nm : D}
theorem isLst_c {n : Nat} {xs : List Dv} (e : μ[n]? = some (.lst xs)) : isLst (.c n) μ = true := by
  unfold isLst
  simp only [e]
theorem dAppend_c {n : Nat} {xs : List Dv} {b : Dv} (e : μ[n]? = some (.lst xs)) (h : xs.length < 16000000) : dAppend (.c n) [b] μ = .ok (.d .none) (μ.set n (.lst (xs ++ [b]))) := by
  have := line_big
  unfold dAppend
  simp only [e]
  rw [if_pos (by omega)]
theorem dAdd_tt {xs ys : List D} {μ : Store} (h : xs.length + ys.length ≤ 16000000) : dAdd (.d (.tuple xs)) (.d (.tuple ys)) μ = .ok (.d (.tuple (xs ++ ys))) μ := by
  show (if xs.length + ys.length ≤ sizeLine then _ else _) = _
  rw [if_pos (Nat.le_trans h line_big)]
theorem dIx_cd {n : Nat} {ds : List D} {k : Nat} {μ : Store} (e : μ[n]? = some (.lst (ds.map .d))) (h : k < ds.length) : dIx (.c n) (.d (.int k)) μ = .ok (.d ds[k]) μ := dIx_c e (atI_nn (by simp [h]))
theorem pow10_8 {μ : Store} : dPow (.d (.int 10)) (.d (.int 8)) μ = .ok (.d (.int 100000000)) μ := rfl
def m_put : List D := [.tuple [.str (T [116, 97]), .str (T [113])], .tuple [.str (T [110, 97]), .int 0], .tuple [.str (T [110, 98]), .int (-1)], .tuple [.str (T [116, 98]), .str (T [97, 32, 98])]]
def m_given : List D := [.tuple [.str (T [116, 97])], .tuple [.str (T [116, 98])], .tuple [.str (T [110, 97])], .tuple [.str (T [110, 98])]]
def m_within : List D := [.tuple [.str (T [110, 97]), .int 0, .int 5], .tuple [.str (T [110, 98]), .int 5, .int 5], .tuple [.str (T [110, 97]), .int (-7), .int 100000000], .tuple [.str (T [116, 97]), .str (T [97]), .str (T [98])], .tuple [.str (T [116, 98]), .str (T [97]), .str (T [97])], .tuple [.str (T [110, 98]), .int 6, .int 9]]
def m_among : List D := [.tuple [.str (T [116, 97]), .tuple [.str (T [97])]], .tuple [.str (T [116, 98]), .tuple [.str (T [97]), .str (T [98, 32, 99]), .str (T [120])]], .tuple [.str (T [110, 97]), .tuple [.int 0, .int 5]], .tuple [.str (T [110, 98]), .tuple [.int 5]]]
def m_before : List D := [.tuple [.str (T [110, 97]), .str (T [110, 98])], .tuple [.str (T [110, 98]), .str (T [110, 97])], .tuple [.str (T [116, 97]), .str (T [116, 98])], .tuple [.str (T [116, 98]), .str (T [116, 97])]]
def menus_ : List D := [.list m_put, .list m_given, .list m_within, .list m_among, .list m_before]
theorem w_menus {k : Nat} (H : Bx h m μ) (hm : m + 100 ≤ 10 ^ 9)
    (fin : ∀ q μ', Bx h (m + 30) μ' → Ext h μ μ' → μ'[q]? = some (.lst (menus_.map .d)) → Wp (r6_l_case [some (.c h), some (.d (.int (k : Int))), some (.c n), some (.d (nD c)), some (.d (.str (T [s]))), some (.d nm), none, none, none, some (.c q), none] μ') (finP P)) : Wp (r10_l_case [some (.c h), some (.d (.int (k : Int))), some (.c n), some (.d (nD c)), some (.d (.str (T [s]))), some (.d nm), none, none, none, none, none] μ) (finP P) := by
  have l1 : (μ ++ [Cell.lst ([PyData.list m_put, .list m_given].map .d)])[μ.length]? = some (.lst ([PyData.list m_put, .list m_given].map .d)) := by simp
  have c1 : cList ([PyData.list m_put, .list m_given].map .d) μ = _ := cList_c (by simp)
  have H1 := H.at_app (xs := [Cell.lst ([PyData.list m_put, .list m_given].map .d)])
  have E1 := Ext.app h μ [Cell.lst ([PyData.list m_put, .list m_given].map .d)]
  have hq : μ.length ≠ h := by have := H.lt; omega
  have lq := Nat.le_refl μ.length
  generalize hqq : μ.length = q at c1 l1 hq lq
  generalize (μ ++ [Cell.lst ([PyData.list m_put, .list m_given].map .d)]) = μ1 at *
  have a1 := dAppend_c (b := .d (.list m_within)) l1 (by simp)
  have s1 := isLst_c l1
  have l2 : (μ1.set q (.lst (([PyData.list m_put, .list m_given].map .d) ++ [.d (.list m_within)])))[q]? = some (.lst (([PyData.list m_put, .list m_given].map .d) ++ [.d (.list m_within)])) := by rw [List.getElem?_set_self (lt_of_get l1)]
  have H2 := H1.at_set (c := .lst (([PyData.list m_put, .list m_given].map .d) ++ [.d (.list m_within)])) hq
  have E2 := E1.at_set (c := .lst (([PyData.list m_put, .list m_given].map .d) ++ [.d (.list m_within)])) (n := q) (by omega)
  generalize (μ1.set q (.lst (([PyData.list m_put, .list m_given].map .d) ++ [.d (.list m_within)]))) = μ2 at *
  have a2 := dAppend_c (b := .d (.list m_among)) l2 (by simp)
  have s2 := isLst_c l2
  have l3 : (μ2.set q (.lst ((([PyData.list m_put, .list m_given].map .d) ++ [.d (.list m_within)]) ++ [.d (.list m_among)])))[q]? = some (.lst ((([PyData.list m_put, .list m_given].map .d) ++ [.d (.list m_within)]) ++ [.d (.list m_among)])) := by rw [List.getElem?_set_self (lt_of_get l2)]
  have H3 := H2.at_set (c := .lst ((([PyData.list m_put, .list m_given].map .d) ++ [.d (.list m_within)]) ++ [.d (.list m_among)])) hq
  have E3 := E2.at_set (c := .lst ((([PyData.list m_put, .list m_given].map .d) ++ [.d (.list m_within)]) ++ [.d (.list m_among)])) (n := q) (by omega)
  generalize (μ2.set q (.lst ((([PyData.list m_put, .list m_given].map .d) ++ [.d (.list m_within)]) ++ [.d (.list m_among)]))) = μ3 at *
  have a3 := dAppend_c (b := .d (.list m_before)) l3 (by simp)
  have s3 := isLst_c l3
  have l4 : (μ3.set q (.lst (menus_.map .d)))[q]? = some (.lst (menus_.map .d)) := by rw [List.getElem?_set_self (lt_of_get l3)]
  have H4 := H3.at_set (c := .lst (menus_.map .d)) hq
  have E4 := E3.at_set (c := .lst (menus_.map .d)) (n := q) (by omega)
  have fin := fin q _ (H4.mono (by omega)) E4 l4
  have e3 : (μ3.set q (.lst ((([PyData.list m_put, .list m_given].map Dv.d) ++ [.d (.list m_within)] ++ [.d (.list m_among)]) ++ [.d (.list m_before)]))) = μ3.set q (.lst (menus_.map .d)) := rfl
  rw [e3] at a3
  generalize (μ3.set q (.lst (menus_.map .d))) = μ4 at *
  simp only [m_put, m_given, m_within, m_among, m_before, List.map] at c1 a1 a2 a3
  simp_arith [r10_l_case, c1]
  simp_arith [r9_l_case, s1, pow10_8, a1]
  simp_arith [r8_l_case, s2, a2]
  simp_arith [r7_l_case, s3, a3]
  exact fin
theorem wkT {l : List Nat} (h : (decide (l.length ≤ 10) && l.all fun c => decide (c < 128)) = true) : Wk true (.str (T l)) := by
  simp only [Bool.and_eq_true, decide_eq_true_eq, List.all_eq_true] at h
  exact ⟨l, rfl, h.1, h.2⟩
theorem wkI {i : Int} (h : i.natAbs < 10 ^ 9) : Wk false (.int i) := ⟨i, rfl, h⟩
theorem st_menu_put (hR : RowD R) (hnm : Tn 8 nm) {t : D} (ht : t ∈ m_put) : ∃ ds : List D, t = .tuple ds ∧ ds.length ≤ 3 ∧ StepD R (.tuple (nm :: .str (T [112, 117, 116]) :: ds)) := by
  simp only [m_put, List.mem_cons, List.not_mem_nil, or_false] at ht
  rcases ht with rfl | rfl | rfl | rfl <;> refine ⟨_, rfl, by simp, ?_⟩
  · obtain ⟨v, hv, hk⟩ := hR.ta
    refine StepD.of (st_put hv) (.one (by decide) ?_) ?_ (by simp)
    · cases q : isNone v
      · simp only [Bool.false_eq_true, if_false]
        exact hk.vb (by decide)
      · simp only [if_true]
        exact (Tn.of (n := 10) (by decide)).vb (by decide)
    · intro d hd
      simp only [List.mem_cons, List.not_mem_nil, or_false] at hd
      rcases hd with rfl | rfl | rfl | rfl
      · exact hnm.pt (by decide)
      · exact (Tn.of (n := 10) (by decide)).pt (by decide)
      · exact nD_pt (by decide) (by decide)
      · exact (Tn.of (n := 10) (by decide)).pt (by decide)
  · obtain ⟨v, hv, hk⟩ := hR.na
    refine StepD.of (st_put hv) (.one (by decide) ?_) ?_ (by simp)
    · cases q : isNone v
      · simp only [Bool.false_eq_true, if_false]
        exact hk.vb (by decide)
      · simp only [if_true]
        exact .inr (.inr ⟨_, rfl, by decide⟩)
    · intro d hd
      simp only [List.mem_cons, List.not_mem_nil, or_false] at hd
      rcases hd with rfl | rfl | rfl | rfl
      · exact hnm.pt (by decide)
      · exact (Tn.of (n := 10) (by decide)).pt (by decide)
      · exact nD_pt (by decide) (by decide)
      · exact Vb.pt (.inr (.inr ⟨_, rfl, by decide⟩))
  · obtain ⟨v, hv, hk⟩ := hR.nb
    refine StepD.of (st_put hv) (.one (by decide) ?_) ?_ (by simp)
    · cases q : isNone v
      · simp only [Bool.false_eq_true, if_false]
        exact hk.vb (by decide)
      · simp only [if_true]
        exact .inr (.inr ⟨_, rfl, by decide⟩)
    · intro d hd
      simp only [List.mem_cons, List.not_mem_nil, or_false] at hd
      rcases hd with rfl | rfl | rfl | rfl
      · exact hnm.pt (by decide)
      · exact (Tn.of (n := 10) (by decide)).pt (by decide)
      · exact nD_pt (by decide) (by decide)
      · exact Vb.pt (.inr (.inr ⟨_, rfl, by decide⟩))
  · obtain ⟨v, hv, hk⟩ := hR.tb
    refine StepD.of (st_put hv) (.one (by decide) ?_) ?_ (by simp)
    · cases q : isNone v
      · simp only [Bool.false_eq_true, if_false]
        exact hk.vb (by decide)
      · simp only [if_true]
        exact (Tn.of (n := 10) (by decide)).vb (by decide)
    · intro d hd
      simp only [List.mem_cons, List.not_mem_nil, or_false] at hd
      rcases hd with rfl | rfl | rfl | rfl
      · exact hnm.pt (by decide)
      · exact (Tn.of (n := 10) (by decide)).pt (by decide)
      · exact nD_pt (by decide) (by decide)
      · exact (Tn.of (n := 10) (by decide)).pt (by decide)
theorem lot_4 (hR : RowD R) (e : μ[n]? = some (.dic (dv R))) (hn : n ≠ h) (hnm : Tn 8 nm) (H : Bx h m μ) (hm : m + 100 ≤ 10 ^ 9) (fin : FinL h m n μ P) :
    Wp (r14_l_case [some (.c h), some (.d (.int 4)), some (.c n), some (.d (nD c)), some (.d (.str (T [s]))), some (.d nm), none, none, none, none, none] μ) (finP P) := by
  simp_arith [r14_l_case, r13_l_case, r12_l_case, r11_l_case]
  refine w_menus (k := 4) H hm fun q μ1 H1 E1 e1 => ?_
  have ix : dIx (.c q) (.d (.int 0)) μ1 = .ok (.d (.list m_put)) μ1 := dIx_cd (ds := menus_) (k := 0) e1 (by decide)
  have iw : dIx (.d (.list [.str (T [112, 117, 116]), .str (T [103, 105, 118, 101, 110]), .str (T [119, 105, 116, 104, 105, 110]), .str (T [97, 109, 111, 110, 103]), .str (T [98, 101, 102, 111, 114, 101])])) (.d (.int 0)) μ1 = .ok (.d (.str (T [112, 117, 116]))) μ1 := rfl
  simp_arith [r6_l_case, iw]
  simp_arith [r5_l_case, ix]
  refine w_of (ds := m_put) H1 (by omega) (by simp [m_put]) (by simp [m_put]) fun t μ2 ht H2 O2 => ?_
  obtain ⟨ds, rfl, hl, hS⟩ := st_menu_put hR hnm ht
  have ad : dAdd (.d (.tuple [nm, .str (T [112, 117, 116])])) (.d (.tuple ds)) μ2 = _ := dAdd_tt (by simp; omega)
  have E2 := E1.trans (.oth O2)
  have fz := frz_d (E2.at hn e)
  simp_arith [ad, fz]
  exact fin_l fin hR hS hn (H2.mono (by omega)) E2
theorem st_menu_given (hR : RowD R) (hnm : Tn 8 nm) {t : D} (ht : t ∈ m_given) : ∃ ds : List D, t = .tuple ds ∧ ds.length ≤ 3 ∧ StepD R (.tuple (nm :: .str (T [103, 105, 118, 101, 110]) :: ds)) := by
  simp only [m_given, List.mem_cons, List.not_mem_nil, or_false] at ht
  rcases ht with rfl | rfl | rfl | rfl <;> refine ⟨_, rfl, by simp, ?_⟩
  · obtain ⟨v, hv, hk⟩ := hR.ta
    refine StepD.of (st_given hv) .nil ?_ (by simp)
    intro d hd
    simp only [List.mem_cons, List.not_mem_nil, or_false] at hd
    rcases hd with rfl | rfl | rfl
    · exact hnm.pt (by decide)
    · exact (Tn.of (n := 10) (by decide)).pt (by decide)
    · exact nD_pt (by decide) (by decide)
  · obtain ⟨v, hv, hk⟩ := hR.tb
    refine StepD.of (st_given hv) .nil ?_ (by simp)
    intro d hd
    simp only [List.mem_cons, List.not_mem_nil, or_false] at hd
    rcases hd with rfl | rfl | rfl
    · exact hnm.pt (by decide)
    · exact (Tn.of (n := 10) (by decide)).pt (by decide)
    · exact nD_pt (by decide) (by decide)
  · obtain ⟨v, hv, hk⟩ := hR.na
    refine StepD.of (st_given hv) .nil ?_ (by simp)
    intro d hd
    simp only [List.mem_cons, List.not_mem_nil, or_false] at hd
    rcases hd with rfl | rfl | rfl
    · exact hnm.pt (by decide)
    · exact (Tn.of (n := 10) (by decide)).pt (by decide)
    · exact nD_pt (by decide) (by decide)
  · obtain ⟨v, hv, hk⟩ := hR.nb
    refine StepD.of (st_given hv) .nil ?_ (by simp)
    intro d hd
    simp only [List.mem_cons, List.not_mem_nil, or_false] at hd
    rcases hd with rfl | rfl | rfl
    · exact hnm.pt (by decide)
    · exact (Tn.of (n := 10) (by decide)).pt (by decide)
    · exact nD_pt (by decide) (by decide)
theorem lot_5 (hR : RowD R) (e : μ[n]? = some (.dic (dv R))) (hn : n ≠ h) (hnm : Tn 8 nm) (H : Bx h m μ) (hm : m + 100 ≤ 10 ^ 9) (fin : FinL h m n μ P) :
    Wp (r14_l_case [some (.c h), some (.d (.int 5)), some (.c n), some (.d (nD c)), some (.d (.str (T [s]))), some (.d nm), none, none, none, none, none] μ) (finP P) := by
  simp_arith [r14_l_case, r13_l_case, r12_l_case, r11_l_case]
  refine w_menus (k := 5) H hm fun q μ1 H1 E1 e1 => ?_
  have ix : dIx (.c q) (.d (.int 1)) μ1 = .ok (.d (.list m_given)) μ1 := dIx_cd (ds := menus_) (k := 1) e1 (by decide)
  have iw : dIx (.d (.list [.str (T [112, 117, 116]), .str (T [103, 105, 118, 101, 110]), .str (T [119, 105, 116, 104, 105, 110]), .str (T [97, 109, 111, 110, 103]), .str (T [98, 101, 102, 111, 114, 101])])) (.d (.int 1)) μ1 = .ok (.d (.str (T [103, 105, 118, 101, 110]))) μ1 := rfl
  simp_arith [r6_l_case, iw]
  simp_arith [r5_l_case, ix]
  refine w_of (ds := m_given) H1 (by omega) (by simp [m_given]) (by simp [m_given]) fun t μ2 ht H2 O2 => ?_
  obtain ⟨ds, rfl, hl, hS⟩ := st_menu_given hR hnm ht
  have ad : dAdd (.d (.tuple [nm, .str (T [103, 105, 118, 101, 110])])) (.d (.tuple ds)) μ2 = _ := dAdd_tt (by simp; omega)
  have E2 := E1.trans (.oth O2)
  have fz := frz_d (E2.at hn e)
  simp_arith [ad, fz]
  exact fin_l fin hR hS hn (H2.mono (by omega)) E2
theorem st_menu_within (hR : RowD R) (hnm : Tn 8 nm) {t : D} (ht : t ∈ m_within) : ∃ ds : List D, t = .tuple ds ∧ ds.length ≤ 3 ∧ StepD R (.tuple (nm :: .str (T [119, 105, 116, 104, 105, 110]) :: ds)) := by
  simp only [m_within, List.mem_cons, List.not_mem_nil, or_false] at ht
  rcases ht with rfl | rfl | rfl | rfl | rfl | rfl <;> refine ⟨_, rfl, by simp, ?_⟩
  · obtain ⟨v, hv, hk⟩ := hR.na
    obtain ⟨mk, sd⟩ := st_within (x := nm) hv hk (a := .int 0) (b := .int 5) (wkI (by decide)) (wkI (by decide))
    refine StepD.of sd .nil ?_ (by simp)
    intro d hd
    simp only [List.mem_cons, List.not_mem_nil, or_false] at hd
    rcases hd with rfl | rfl | rfl | rfl | rfl
    · exact hnm.pt (by decide)
    · exact (Tn.of (n := 10) (by decide)).pt (by decide)
    · exact nD_pt (by decide) (by decide)
    · exact (wkI (by decide)).vb.pt
    · exact (wkI (by decide)).vb.pt
  · obtain ⟨v, hv, hk⟩ := hR.nb
    obtain ⟨mk, sd⟩ := st_within (x := nm) hv hk (a := .int 5) (b := .int 5) (wkI (by decide)) (wkI (by decide))
    refine StepD.of sd .nil ?_ (by simp)
    intro d hd
    simp only [List.mem_cons, List.not_mem_nil, or_false] at hd
    rcases hd with rfl | rfl | rfl | rfl | rfl
    · exact hnm.pt (by decide)
    · exact (Tn.of (n := 10) (by decide)).pt (by decide)
    · exact nD_pt (by decide) (by decide)
    · exact (wkI (by decide)).vb.pt
    · exact (wkI (by decide)).vb.pt
  · obtain ⟨v, hv, hk⟩ := hR.na
    obtain ⟨mk, sd⟩ := st_within (x := nm) hv hk (a := .int (-7)) (b := .int 100000000) (wkI (by decide)) (wkI (by decide))
    refine StepD.of sd .nil ?_ (by simp)
    intro d hd
    simp only [List.mem_cons, List.not_mem_nil, or_false] at hd
    rcases hd with rfl | rfl | rfl | rfl | rfl
    · exact hnm.pt (by decide)
    · exact (Tn.of (n := 10) (by decide)).pt (by decide)
    · exact nD_pt (by decide) (by decide)
    · exact (wkI (by decide)).vb.pt
    · exact (wkI (by decide)).vb.pt
  · obtain ⟨v, hv, hk⟩ := hR.ta
    obtain ⟨mk, sd⟩ := st_within (x := nm) hv hk (a := .str (T [97])) (b := .str (T [98])) (wkT (by decide)) (wkT (by decide))
    refine StepD.of sd .nil ?_ (by simp)
    intro d hd
    simp only [List.mem_cons, List.not_mem_nil, or_false] at hd
    rcases hd with rfl | rfl | rfl | rfl | rfl
    · exact hnm.pt (by decide)
    · exact (Tn.of (n := 10) (by decide)).pt (by decide)
    · exact nD_pt (by decide) (by decide)
    · exact (wkT (by decide)).vb.pt
    · exact (wkT (by decide)).vb.pt
  · obtain ⟨v, hv, hk⟩ := hR.tb
    obtain ⟨mk, sd⟩ := st_within (x := nm) hv hk (a := .str (T [97])) (b := .str (T [97])) (wkT (by decide)) (wkT (by decide))
    refine StepD.of sd .nil ?_ (by simp)
    intro d hd
    simp only [List.mem_cons, List.not_mem_nil, or_false] at hd
    rcases hd with rfl | rfl | rfl | rfl | rfl
    · exact hnm.pt (by decide)
    · exact (Tn.of (n := 10) (by decide)).pt (by decide)
    · exact nD_pt (by decide) (by decide)
    · exact (wkT (by decide)).vb.pt
    · exact (wkT (by decide)).vb.pt
  · obtain ⟨v, hv, hk⟩ := hR.nb
    obtain ⟨mk, sd⟩ := st_within (x := nm) hv hk (a := .int 6) (b := .int 9) (wkI (by decide)) (wkI (by decide))
    refine StepD.of sd .nil ?_ (by simp)
    intro d hd
    simp only [List.mem_cons, List.not_mem_nil, or_false] at hd
    rcases hd with rfl | rfl | rfl | rfl | rfl
    · exact hnm.pt (by decide)
    · exact (Tn.of (n := 10) (by decide)).pt (by decide)
    · exact nD_pt (by decide) (by decide)
    · exact (wkI (by decide)).vb.pt
    · exact (wkI (by decide)).vb.pt
theorem lot_6 (hR : RowD R) (e : μ[n]? = some (.dic (dv R))) (hn : n ≠ h) (hnm : Tn 8 nm) (H : Bx h m μ) (hm : m + 100 ≤ 10 ^ 9) (fin : FinL h m n μ P) :
    Wp (r14_l_case [some (.c h), some (.d (.int 6)), some (.c n), some (.d (nD c)), some (.d (.str (T [s]))), some (.d nm), none, none, none, none, none] μ) (finP P) := by
  simp_arith [r14_l_case, r13_l_case, r12_l_case, r11_l_case]
  refine w_menus (k := 6) H hm fun q μ1 H1 E1 e1 => ?_
  have ix : dIx (.c q) (.d (.int 2)) μ1 = .ok (.d (.list m_within)) μ1 := dIx_cd (ds := menus_) (k := 2) e1 (by decide)
  have iw : dIx (.d (.list [.str (T [112, 117, 116]), .str (T [103, 105, 118, 101, 110]), .str (T [119, 105, 116, 104, 105, 110]), .str (T [97, 109, 111, 110, 103]), .str (T [98, 101, 102, 111, 114, 101])])) (.d (.int 2)) μ1 = .ok (.d (.str (T [119, 105, 116, 104, 105, 110]))) μ1 := rfl
  simp_arith [r6_l_case, iw]
  simp_arith [r5_l_case, ix]
  refine w_of (ds := m_within) H1 (by omega) (by simp [m_within]) (by simp [m_within]) fun t μ2 ht H2 O2 => ?_
  obtain ⟨ds, rfl, hl, hS⟩ := st_menu_within hR hnm ht
  have ad : dAdd (.d (.tuple [nm, .str (T [119, 105, 116, 104, 105, 110])])) (.d (.tuple ds)) μ2 = _ := dAdd_tt (by simp; omega)
  have E2 := E1.trans (.oth O2)
  have fz := frz_d (E2.at hn e)
  simp_arith [ad, fz]
  exact fin_l fin hR hS hn (H2.mono (by omega)) E2
theorem st_menu_among (hR : RowD R) (hnm : Tn 8 nm) {t : D} (ht : t ∈ m_among) : ∃ ds : List D, t = .tuple ds ∧ ds.length ≤ 3 ∧ StepD R (.tuple (nm :: .str (T [97, 109, 111, 110, 103]) :: ds)) := by
  simp only [m_among, List.mem_cons, List.not_mem_nil, or_false] at ht
  rcases ht with rfl | rfl | rfl | rfl <;> refine ⟨_, rfl, by simp, ?_⟩
  · obtain ⟨v, hv, hk⟩ := hR.ta
    have hw : ∀ w ∈ ([.str (T [97])] : List D), Wk true w := fun w hw => by
      simp only [List.mem_cons, List.not_mem_nil, or_false] at hw
      rcases hw with rfl <;> exact wkT (by decide)
    obtain ⟨mk, sd⟩ := st_among (x := nm) hv hk hw
    refine StepD.of sd .nil ?_ (by simp)
    intro d hd
    simp only [List.mem_cons, List.not_mem_nil, or_false] at hd
    rcases hd with rfl | rfl | rfl | rfl
    · exact hnm.pt (by decide)
    · exact (Tn.of (n := 10) (by decide)).pt (by decide)
    · exact nD_pt (by decide) (by decide)
    · exact (tup_pt (fun d hd => (hw d hd).vb) (by simp)).up (by decide) (by decide)
  · obtain ⟨v, hv, hk⟩ := hR.tb
    have hw : ∀ w ∈ ([.str (T [97]), .str (T [98, 32, 99]), .str (T [120])] : List D), Wk true w := fun w hw => by
      simp only [List.mem_cons, List.not_mem_nil, or_false] at hw
      rcases hw with rfl | rfl | rfl <;> exact wkT (by decide)
    obtain ⟨mk, sd⟩ := st_among (x := nm) hv hk hw
    refine StepD.of sd .nil ?_ (by simp)
    intro d hd
    simp only [List.mem_cons, List.not_mem_nil, or_false] at hd
    rcases hd with rfl | rfl | rfl | rfl
    · exact hnm.pt (by decide)
    · exact (Tn.of (n := 10) (by decide)).pt (by decide)
    · exact nD_pt (by decide) (by decide)
    · exact (tup_pt (fun d hd => (hw d hd).vb) (by simp)).up (by decide) (by decide)
  · obtain ⟨v, hv, hk⟩ := hR.na
    have hw : ∀ w ∈ ([.int 0, .int 5] : List D), Wk false w := fun w hw => by
      simp only [List.mem_cons, List.not_mem_nil, or_false] at hw
      rcases hw with rfl | rfl <;> exact wkI (by decide)
    obtain ⟨mk, sd⟩ := st_among (x := nm) hv hk hw
    refine StepD.of sd .nil ?_ (by simp)
    intro d hd
    simp only [List.mem_cons, List.not_mem_nil, or_false] at hd
    rcases hd with rfl | rfl | rfl | rfl
    · exact hnm.pt (by decide)
    · exact (Tn.of (n := 10) (by decide)).pt (by decide)
    · exact nD_pt (by decide) (by decide)
    · exact (tup_pt (fun d hd => (hw d hd).vb) (by simp)).up (by decide) (by decide)
  · obtain ⟨v, hv, hk⟩ := hR.nb
    have hw : ∀ w ∈ ([.int 5] : List D), Wk false w := fun w hw => by
      simp only [List.mem_cons, List.not_mem_nil, or_false] at hw
      rcases hw with rfl <;> exact wkI (by decide)
    obtain ⟨mk, sd⟩ := st_among (x := nm) hv hk hw
    refine StepD.of sd .nil ?_ (by simp)
    intro d hd
    simp only [List.mem_cons, List.not_mem_nil, or_false] at hd
    rcases hd with rfl | rfl | rfl | rfl
    · exact hnm.pt (by decide)
    · exact (Tn.of (n := 10) (by decide)).pt (by decide)
    · exact nD_pt (by decide) (by decide)
    · exact (tup_pt (fun d hd => (hw d hd).vb) (by simp)).up (by decide) (by decide)
theorem lot_7 (hR : RowD R) (e : μ[n]? = some (.dic (dv R))) (hn : n ≠ h) (hnm : Tn 8 nm) (H : Bx h m μ) (hm : m + 100 ≤ 10 ^ 9) (fin : FinL h m n μ P) :
    Wp (r14_l_case [some (.c h), some (.d (.int 7)), some (.c n), some (.d (nD c)), some (.d (.str (T [s]))), some (.d nm), none, none, none, none, none] μ) (finP P) := by
  simp_arith [r14_l_case, r13_l_case, r12_l_case, r11_l_case]
  refine w_menus (k := 7) H hm fun q μ1 H1 E1 e1 => ?_
  have ix : dIx (.c q) (.d (.int 3)) μ1 = .ok (.d (.list m_among)) μ1 := dIx_cd (ds := menus_) (k := 3) e1 (by decide)
  have iw : dIx (.d (.list [.str (T [112, 117, 116]), .str (T [103, 105, 118, 101, 110]), .str (T [119, 105, 116, 104, 105, 110]), .str (T [97, 109, 111, 110, 103]), .str (T [98, 101, 102, 111, 114, 101])])) (.d (.int 3)) μ1 = .ok (.d (.str (T [97, 109, 111, 110, 103]))) μ1 := rfl
  simp_arith [r6_l_case, iw]
  simp_arith [r5_l_case, ix]
  refine w_of (ds := m_among) H1 (by omega) (by simp [m_among]) (by simp [m_among]) fun t μ2 ht H2 O2 => ?_
  obtain ⟨ds, rfl, hl, hS⟩ := st_menu_among hR hnm ht
  have ad : dAdd (.d (.tuple [nm, .str (T [97, 109, 111, 110, 103])])) (.d (.tuple ds)) μ2 = _ := dAdd_tt (by simp; omega)
  have E2 := E1.trans (.oth O2)
  have fz := frz_d (E2.at hn e)
  simp_arith [ad, fz]
  exact fin_l fin hR hS hn (H2.mono (by omega)) E2
theorem st_menu_before (hR : RowD R) (hnm : Tn 8 nm) {t : D} (ht : t ∈ m_before) : ∃ ds : List D, t = .tuple ds ∧ ds.length ≤ 3 ∧ StepD R (.tuple (nm :: .str (T [98, 101, 102, 111, 114, 101]) :: ds)) := by
  simp only [m_before, List.mem_cons, List.not_mem_nil, or_false] at ht
  rcases ht with rfl | rfl | rfl | rfl <;> refine ⟨_, rfl, by simp, ?_⟩
  · obtain ⟨v, hv, hk⟩ := hR.na
    obtain ⟨u, hu, hk2⟩ := hR.nb
    obtain ⟨mk, sd⟩ := st_before (x := nm) hv hu hk hk2
    refine StepD.of sd .nil ?_ (by simp)
    intro d hd
    simp only [List.mem_cons, List.not_mem_nil, or_false] at hd
    rcases hd with rfl | rfl | rfl | rfl
    · exact hnm.pt (by decide)
    · exact (Tn.of (n := 10) (by decide)).pt (by decide)
    · exact nD_pt (by decide) (by decide)
    · exact nD_pt (by decide) (by decide)
  · obtain ⟨v, hv, hk⟩ := hR.nb
    obtain ⟨u, hu, hk2⟩ := hR.na
    obtain ⟨mk, sd⟩ := st_before (x := nm) hv hu hk hk2
    refine StepD.of sd .nil ?_ (by simp)
    intro d hd
    simp only [List.mem_cons, List.not_mem_nil, or_false] at hd
    rcases hd with rfl | rfl | rfl | rfl
    · exact hnm.pt (by decide)
    · exact (Tn.of (n := 10) (by decide)).pt (by decide)
    · exact nD_pt (by decide) (by decide)
    · exact nD_pt (by decide) (by decide)
  · obtain ⟨v, hv, hk⟩ := hR.ta
    obtain ⟨u, hu, hk2⟩ := hR.tb
    obtain ⟨mk, sd⟩ := st_before (x := nm) hv hu hk hk2
    refine StepD.of sd .nil ?_ (by simp)
    intro d hd
    simp only [List.mem_cons, List.not_mem_nil, or_false] at hd
    rcases hd with rfl | rfl | rfl | rfl
    · exact hnm.pt (by decide)
    · exact (Tn.of (n := 10) (by decide)).pt (by decide)
    · exact nD_pt (by decide) (by decide)
    · exact nD_pt (by decide) (by decide)
  · obtain ⟨v, hv, hk⟩ := hR.tb
    obtain ⟨u, hu, hk2⟩ := hR.ta
    obtain ⟨mk, sd⟩ := st_before (x := nm) hv hu hk hk2
    refine StepD.of sd .nil ?_ (by simp)
    intro d hd
    simp only [List.mem_cons, List.not_mem_nil, or_false] at hd
    rcases hd with rfl | rfl | rfl | rfl
    · exact hnm.pt (by decide)
    · exact (Tn.of (n := 10) (by decide)).pt (by decide)
    · exact nD_pt (by decide) (by decide)
    · exact nD_pt (by decide) (by decide)
theorem lot_8 (hR : RowD R) (e : μ[n]? = some (.dic (dv R))) (hn : n ≠ h) (hnm : Tn 8 nm) (H : Bx h m μ) (hm : m + 100 ≤ 10 ^ 9) (fin : FinL h m n μ P) :
    Wp (r14_l_case [some (.c h), some (.d (.int 8)), some (.c n), some (.d (nD c)), some (.d (.str (T [s]))), some (.d nm), none, none, none, none, none] μ) (finP P) := by
  simp_arith [r14_l_case, r13_l_case, r12_l_case, r11_l_case]
  refine w_menus (k := 8) H hm fun q μ1 H1 E1 e1 => ?_
  have ix : dIx (.c q) (.d (.int 4)) μ1 = .ok (.d (.list m_before)) μ1 := dIx_cd (ds := menus_) (k := 4) e1 (by decide)
  have iw : dIx (.d (.list [.str (T [112, 117, 116]), .str (T [103, 105, 118, 101, 110]), .str (T [119, 105, 116, 104, 105, 110]), .str (T [97, 109, 111, 110, 103]), .str (T [98, 101, 102, 111, 114, 101])])) (.d (.int 4)) μ1 = .ok (.d (.str (T [98, 101, 102, 111, 114, 101]))) μ1 := rfl
  simp_arith [r6_l_case, iw]
  simp_arith [r5_l_case, ix]
  refine w_of (ds := m_before) H1 (by omega) (by simp [m_before]) (by simp [m_before]) fun t μ2 ht H2 O2 => ?_
  obtain ⟨ds, rfl, hl, hS⟩ := st_menu_before hR hnm ht
  have ad : dAdd (.d (.tuple [nm, .str (T [98, 101, 102, 111, 114, 101])])) (.d (.tuple ds)) μ2 = _ := dAdd_tt (by simp; omega)
  have E2 := E1.trans (.oth O2)
  have fz := frz_d (E2.at hn e)
  simp_arith [ad, fz]
  exact fin_l fin hR hS hn (H2.mono (by omega)) E2
end
end LW

namespace LW
open PySem PySem.Spec PyProof.Rows L2 DL
section
variable {h m : Nat} {μ : Store} {P : Dv → Store → Prop}
theorem w_case {k : Nat} (hk : k < 9) (H : Bx h m μ) (hm : m + 200 ≤ 10 ^ 9) (t0 : μ[0]? = some (.tab 9 lq_l_spelled)) (h0 : h ≠ 0)
    (fin : ∀ st R μ', RowD R → StepD R st → Bx h (m + 80) μ' → Ext h μ μ' → P (.d (.tuple [st, dicOf R])) μ') : Wp (F_l_case [.c h, .d (.int k)] μ) P := by
  refine w_pre H (by omega) t0 h0 fun R n c s nm μ' hR e hn ln hc hs hnm H' E' => ?_
  have fl : FinL h (m + 40) n μ' P := fun st R' μ2 hR2 hS H2 X => fin st R' μ2 hR2 hS H2 (X μ ln E')
  have t1 := E'.at (Ne.symm h0) t0
  match k, hk with
  | 0, _ => exact lot_0 hR e hn hc hs hnm H' (by omega) fl
  | 1, _ => exact lot_1 hR e hn hc hs hnm H' (by omega) fl
  | 2, _ => exact lot_2 hR e hn hc hnm t1 h0 H' (by omega) fl
  | 3, _ => exact lot_3 hR e hn hc hnm H' (by omega) fl
  | 4, _ => exact lot_4 hR e hn hnm H' (by omega) fl
  | 5, _ => exact lot_5 hR e hn hnm H' (by omega) fl
  | 6, _ => exact lot_6 hR e hn hnm H' (by omega) fl
  | 7, _ => exact lot_7 hR e hn hnm H' (by omega) fl
  | 8, _ => exact lot_8 hR e hn hnm H' (by omega) fl
  | k + 9, hk => omega
theorem st_here {R : Row} {st : D} (hR : RowD R) (hS : StepD R st) : dReprG [.d (.tuple [st, dicOf R])] μ = .ok (.d (.str (PyData.shown (.tuple [st, dicOf R])))) μ := by
  refine (Sw.up (Sw.tup (k := 4) (c := 100000) (n := 2) (fun d hd => ?_) (by simp)) (by decide) (by decide)).repr
  simp only [List.mem_cons, List.not_mem_nil, or_false] at hd
  rcases hd with rfl | rfl
  · exact hS.sw
  · exact hR.sw.up (by decide) (by decide)
theorem dEq_kk {z : Str} {μ : Store} : dEq true (.d (.str z)) (.d (.str z)) μ = .ok (.d (.bool false)) μ := by
  rw [dEq_dd rfl]
  simp [PyData.eqv]
theorem w_turn {Q : Fl → Store → Prop} {ν : Store} {a0 a1 a5 a6 a7 a8 : Option Dv} {f t : Nat} (H : Bx h m ν) (hm : m + 200 ≤ 10 ^ 9) (t0 : ν[0]? = some (.tab 9 lq_l_spelled)) (h0 : h ≠ 0)
    (fin : ∀ ν' y5 y6 y7 y8, Bx h (m + 80) ν' → Ext h ν ν' → Q (.nx [a0, a1, some (.c h), some (.d (.int f)), some (.d (.int t)), y5, y6, y7, y8]) ν') : Wp (w1_law [a0, a1, some (.c h), some (.d (.int f)), some (.d (.int t)), a5, a6, a7, a8] ν) Q := by
  obtain ⟨q, e9, hq⟩ : ∃ q : Nat, ((f : Int) + (t : Int)) % 9 = (q : Int) ∧ q < 9 := ⟨(f + t) % 9, by omega, Nat.mod_lt _ (by decide)⟩
  simp_arith [w1_law, e9]
  refine w_case hq H hm t0 h0 fun st R ν' hR hS H' E' => ?_
  obtain ⟨⟨M, mk, ⟨sd1, sd2⟩, hM⟩, _⟩ := id hS
  have s1 := sd1 ν'
  have s2 := sd2 ν'
  have rp := st_here (μ := ν') hR hS
  have tl := w_told (mk := mk) (μ := ν') hM
  have fin := fin ν'
  generalize PyData.shown (.tuple [st, dicOf R]) = sw at *
  generalize dicOf R = r at *
  generalize (PyData.tuple [dicOf M, .bool mk]) = td at *
  simp_arith [r3_law, rp, s1]
  have pk : pickL (Dv.d .none) [1, 0] [Dv.d r, Dv.d st] = [Dv.d st, Dv.d r] := rfl
  simp_arith [r2_law, s2, tl, pk]
  simp_arith [r1_law, rp, dEq_kk]
  exact fin _ _ _ _ H' E'
theorem law_right : ∀ ns : List Int, ns.length ≤ 63 → (∀ i ∈ ns, Builtin.Int.intBits i ≤ 1048576) → ∃ μ', F_law [.d (.list (ns.map PyData.int))] [.tab 9 lq_l_spelled] = .ok (.d (.bool true)) μ' := by
  intro ns hn hi
  have w : Wp (F_law [.d (.list (ns.map PyData.int))] [.tab 9 lq_l_spelled]) fun b _ => b = .d (.bool true) := by
    unfold F_law B_law
    apply Wp_run
    obtain ⟨k, ek, hk⟩ : ∃ k : Nat, (if 1 < (if (ns.length : Int) < 6 then (ns.length : Int) else 6) then (if (ns.length : Int) < 6 then (ns.length : Int) else 6) else 1).toNat = k ∧ k ≤ 6 := ⟨_, rfl, by split <;> split <;> omega⟩
    simp_arith []
    rw [ek]
    refine Wp_forL (fun i ρ μ' => μ'[0]? = some (.tab 9 lq_l_spelled) ∧ ∃ a1 a2 a3 a4 a5 a6 a7 a8, ρ = [some (.d (.list (ns.map PyData.int))), a1, a2, a3, a4, a5, a6, a7, a8]) (i := 0) ⟨rfl, _, _, _, _, _, _, _, _, rfl⟩ (fun j b ρ μ' hb I => ?_) fun ρ' μ' I => ?_
    · obtain ⟨t0, a1, a2, a3, a4, a5, a6, a7, a8, rfl⟩ := I
      obtain ⟨i, hi2, rfl⟩ := mem_rng hb
      have lt0 := lt_of_get t0
      simp_arith [w2_law]
      refine w_hand hn (by omega) fun n μ1 hn1 H1 X1 => ?_
      have n0 : n ≠ 0 := by omega
      have t1 : μ1[0]? = some (.tab 9 lq_l_spelled) := (X1 0 lt0).trans t0
      simp_arith [r5_law]
      refine w_take H1 (by omega) (by decide) (by decide) fun f μ2 hf H2 O2 => ?_
      have t2 := (O2.2 0 (Ne.symm n0)).trans t1
      simp_arith [r4_law]
      refine Wp_forL (fun j ρ ν => ν[0]? = some (.tab 9 lq_l_spelled) ∧ Bx n (2 + 80 * j) ν ∧ ∃ b4 b5 b6 b7 b8, ρ = [some (.d (.list (ns.map PyData.int))), some (.d (.int i)), some (.c n), some (.d (.int f)), b4, b5, b6, b7, b8]) (i := 0) ⟨t2, H2.mono (by omega), _, _, _, _, _, rfl⟩ (fun j b ρ ν hb I => ?_) fun ρ' ν I => ?_
      · obtain ⟨t0, H, b4, b5, b6, b7, b8, rfl⟩ := I
        have hj := (List.getElem?_eq_some_iff.mp hb).1
        obtain ⟨t, ht, rfl⟩ := mem_rng hb
        simp at hj
        simp_arith []
        refine w_turn H (by omega) t0 n0 fun ν' y5 y6 y7 y8 H' E' => ?_
        exact ⟨E'.at (Ne.symm n0) t0, H'.mono (by omega), _, _, _, _, _, rfl⟩
      · obtain ⟨t0, H, b4, b5, b6, b7, b8, rfl⟩ := I
        exact ⟨t0, _, _, _, _, _, _, _, _, rfl⟩
    · obtain ⟨_, a1, a2, a3, a4, a5, a6, a7, a8, rfl⟩ := I
      simp_arith [r6_law]
  obtain ⟨b, μ', e, rfl⟩ := Wp_of w
  exact ⟨μ', e⟩
end
end LW

namespace LW
open PySem PySem.Spec PyProof.Rows L2 DL
set_option maxHeartbeats 0 in
theorem all_mk {l : PySem.W.OpenLaw} {w : World} {K : PySem.W.Frag} {h : Heap} {mg : Str → Option Value} {fa : Addr} (X : K.In h) (G : h.Ns mainGlobals mg) (hfa : mg "law" = some (.ref fa))
    {f_l_hand : Addr} {oc_l_hand kV_l_hand dc_l_hand pm_l_hand cd_l_hand ct_l_hand : Value} {od_l_hand an_l_hand : Option Addr} {sl_l_hand : Array (Option Value)}
    {f_l_take : Addr} {oc_l_take kV_l_take dc_l_take pm_l_take cd_l_take ct_l_take : Value} {od_l_take an_l_take : Option Addr} {sl_l_take : Array (Option Value)}
    {f_l_of : Addr} {oc_l_of kV_l_of dc_l_of pm_l_of cd_l_of ct_l_of : Value} {od_l_of an_l_of : Option Addr} {sl_l_of : Array (Option Value)}
    {f_l_text : Addr} {oc_l_text kV_l_text dc_l_text pm_l_text cd_l_text ct_l_text : Value} {od_l_text an_l_text : Option Addr} {sl_l_text : Array (Option Value)}
    {f_l_spelled : Addr} {oc_l_spelled kV_l_spelled dc_l_spelled pm_l_spelled cd_l_spelled ct_l_spelled : Value} {od_l_spelled an_l_spelled : Option Addr} {sl_l_spelled : Array (Option Value)}
    {f_l_form : Addr} {oc_l_form kV_l_form dc_l_form pm_l_form cd_l_form ct_l_form : Value} {od_l_form an_l_form : Option Addr} {sl_l_form : Array (Option Value)}
    {f_l_near_day : Addr} {oc_l_near_day kV_l_near_day dc_l_near_day pm_l_near_day cd_l_near_day ct_l_near_day : Value} {od_l_near_day an_l_near_day : Option Addr} {sl_l_near_day : Array (Option Value)}
    {f_l_near : Addr} {oc_l_near kV_l_near dc_l_near pm_l_near cd_l_near ct_l_near : Value} {od_l_near an_l_near : Option Addr} {sl_l_near : Array (Option Value)}
    {f_l_case : Addr} {oc_l_case kV_l_case dc_l_case pm_l_case cd_l_case ct_l_case : Value} {od_l_case an_l_case : Option Addr} {sl_l_case : Array (Option Value)}
    {f_l_worth : Addr} {oc_l_worth kV_l_worth dc_l_worth pm_l_worth cd_l_worth ct_l_worth : Value} {od_l_worth an_l_worth : Option Addr} {sl_l_worth : Array (Option Value)}
    {f_l_are_figures : Addr} {oc_l_are_figures kV_l_are_figures dc_l_are_figures pm_l_are_figures cd_l_are_figures ct_l_are_figures : Value} {od_l_are_figures an_l_are_figures : Option Addr} {sl_l_are_figures : Array (Option Value)}
    {f_l_figures : Addr} {oc_l_figures kV_l_figures dc_l_figures pm_l_figures cd_l_figures ct_l_figures : Value} {od_l_figures an_l_figures : Option Addr} {sl_l_figures : Array (Option Value)}
    {f_l_day : Addr} {oc_l_day kV_l_day dc_l_day pm_l_day cd_l_day ct_l_day : Value} {od_l_day an_l_day : Option Addr} {sl_l_day : Array (Option Value)}
    {f_l_number : Addr} {oc_l_number kV_l_number dc_l_number pm_l_number cd_l_number ct_l_number : Value} {od_l_number an_l_number : Option Addr} {sl_l_number : Array (Option Value)}
    {f_l_does : Addr} {oc_l_does kV_l_does dc_l_does pm_l_does cd_l_does ct_l_does : Value} {od_l_does an_l_does : Option Addr} {sl_l_does : Array (Option Value)}
    {f_l_told_right : Addr} {oc_l_told_right kV_l_told_right dc_l_told_right pm_l_told_right cd_l_told_right ct_l_told_right : Value} {od_l_told_right an_l_told_right : Option Addr} {sl_l_told_right : Array (Option Value)}
    {f_cell_worth : Addr} {oc_cell_worth kV_cell_worth dc_cell_worth pm_cell_worth cd_cell_worth ct_cell_worth : Value} {od_cell_worth an_cell_worth : Option Addr} {sl_cell_worth : Array (Option Value)}
    {f_cut_step : Addr} {oc_cut_step kV_cut_step dc_cut_step pm_cut_step cd_cut_step ct_cut_step : Value} {od_cut_step an_cut_step : Option Addr} {sl_cut_step : Array (Option Value)}
    {f_glue_step : Addr} {oc_glue_step kV_glue_step dc_glue_step pm_glue_step cd_glue_step ct_glue_step : Value} {od_glue_step an_glue_step : Option Addr} {sl_glue_step : Array (Option Value)}
    {f_spell_step : Addr} {oc_spell_step kV_spell_step dc_spell_step pm_spell_step cd_spell_step ct_spell_step : Value} {od_spell_step an_spell_step : Option Addr} {sl_spell_step : Array (Option Value)}
    {f_are_figures : Addr} {oc_are_figures kV_are_figures dc_are_figures pm_are_figures cd_are_figures ct_are_figures : Value} {od_are_figures an_are_figures : Option Addr} {sl_are_figures : Array (Option Value)}
    {f_read_whole : Addr} {oc_read_whole kV_read_whole dc_read_whole pm_read_whole cd_read_whole ct_read_whole : Value} {od_read_whole an_read_whole : Option Addr} {sl_read_whole : Array (Option Value)}
    {f_read_amount : Addr} {oc_read_amount kV_read_amount dc_read_amount pm_read_amount cd_read_amount ct_read_amount : Value} {od_read_amount an_read_amount : Option Addr} {sl_read_amount : Array (Option Value)}
    {f_is_leap : Addr} {oc_is_leap kV_is_leap dc_is_leap pm_is_leap cd_is_leap ct_is_leap : Value} {od_is_leap an_is_leap : Option Addr} {sl_is_leap : Array (Option Value)}
    {f_month_days : Addr} {oc_month_days kV_month_days dc_month_days pm_month_days cd_month_days ct_month_days : Value} {od_month_days an_month_days : Option Addr} {sl_month_days : Array (Option Value)}
    {f_days_ahead : Addr} {oc_days_ahead kV_days_ahead dc_days_ahead pm_days_ahead cd_days_ahead ct_days_ahead : Value} {od_days_ahead an_days_ahead : Option Addr} {sl_days_ahead : Array (Option Value)}
    {f_day_number : Addr} {oc_day_number kV_day_number dc_day_number pm_day_number cd_day_number ct_day_number : Value} {od_day_number an_day_number : Option Addr} {sl_day_number : Array (Option Value)}
    {f_read_day : Addr} {oc_read_day kV_read_day dc_read_day pm_read_day cd_read_day ct_read_day : Value} {od_read_day an_read_day : Option Addr} {sl_read_day : Array (Option Value)}
    {f_read_as : Addr} {oc_read_as kV_read_as dc_read_as pm_read_as cd_read_as ct_read_as : Value} {od_read_as an_read_as : Option Addr} {sl_read_as : Array (Option Value)}
    {f_read_step : Addr} {oc_read_step kV_read_step dc_read_step pm_read_step cd_read_step ct_read_step : Value} {od_read_step an_read_step : Option Addr} {sl_read_step : Array (Option Value)}
    {f_put_step : Addr} {oc_put_step kV_put_step dc_put_step pm_put_step cd_put_step ct_put_step : Value} {od_put_step an_put_step : Option Addr} {sl_put_step : Array (Option Value)}
    {f_given_step : Addr} {oc_given_step kV_given_step dc_given_step pm_given_step cd_given_step ct_given_step : Value} {od_given_step an_given_step : Option Addr} {sl_given_step : Array (Option Value)}
    {f_within_step : Addr} {oc_within_step kV_within_step dc_within_step pm_within_step cd_within_step ct_within_step : Value} {od_within_step an_within_step : Option Addr} {sl_within_step : Array (Option Value)}
    {f_among_step : Addr} {oc_among_step kV_among_step dc_among_step pm_among_step cd_among_step ct_among_step : Value} {od_among_step an_among_step : Option Addr} {sl_among_step : Array (Option Value)}
    {f_before_step : Addr} {oc_before_step kV_before_step dc_before_step pm_before_step cd_before_step ct_before_step : Value} {od_before_step an_before_step : Option Addr} {sl_before_step : Array (Option Value)}
    {f_done : Addr} {oc_done kV_done dc_done pm_done cd_done ct_done : Value} {od_done an_done : Option Addr} {sl_done : Array (Option Value)}
    {f_law : Addr} {oc_law kV_law dc_law pm_law cd_law ct_law : Value} {od_law an_law : Option Addr} {sl_law : Array (Option Value)}
    {tk_FIGURES : Tok}
    {ac_MONTHS : Addr} {its_MONTHS : Array Value} {nn_MONTHS : Nat} {sl_MONTHS : Array (Option Value)}
    {tk_MOST_AMOUNT : Tok}
    {tk_MOST_WHOLE : Tok}
    {tk_PARTINGS : Tok}
    {ad_DONE : Addr} {es_DONE : Array DictEntry} {nd_DONE : Nat}
    {cc tt : Addr} {lcc : Value} {lod : Option Addr} {lvs : Array Value} {lsl : Array (Option Value)} {ts : List Addr}
    (a_l_hand : PySem.W.nsIn K mainGlobals "_law_hand" = some (some (.ref f_l_hand)))
    (l_l_hand : K.lookup f_l_hand = some ⟨oc_l_hand, od_l_hand, .func (PySem.W.fnOf "_law_hand" "_law_hand" (defArgs s_l_hand) (defBody s_l_hand) (defScope s_l_hand) .none kV_l_hand dc_l_hand pm_l_hand an_l_hand cd_l_hand ct_l_hand), sl_l_hand⟩)
    (c_l_hand : PySem.W.codeIn K cd_l_hand "_law_hand" = true)
    (k_l_hand : PySem.W.keepIn K (.ref f_l_hand) = true)
    (a_l_take : PySem.W.nsIn K mainGlobals "_law_take" = some (some (.ref f_l_take)))
    (l_l_take : K.lookup f_l_take = some ⟨oc_l_take, od_l_take, .func (PySem.W.fnOf "_law_take" "_law_take" (defArgs s_l_take) (defBody s_l_take) (defScope s_l_take) .none kV_l_take dc_l_take pm_l_take an_l_take cd_l_take ct_l_take), sl_l_take⟩)
    (c_l_take : PySem.W.codeIn K cd_l_take "_law_take" = true)
    (k_l_take : PySem.W.keepIn K (.ref f_l_take) = true)
    (a_l_of : PySem.W.nsIn K mainGlobals "_law_of" = some (some (.ref f_l_of)))
    (l_l_of : K.lookup f_l_of = some ⟨oc_l_of, od_l_of, .func (PySem.W.fnOf "_law_of" "_law_of" (defArgs s_l_of) (defBody s_l_of) (defScope s_l_of) .none kV_l_of dc_l_of pm_l_of an_l_of cd_l_of ct_l_of), sl_l_of⟩)
    (c_l_of : PySem.W.codeIn K cd_l_of "_law_of" = true)
    (k_l_of : PySem.W.keepIn K (.ref f_l_of) = true)
    (a_l_text : PySem.W.nsIn K mainGlobals "_law_text" = some (some (.ref f_l_text)))
    (l_l_text : K.lookup f_l_text = some ⟨oc_l_text, od_l_text, .func (PySem.W.fnOf "_law_text" "_law_text" (defArgs s_l_text) (defBody s_l_text) (defScope s_l_text) .none kV_l_text dc_l_text pm_l_text an_l_text cd_l_text ct_l_text), sl_l_text⟩)
    (c_l_text : PySem.W.codeIn K cd_l_text "_law_text" = true)
    (k_l_text : PySem.W.keepIn K (.ref f_l_text) = true)
    (a_l_spelled : PySem.W.nsIn K mainGlobals "_law_spelled" = some (some (.ref f_l_spelled)))
    (l_l_spelled : K.lookup f_l_spelled = some ⟨oc_l_spelled, od_l_spelled, .func (PySem.W.fnOf "_law_spelled" "_law_spelled" (defArgs s_l_spelled) (defBody s_l_spelled) (defScope s_l_spelled) .none kV_l_spelled dc_l_spelled pm_l_spelled an_l_spelled cd_l_spelled ct_l_spelled), sl_l_spelled⟩)
    (c_l_spelled : PySem.W.codeIn K cd_l_spelled "_law_spelled" = true)
    (k_l_spelled : PySem.W.keepIn K (.ref f_l_spelled) = true)
    (a_l_form : PySem.W.nsIn K mainGlobals "_law_form" = some (some (.ref f_l_form)))
    (l_l_form : K.lookup f_l_form = some ⟨oc_l_form, od_l_form, .func (PySem.W.fnOf "_law_form" "_law_form" (defArgs s_l_form) (defBody s_l_form) (defScope s_l_form) .none kV_l_form dc_l_form pm_l_form an_l_form cd_l_form ct_l_form), sl_l_form⟩)
    (c_l_form : PySem.W.codeIn K cd_l_form "_law_form" = true)
    (k_l_form : PySem.W.keepIn K (.ref f_l_form) = true)
    (a_l_near_day : PySem.W.nsIn K mainGlobals "_law_near_day" = some (some (.ref f_l_near_day)))
    (l_l_near_day : K.lookup f_l_near_day = some ⟨oc_l_near_day, od_l_near_day, .func (PySem.W.fnOf "_law_near_day" "_law_near_day" (defArgs s_l_near_day) (defBody s_l_near_day) (defScope s_l_near_day) .none kV_l_near_day dc_l_near_day pm_l_near_day an_l_near_day cd_l_near_day ct_l_near_day), sl_l_near_day⟩)
    (c_l_near_day : PySem.W.codeIn K cd_l_near_day "_law_near_day" = true)
    (k_l_near_day : PySem.W.keepIn K (.ref f_l_near_day) = true)
    (a_l_near : PySem.W.nsIn K mainGlobals "_law_near" = some (some (.ref f_l_near)))
    (l_l_near : K.lookup f_l_near = some ⟨oc_l_near, od_l_near, .func (PySem.W.fnOf "_law_near" "_law_near" (defArgs s_l_near) (defBody s_l_near) (defScope s_l_near) .none kV_l_near dc_l_near pm_l_near an_l_near cd_l_near ct_l_near), sl_l_near⟩)
    (c_l_near : PySem.W.codeIn K cd_l_near "_law_near" = true)
    (k_l_near : PySem.W.keepIn K (.ref f_l_near) = true)
    (a_l_case : PySem.W.nsIn K mainGlobals "_law_case" = some (some (.ref f_l_case)))
    (l_l_case : K.lookup f_l_case = some ⟨oc_l_case, od_l_case, .func (PySem.W.fnOf "_law_case" "_law_case" (defArgs s_l_case) (defBody s_l_case) (defScope s_l_case) .none kV_l_case dc_l_case pm_l_case an_l_case cd_l_case ct_l_case), sl_l_case⟩)
    (c_l_case : PySem.W.codeIn K cd_l_case "_law_case" = true)
    (k_l_case : PySem.W.keepIn K (.ref f_l_case) = true)
    (a_l_worth : PySem.W.nsIn K mainGlobals "_law_worth" = some (some (.ref f_l_worth)))
    (l_l_worth : K.lookup f_l_worth = some ⟨oc_l_worth, od_l_worth, .func (PySem.W.fnOf "_law_worth" "_law_worth" (defArgs s_l_worth) (defBody s_l_worth) (defScope s_l_worth) .none kV_l_worth dc_l_worth pm_l_worth an_l_worth cd_l_worth ct_l_worth), sl_l_worth⟩)
    (c_l_worth : PySem.W.codeIn K cd_l_worth "_law_worth" = true)
    (k_l_worth : PySem.W.keepIn K (.ref f_l_worth) = true)
    (a_l_are_figures : PySem.W.nsIn K mainGlobals "_law_are_figures" = some (some (.ref f_l_are_figures)))
    (l_l_are_figures : K.lookup f_l_are_figures = some ⟨oc_l_are_figures, od_l_are_figures, .func (PySem.W.fnOf "_law_are_figures" "_law_are_figures" (defArgs s_l_are_figures) (defBody s_l_are_figures) (defScope s_l_are_figures) .none kV_l_are_figures dc_l_are_figures pm_l_are_figures an_l_are_figures cd_l_are_figures ct_l_are_figures), sl_l_are_figures⟩)
    (c_l_are_figures : PySem.W.codeIn K cd_l_are_figures "_law_are_figures" = true)
    (k_l_are_figures : PySem.W.keepIn K (.ref f_l_are_figures) = true)
    (a_l_figures : PySem.W.nsIn K mainGlobals "_law_figures" = some (some (.ref f_l_figures)))
    (l_l_figures : K.lookup f_l_figures = some ⟨oc_l_figures, od_l_figures, .func (PySem.W.fnOf "_law_figures" "_law_figures" (defArgs s_l_figures) (defBody s_l_figures) (defScope s_l_figures) .none kV_l_figures dc_l_figures pm_l_figures an_l_figures cd_l_figures ct_l_figures), sl_l_figures⟩)
    (c_l_figures : PySem.W.codeIn K cd_l_figures "_law_figures" = true)
    (k_l_figures : PySem.W.keepIn K (.ref f_l_figures) = true)
    (a_l_day : PySem.W.nsIn K mainGlobals "_law_day" = some (some (.ref f_l_day)))
    (l_l_day : K.lookup f_l_day = some ⟨oc_l_day, od_l_day, .func (PySem.W.fnOf "_law_day" "_law_day" (defArgs s_l_day) (defBody s_l_day) (defScope s_l_day) .none kV_l_day dc_l_day pm_l_day an_l_day cd_l_day ct_l_day), sl_l_day⟩)
    (c_l_day : PySem.W.codeIn K cd_l_day "_law_day" = true)
    (k_l_day : PySem.W.keepIn K (.ref f_l_day) = true)
    (a_l_number : PySem.W.nsIn K mainGlobals "_law_number" = some (some (.ref f_l_number)))
    (l_l_number : K.lookup f_l_number = some ⟨oc_l_number, od_l_number, .func (PySem.W.fnOf "_law_number" "_law_number" (defArgs s_l_number) (defBody s_l_number) (defScope s_l_number) .none kV_l_number dc_l_number pm_l_number an_l_number cd_l_number ct_l_number), sl_l_number⟩)
    (c_l_number : PySem.W.codeIn K cd_l_number "_law_number" = true)
    (k_l_number : PySem.W.keepIn K (.ref f_l_number) = true)
    (a_l_does : PySem.W.nsIn K mainGlobals "_law_does" = some (some (.ref f_l_does)))
    (l_l_does : K.lookup f_l_does = some ⟨oc_l_does, od_l_does, .func (PySem.W.fnOf "_law_does" "_law_does" (defArgs s_l_does) (defBody s_l_does) (defScope s_l_does) .none kV_l_does dc_l_does pm_l_does an_l_does cd_l_does ct_l_does), sl_l_does⟩)
    (c_l_does : PySem.W.codeIn K cd_l_does "_law_does" = true)
    (k_l_does : PySem.W.keepIn K (.ref f_l_does) = true)
    (a_l_told_right : PySem.W.nsIn K mainGlobals "_law_told_right" = some (some (.ref f_l_told_right)))
    (l_l_told_right : K.lookup f_l_told_right = some ⟨oc_l_told_right, od_l_told_right, .func (PySem.W.fnOf "_law_told_right" "_law_told_right" (defArgs s_l_told_right) (defBody s_l_told_right) (defScope s_l_told_right) .none kV_l_told_right dc_l_told_right pm_l_told_right an_l_told_right cd_l_told_right ct_l_told_right), sl_l_told_right⟩)
    (c_l_told_right : PySem.W.codeIn K cd_l_told_right "_law_told_right" = true)
    (k_l_told_right : PySem.W.keepIn K (.ref f_l_told_right) = true)
    (a_cell_worth : PySem.W.nsIn K mainGlobals "cell_worth" = some (some (.ref f_cell_worth)))
    (l_cell_worth : K.lookup f_cell_worth = some ⟨oc_cell_worth, od_cell_worth, .func (PySem.W.fnOf "cell_worth" "cell_worth" (defArgs s_cell_worth) (defBody s_cell_worth) (defScope s_cell_worth) .none kV_cell_worth dc_cell_worth pm_cell_worth an_cell_worth cd_cell_worth ct_cell_worth), sl_cell_worth⟩)
    (c_cell_worth : PySem.W.codeIn K cd_cell_worth "cell_worth" = true)
    (k_cell_worth : PySem.W.keepIn K (.ref f_cell_worth) = true)
    (a_cut_step : PySem.W.nsIn K mainGlobals "cut_step" = some (some (.ref f_cut_step)))
    (l_cut_step : K.lookup f_cut_step = some ⟨oc_cut_step, od_cut_step, .func (PySem.W.fnOf "cut_step" "cut_step" (defArgs s_cut_step) (defBody s_cut_step) (defScope s_cut_step) .none kV_cut_step dc_cut_step pm_cut_step an_cut_step cd_cut_step ct_cut_step), sl_cut_step⟩)
    (c_cut_step : PySem.W.codeIn K cd_cut_step "cut_step" = true)
    (k_cut_step : PySem.W.keepIn K (.ref f_cut_step) = true)
    (a_glue_step : PySem.W.nsIn K mainGlobals "glue_step" = some (some (.ref f_glue_step)))
    (l_glue_step : K.lookup f_glue_step = some ⟨oc_glue_step, od_glue_step, .func (PySem.W.fnOf "glue_step" "glue_step" (defArgs s_glue_step) (defBody s_glue_step) (defScope s_glue_step) .none kV_glue_step dc_glue_step pm_glue_step an_glue_step cd_glue_step ct_glue_step), sl_glue_step⟩)
    (c_glue_step : PySem.W.codeIn K cd_glue_step "glue_step" = true)
    (k_glue_step : PySem.W.keepIn K (.ref f_glue_step) = true)
    (a_spell_step : PySem.W.nsIn K mainGlobals "spell_step" = some (some (.ref f_spell_step)))
    (l_spell_step : K.lookup f_spell_step = some ⟨oc_spell_step, od_spell_step, .func (PySem.W.fnOf "spell_step" "spell_step" (defArgs s_spell_step) (defBody s_spell_step) (defScope s_spell_step) .none kV_spell_step dc_spell_step pm_spell_step an_spell_step cd_spell_step ct_spell_step), sl_spell_step⟩)
    (c_spell_step : PySem.W.codeIn K cd_spell_step "spell_step" = true)
    (k_spell_step : PySem.W.keepIn K (.ref f_spell_step) = true)
    (a_are_figures : PySem.W.nsIn K mainGlobals "are_figures" = some (some (.ref f_are_figures)))
    (l_are_figures : K.lookup f_are_figures = some ⟨oc_are_figures, od_are_figures, .func (PySem.W.fnOf "are_figures" "are_figures" (defArgs s_are_figures) (defBody s_are_figures) (defScope s_are_figures) .none kV_are_figures dc_are_figures pm_are_figures an_are_figures cd_are_figures ct_are_figures), sl_are_figures⟩)
    (c_are_figures : PySem.W.codeIn K cd_are_figures "are_figures" = true)
    (k_are_figures : PySem.W.keepIn K (.ref f_are_figures) = true)
    (a_read_whole : PySem.W.nsIn K mainGlobals "read_whole" = some (some (.ref f_read_whole)))
    (l_read_whole : K.lookup f_read_whole = some ⟨oc_read_whole, od_read_whole, .func (PySem.W.fnOf "read_whole" "read_whole" (defArgs s_read_whole) (defBody s_read_whole) (defScope s_read_whole) .none kV_read_whole dc_read_whole pm_read_whole an_read_whole cd_read_whole ct_read_whole), sl_read_whole⟩)
    (c_read_whole : PySem.W.codeIn K cd_read_whole "read_whole" = true)
    (k_read_whole : PySem.W.keepIn K (.ref f_read_whole) = true)
    (a_read_amount : PySem.W.nsIn K mainGlobals "read_amount" = some (some (.ref f_read_amount)))
    (l_read_amount : K.lookup f_read_amount = some ⟨oc_read_amount, od_read_amount, .func (PySem.W.fnOf "read_amount" "read_amount" (defArgs s_read_amount) (defBody s_read_amount) (defScope s_read_amount) .none kV_read_amount dc_read_amount pm_read_amount an_read_amount cd_read_amount ct_read_amount), sl_read_amount⟩)
    (c_read_amount : PySem.W.codeIn K cd_read_amount "read_amount" = true)
    (k_read_amount : PySem.W.keepIn K (.ref f_read_amount) = true)
    (a_is_leap : PySem.W.nsIn K mainGlobals "is_leap" = some (some (.ref f_is_leap)))
    (l_is_leap : K.lookup f_is_leap = some ⟨oc_is_leap, od_is_leap, .func (PySem.W.fnOf "is_leap" "is_leap" (defArgs s_is_leap) (defBody s_is_leap) (defScope s_is_leap) .none kV_is_leap dc_is_leap pm_is_leap an_is_leap cd_is_leap ct_is_leap), sl_is_leap⟩)
    (c_is_leap : PySem.W.codeIn K cd_is_leap "is_leap" = true)
    (k_is_leap : PySem.W.keepIn K (.ref f_is_leap) = true)
    (a_month_days : PySem.W.nsIn K mainGlobals "month_days" = some (some (.ref f_month_days)))
    (l_month_days : K.lookup f_month_days = some ⟨oc_month_days, od_month_days, .func (PySem.W.fnOf "month_days" "month_days" (defArgs s_month_days) (defBody s_month_days) (defScope s_month_days) .none kV_month_days dc_month_days pm_month_days an_month_days cd_month_days ct_month_days), sl_month_days⟩)
    (c_month_days : PySem.W.codeIn K cd_month_days "month_days" = true)
    (k_month_days : PySem.W.keepIn K (.ref f_month_days) = true)
    (a_days_ahead : PySem.W.nsIn K mainGlobals "days_ahead" = some (some (.ref f_days_ahead)))
    (l_days_ahead : K.lookup f_days_ahead = some ⟨oc_days_ahead, od_days_ahead, .func (PySem.W.fnOf "days_ahead" "days_ahead" (defArgs s_days_ahead) (defBody s_days_ahead) (defScope s_days_ahead) .none kV_days_ahead dc_days_ahead pm_days_ahead an_days_ahead cd_days_ahead ct_days_ahead), sl_days_ahead⟩)
    (c_days_ahead : PySem.W.codeIn K cd_days_ahead "days_ahead" = true)
    (k_days_ahead : PySem.W.keepIn K (.ref f_days_ahead) = true)
    (a_day_number : PySem.W.nsIn K mainGlobals "day_number" = some (some (.ref f_day_number)))
    (l_day_number : K.lookup f_day_number = some ⟨oc_day_number, od_day_number, .func (PySem.W.fnOf "day_number" "day_number" (defArgs s_day_number) (defBody s_day_number) (defScope s_day_number) .none kV_day_number dc_day_number pm_day_number an_day_number cd_day_number ct_day_number), sl_day_number⟩)
    (c_day_number : PySem.W.codeIn K cd_day_number "day_number" = true)
    (k_day_number : PySem.W.keepIn K (.ref f_day_number) = true)
    (a_read_day : PySem.W.nsIn K mainGlobals "read_day" = some (some (.ref f_read_day)))
    (l_read_day : K.lookup f_read_day = some ⟨oc_read_day, od_read_day, .func (PySem.W.fnOf "read_day" "read_day" (defArgs s_read_day) (defBody s_read_day) (defScope s_read_day) .none kV_read_day dc_read_day pm_read_day an_read_day cd_read_day ct_read_day), sl_read_day⟩)
    (c_read_day : PySem.W.codeIn K cd_read_day "read_day" = true)
    (k_read_day : PySem.W.keepIn K (.ref f_read_day) = true)
    (a_read_as : PySem.W.nsIn K mainGlobals "read_as" = some (some (.ref f_read_as)))
    (l_read_as : K.lookup f_read_as = some ⟨oc_read_as, od_read_as, .func (PySem.W.fnOf "read_as" "read_as" (defArgs s_read_as) (defBody s_read_as) (defScope s_read_as) .none kV_read_as dc_read_as pm_read_as an_read_as cd_read_as ct_read_as), sl_read_as⟩)
    (c_read_as : PySem.W.codeIn K cd_read_as "read_as" = true)
    (k_read_as : PySem.W.keepIn K (.ref f_read_as) = true)
    (a_read_step : PySem.W.nsIn K mainGlobals "read_step" = some (some (.ref f_read_step)))
    (l_read_step : K.lookup f_read_step = some ⟨oc_read_step, od_read_step, .func (PySem.W.fnOf "read_step" "read_step" (defArgs s_read_step) (defBody s_read_step) (defScope s_read_step) .none kV_read_step dc_read_step pm_read_step an_read_step cd_read_step ct_read_step), sl_read_step⟩)
    (c_read_step : PySem.W.codeIn K cd_read_step "read_step" = true)
    (k_read_step : PySem.W.keepIn K (.ref f_read_step) = true)
    (a_put_step : PySem.W.nsIn K mainGlobals "put_step" = some (some (.ref f_put_step)))
    (l_put_step : K.lookup f_put_step = some ⟨oc_put_step, od_put_step, .func (PySem.W.fnOf "put_step" "put_step" (defArgs s_put_step) (defBody s_put_step) (defScope s_put_step) .none kV_put_step dc_put_step pm_put_step an_put_step cd_put_step ct_put_step), sl_put_step⟩)
    (c_put_step : PySem.W.codeIn K cd_put_step "put_step" = true)
    (k_put_step : PySem.W.keepIn K (.ref f_put_step) = true)
    (a_given_step : PySem.W.nsIn K mainGlobals "given_step" = some (some (.ref f_given_step)))
    (l_given_step : K.lookup f_given_step = some ⟨oc_given_step, od_given_step, .func (PySem.W.fnOf "given_step" "given_step" (defArgs s_given_step) (defBody s_given_step) (defScope s_given_step) .none kV_given_step dc_given_step pm_given_step an_given_step cd_given_step ct_given_step), sl_given_step⟩)
    (c_given_step : PySem.W.codeIn K cd_given_step "given_step" = true)
    (k_given_step : PySem.W.keepIn K (.ref f_given_step) = true)
    (a_within_step : PySem.W.nsIn K mainGlobals "within_step" = some (some (.ref f_within_step)))
    (l_within_step : K.lookup f_within_step = some ⟨oc_within_step, od_within_step, .func (PySem.W.fnOf "within_step" "within_step" (defArgs s_within_step) (defBody s_within_step) (defScope s_within_step) .none kV_within_step dc_within_step pm_within_step an_within_step cd_within_step ct_within_step), sl_within_step⟩)
    (c_within_step : PySem.W.codeIn K cd_within_step "within_step" = true)
    (k_within_step : PySem.W.keepIn K (.ref f_within_step) = true)
    (a_among_step : PySem.W.nsIn K mainGlobals "among_step" = some (some (.ref f_among_step)))
    (l_among_step : K.lookup f_among_step = some ⟨oc_among_step, od_among_step, .func (PySem.W.fnOf "among_step" "among_step" (defArgs s_among_step) (defBody s_among_step) (defScope s_among_step) .none kV_among_step dc_among_step pm_among_step an_among_step cd_among_step ct_among_step), sl_among_step⟩)
    (c_among_step : PySem.W.codeIn K cd_among_step "among_step" = true)
    (k_among_step : PySem.W.keepIn K (.ref f_among_step) = true)
    (a_before_step : PySem.W.nsIn K mainGlobals "before_step" = some (some (.ref f_before_step)))
    (l_before_step : K.lookup f_before_step = some ⟨oc_before_step, od_before_step, .func (PySem.W.fnOf "before_step" "before_step" (defArgs s_before_step) (defBody s_before_step) (defScope s_before_step) .none kV_before_step dc_before_step pm_before_step an_before_step cd_before_step ct_before_step), sl_before_step⟩)
    (c_before_step : PySem.W.codeIn K cd_before_step "before_step" = true)
    (k_before_step : PySem.W.keepIn K (.ref f_before_step) = true)
    (a_done : PySem.W.nsIn K mainGlobals "done" = some (some (.ref f_done)))
    (l_done : K.lookup f_done = some ⟨oc_done, od_done, .func (PySem.W.fnOf "done" "done" (defArgs s_done) (defBody s_done) (defScope s_done) .none kV_done dc_done pm_done an_done cd_done ct_done), sl_done⟩)
    (c_done : PySem.W.codeIn K cd_done "done" = true)
    (k_done : PySem.W.keepIn K (.ref f_done) = true)
    (a_law : PySem.W.nsIn K mainGlobals "law" = some (some (.ref f_law)))
    (l_law : K.lookup f_law = some ⟨oc_law, od_law, .func (PySem.W.fnOf "law" "law" (defArgs s_law) (defBody s_law) (defScope s_law) .none kV_law dc_law pm_law an_law cd_law ct_law), sl_law⟩)
    (c_law : PySem.W.codeIn K cd_law "law" = true)
    (k_law : PySem.W.keepIn K (.ref f_law) = true)
    (zb_abs : PySem.W.nsIn K mainGlobals "abs" = some none)
    (zb_all : PySem.W.nsIn K mainGlobals "all" = some none)
    (zb_bool : PySem.W.nsIn K mainGlobals "bool" = some none)
    (zb_dict : PySem.W.nsIn K mainGlobals "dict" = some none)
    (zb_int : PySem.W.nsIn K mainGlobals "int" = some none)
    (zb_isinstance : PySem.W.nsIn K mainGlobals "isinstance" = some none)
    (zb_len : PySem.W.nsIn K mainGlobals "len" = some none)
    (zb_max : PySem.W.nsIn K mainGlobals "max" = some none)
    (zb_min : PySem.W.nsIn K mainGlobals "min" = some none)
    (zb_range : PySem.W.nsIn K mainGlobals "range" = some none)
    (zb_repr : PySem.W.nsIn K mainGlobals "repr" = some none)
    (zb_sorted : PySem.W.nsIn K mainGlobals "sorted" = some none)
    (zb_str : PySem.W.nsIn K mainGlobals "str" = some none)
    (zb_sum : PySem.W.nsIn K mainGlobals "sum" = some none)
    (zb_tuple : PySem.W.nsIn K mainGlobals "tuple" = some none)
    (zb_zip : PySem.W.nsIn K mainGlobals "zip" = some none)
    (zc_FIGURES : PySem.W.nsIn K mainGlobals "FIGURES" = some (some (.str "0123456789" tk_FIGURES)))
    (zc_MONTHS : PySem.W.nsIn K mainGlobals "MONTHS" = some (some (.ref ac_MONTHS)))
    (lc_MONTHS : K.lookup ac_MONTHS = some ⟨.type "tuple", none, .seq its_MONTHS nn_MONTHS, sl_MONTHS⟩)
    (vc_MONTHS : its_MONTHS.size ≤ sizeLine ∧ Vals [.int 31, .int 28, .int 31, .int 30, .int 31, .int 30, .int 31, .int 31, .int 30, .int 31, .int 30, .int 31] its_MONTHS.toList)
    (zc_MOST_AMOUNT : PySem.W.nsIn K mainGlobals "MOST_AMOUNT" = some (some (.int 8 tk_MOST_AMOUNT)))
    (zc_MOST_WHOLE : PySem.W.nsIn K mainGlobals "MOST_WHOLE" = some (some (.int 9 tk_MOST_WHOLE)))
    (zc_PARTINGS : PySem.W.nsIn K mainGlobals "PARTINGS" = some (some (.str "-./" tk_PARTINGS)))
    (zf_DONE : PySem.W.nsIn K mainGlobals "DONE" = some (some (.ref ad_DONE)))
    (lf_DONE : K.lookup ad_DONE = some ⟨.type "dict", none, .dict es_DONE nd_DONE, #[]⟩)
    (kf_DONE : PySem.W.KeysLit w.params es_DONE.toList)
    (tf_DONE : FTabE (fun n => ([f_cut_step, f_glue_step, f_spell_step, f_read_step, f_put_step, f_given_step, f_within_step, f_among_step, f_before_step, tt] : List Addr)[n]?) es_DONE.toList tab_DONE)
    (tb1 : cd_l_spelled = .ref cc)
    (tb2 : K.lookup cc = some ⟨lcc, lod, .fields lvs, lsl⟩)
    (tb3 : lvs[11]? = some (.ref tt))
    (tb4 : K.lookup tt = none)
    (tb5 : PySem.W.codeHdIn K cc tt = true)
    (tb6 : tt ∈ ts)
    (law_right : ∀ ns : List Int, ns.length ≤ 63 → (∀ i ∈ ns, Builtin.Int.intBits i ≤ 1048576) → ∃ μ', F_law [.d (.list (ns.map PyData.int))] [.tab 9 lq_l_spelled] = .ok (.d (.bool true)) μ') :
    ∃ (fd : FuncData) (G : GT) (F : OpN) (cc0 tt0 : Addr), PySem.W.codeHdIn K cc0 tt0 = true ∧ tt0 ∈ ts ∧ K.lookup tt0 = none ∧ G.FA 9 = some tt0 ∧ G.K = K ∧ (∀ (s : Shared) (u : Value), BindsTo s fd ⟨[u], []⟩ [("_law_script", u)]) ∧ (∀ base : Heap, K.In base → base.Ns mainGlobals mg → LamX.TabB base mg cc0 tt0 → FnG l.prog w K mg base 8 fa fd ["_law_script"] (spD G 1 F)) ∧
      ∀ ns : List Int, ns.length ≤ 63 → (∀ i ∈ ns, Builtin.Int.intBits i ≤ 1048576) → ∃ μ', F [.d (.list (ns.map PyData.int))] [.tab 9 lq_l_spelled] = .ok (.d (.bool true)) μ' := by
  have e := hfa.symm.trans (PySem.W.mg_of X G a_law)
  cases e
  have T : Tx K mg := ⟨PySem.W.mg_none_of X G zb_abs, PySem.W.mg_none_of X G zb_all, PySem.W.mg_none_of X G zb_bool, PySem.W.mg_none_of X G zb_dict, PySem.W.mg_none_of X G zb_int, PySem.W.mg_none_of X G zb_isinstance, PySem.W.mg_none_of X G zb_len, PySem.W.mg_none_of X G zb_max, PySem.W.mg_none_of X G zb_min, PySem.W.mg_none_of X G zb_range, PySem.W.mg_none_of X G zb_repr, PySem.W.mg_none_of X G zb_sorted, PySem.W.mg_none_of X G zb_str, PySem.W.mg_none_of X G zb_sum, PySem.W.mg_none_of X G zb_tuple, PySem.W.mg_none_of X G zb_zip, ⟨_, PySem.W.mg_of X G zc_FIGURES⟩, ⟨_, PySem.W.mg_of X G zc_MONTHS, fun I => .tup (.inr ⟨_, _, _, lc_MONTHS, rfl, rfl, rfl, vc_MONTHS.1, vc_MONTHS.2⟩) (.cons (.int _) (.cons (.int _) (.cons (.int _) (.cons (.int _) (.cons (.int _) (.cons (.int _) (.cons (.int _) (.cons (.int _) (.cons (.int _) (.cons (.int _) (.cons (.int _) (.cons (.int _) (.nil)))))))))))))⟩, ⟨_, PySem.W.mg_of X G zc_MOST_AMOUNT⟩, ⟨_, PySem.W.mg_of X G zc_MOST_WHOLE⟩, ⟨_, PySem.W.mg_of X G zc_PARTINGS⟩⟩
  have F_l_hand := fun_mk (st := s_l_hand) l_l_hand c_l_hand k_l_hand
  have F_l_take := fun_mk (st := s_l_take) l_l_take c_l_take k_l_take
  have F_l_of := fun_mk (st := s_l_of) l_l_of c_l_of k_l_of
  have F_l_text := fun_mk (st := s_l_text) l_l_text c_l_text k_l_text
  have F_l_spelled := fun_mk (st := s_l_spelled) l_l_spelled c_l_spelled k_l_spelled
  have F_l_form := fun_mk (st := s_l_form) l_l_form c_l_form k_l_form
  have F_l_near_day := fun_mk (st := s_l_near_day) l_l_near_day c_l_near_day k_l_near_day
  have F_l_near := fun_mk (st := s_l_near) l_l_near c_l_near k_l_near
  have F_l_case := fun_mk (st := s_l_case) l_l_case c_l_case k_l_case
  have F_l_worth := fun_mk (st := s_l_worth) l_l_worth c_l_worth k_l_worth
  have F_l_are_figures := fun_mk (st := s_l_are_figures) l_l_are_figures c_l_are_figures k_l_are_figures
  have F_l_figures := fun_mk (st := s_l_figures) l_l_figures c_l_figures k_l_figures
  have F_l_day := fun_mk (st := s_l_day) l_l_day c_l_day k_l_day
  have F_l_number := fun_mk (st := s_l_number) l_l_number c_l_number k_l_number
  have F_l_does := fun_mk (st := s_l_does) l_l_does c_l_does k_l_does
  have F_l_told_right := fun_mk (st := s_l_told_right) l_l_told_right c_l_told_right k_l_told_right
  have F_cell_worth := fun_mk (st := s_cell_worth) l_cell_worth c_cell_worth k_cell_worth
  have F_cut_step := fun_mk (st := s_cut_step) l_cut_step c_cut_step k_cut_step
  have F_glue_step := fun_mk (st := s_glue_step) l_glue_step c_glue_step k_glue_step
  have F_spell_step := fun_mk (st := s_spell_step) l_spell_step c_spell_step k_spell_step
  have F_are_figures := fun_mk (st := s_are_figures) l_are_figures c_are_figures k_are_figures
  have F_read_whole := fun_mk (st := s_read_whole) l_read_whole c_read_whole k_read_whole
  have F_read_amount := fun_mk (st := s_read_amount) l_read_amount c_read_amount k_read_amount
  have F_is_leap := fun_mk (st := s_is_leap) l_is_leap c_is_leap k_is_leap
  have F_month_days := fun_mk (st := s_month_days) l_month_days c_month_days k_month_days
  have F_days_ahead := fun_mk (st := s_days_ahead) l_days_ahead c_days_ahead k_days_ahead
  have F_day_number := fun_mk (st := s_day_number) l_day_number c_day_number k_day_number
  have F_read_day := fun_mk (st := s_read_day) l_read_day c_read_day k_read_day
  have F_read_as := fun_mk (st := s_read_as) l_read_as c_read_as k_read_as
  have F_read_step := fun_mk (st := s_read_step) l_read_step c_read_step k_read_step
  have F_put_step := fun_mk (st := s_put_step) l_put_step c_put_step k_put_step
  have F_given_step := fun_mk (st := s_given_step) l_given_step c_given_step k_given_step
  have F_within_step := fun_mk (st := s_within_step) l_within_step c_within_step k_within_step
  have F_among_step := fun_mk (st := s_among_step) l_among_step c_among_step k_among_step
  have F_before_step := fun_mk (st := s_before_step) l_before_step c_before_step k_before_step
  have F_done := fun_mk (st := s_done) l_done c_done k_done
  have F_law := fun_mk (st := s_law) l_law c_law k_law
  let fa0 : Nat → Option Addr := fun n => ([f_cut_step, f_glue_step, f_spell_step, f_read_step, f_put_step, f_given_step, f_within_step, f_among_step, f_before_step, tt] : List Addr)[n]?
  refine ⟨PySem.W.fnOf "law" "law" (defArgs s_law) (defBody s_law) (defScope s_law) .none kV_law dc_law pm_law an_law cd_law ct_law, GG K fa0, LW.F_law, cc, tt, tb5, tb6, tb4, rfl, rfl, fun s v => .of_eq rfl, fun base _ _ TB => ?_, law_right⟩
  have KT_DONE : ∃ a, mg "DONE" = some (.ref a) ∧ FTab K w fa0 a tab_DONE := ⟨_, PySem.W.mg_of X G zf_DONE, ⟨_, _, lf_DONE, kf_DONE, tf_DONE⟩⟩
  have C_l_hand : Cal l.prog w (GG K fa0) mg base "_law_hand" 1 ["_law_script", "_law_k"] [] LW.F_l_hand := ⟨f_l_hand, _, ok_l_hand F_l_hand T, PySem.W.mg_of X G a_l_hand, k_l_hand, F_l_hand.binds (ps := ["_law_script", "_law_k"]) fun _ _ _ _ _ _ us hl => match us, hl with | [_, _], _ => rfl, fun q hq => by cases hq⟩
  have C_l_take : Cal l.prog w (GG K fa0) mg base "_law_take" 1 ["_law_hand_here", "_law_many"] [] LW.F_l_take := ⟨f_l_take, _, ok_l_take F_l_take T, PySem.W.mg_of X G a_l_take, k_l_take, F_l_take.binds (ps := ["_law_hand_here", "_law_many"]) fun _ _ _ _ _ _ us hl => match us, hl with | [_, _], _ => rfl, fun q hq => by cases hq⟩
  have C_l_of : Cal l.prog w (GG K fa0) mg base "_law_of" 2 ["_law_hand_here", "_law_some"] [] LW.F_l_of := ⟨f_l_of, _, ok_l_of F_l_of T C_l_take, PySem.W.mg_of X G a_l_of, k_l_of, F_l_of.binds (ps := ["_law_hand_here", "_law_some"]) fun _ _ _ _ _ _ us hl => match us, hl with | [_, _], _ => rfl, fun q hq => by cases hq⟩
  have C_l_text : Cal l.prog w (GG K fa0) mg base "_law_text" 3 ["_law_hand_here", "_law_sign"] [] LW.F_l_text := ⟨f_l_text, _, ok_l_text F_l_text T C_l_take C_l_of, PySem.W.mg_of X G a_l_text, k_l_text, F_l_text.binds (ps := ["_law_hand_here", "_law_sign"]) fun _ _ _ _ _ _ us hl => match us, hl with | [_, _], _ => rfl, fun q hq => by cases hq⟩
  have C_l_spelled : Cal l.prog w (GG K fa0) mg base "_law_spelled" 2 ["_law_hand_here", "_law_name", "_law_column", "_law_own"] [] LW.F_l_spelled := ⟨f_l_spelled, _, ok_l_spelled F_l_spelled T C_l_take ⟨cc, tt, tb1, TB, rfl⟩, PySem.W.mg_of X G a_l_spelled, k_l_spelled, F_l_spelled.binds (ps := ["_law_hand_here", "_law_name", "_law_column", "_law_own"]) fun _ _ _ _ _ _ us hl => match us, hl with | [_, _, _, _], _ => rfl, fun q hq => by cases hq⟩
  have C_l_form : Cal l.prog w (GG K fa0) mg base "_law_form" 3 ["_law_hand_here"] [] LW.F_l_form := ⟨f_l_form, _, ok_l_form F_l_form T C_l_of C_l_take, PySem.W.mg_of X G a_l_form, k_l_form, F_l_form.binds (ps := ["_law_hand_here"]) fun _ _ _ _ _ _ us hl => match us, hl with | [_], _ => rfl, fun q hq => by cases hq⟩
  have C_l_near_day : Cal l.prog w (GG K fa0) mg base "_law_near_day" 3 ["_law_hand_here", "_law_order"] [] LW.F_l_near_day := ⟨f_l_near_day, _, ok_l_near_day F_l_near_day T C_l_of, PySem.W.mg_of X G a_l_near_day, k_l_near_day, F_l_near_day.binds (ps := ["_law_hand_here", "_law_order"]) fun _ _ _ _ _ _ us hl => match us, hl with | [_, _], _ => rfl, fun q hq => by cases hq⟩
  have C_l_near : Cal l.prog w (GG K fa0) mg base "_law_near" 4 ["_law_hand_here", "_law_form_here"] [] LW.F_l_near := ⟨f_l_near, _, ok_l_near F_l_near T C_l_near_day C_l_of, PySem.W.mg_of X G a_l_near, k_l_near, F_l_near.binds (ps := ["_law_hand_here", "_law_form_here"]) fun _ _ _ _ _ _ us hl => match us, hl with | [_, _], _ => rfl, fun q hq => by cases hq⟩
  have C_l_case : Cal l.prog w (GG K fa0) mg base "_law_case" 5 ["_law_hand_here", "_law_lot"] [] LW.F_l_case := ⟨f_l_case, _, ok_l_case F_l_case T C_l_of C_l_text C_l_take C_l_spelled C_l_form C_l_near, PySem.W.mg_of X G a_l_case, k_l_case, F_l_case.binds (ps := ["_law_hand_here", "_law_lot"]) fun _ _ _ _ _ _ us hl => match us, hl with | [_, _], _ => rfl, fun q hq => by cases hq⟩
  have C_l_worth : Cal l.prog w (GG K fa0) mg base "_law_worth" 1 ["_law_text_here"] [] LW.F_l_worth := ⟨f_l_worth, _, ok_l_worth F_l_worth T, PySem.W.mg_of X G a_l_worth, k_l_worth, F_l_worth.binds (ps := ["_law_text_here"]) fun _ _ _ _ _ _ us hl => match us, hl with | [_], _ => rfl, fun q hq => by cases hq⟩
  have C_l_are_figures : Cal l.prog w (GG K fa0) mg base "_law_are_figures" 1 ["_law_text_here", "_law_most"] [] LW.F_l_are_figures := ⟨f_l_are_figures, _, ok_l_are_figures F_l_are_figures T, PySem.W.mg_of X G a_l_are_figures, k_l_are_figures, F_l_are_figures.binds (ps := ["_law_text_here", "_law_most"]) fun _ _ _ _ _ _ us hl => match us, hl with | [_, _], _ => rfl, fun q hq => by cases hq⟩
  have C_l_figures : Cal l.prog w (GG K fa0) mg base "_law_figures" 1 ["_law_text_here"] [] LW.F_l_figures := ⟨f_l_figures, _, ok_l_figures F_l_figures T, PySem.W.mg_of X G a_l_figures, k_l_figures, F_l_figures.binds (ps := ["_law_text_here"]) fun _ _ _ _ _ _ us hl => match us, hl with | [_], _ => rfl, fun q hq => by cases hq⟩
  have C_l_day : Cal l.prog w (GG K fa0) mg base "_law_day" 2 ["_law_order", "_law_text_here"] [] LW.F_l_day := ⟨f_l_day, _, ok_l_day F_l_day T C_l_figures, PySem.W.mg_of X G a_l_day, k_l_day, F_l_day.binds (ps := ["_law_order", "_law_text_here"]) fun _ _ _ _ _ _ us hl => match us, hl with | [_, _], _ => rfl, fun q hq => by cases hq⟩
  have C_l_number : Cal l.prog w (GG K fa0) mg base "_law_number" 3 ["_law_form_here", "_law_text_here"] [] LW.F_l_number := ⟨f_l_number, _, ok_l_number F_l_number T C_l_are_figures C_l_figures C_l_day, PySem.W.mg_of X G a_l_number, k_l_number, F_l_number.binds (ps := ["_law_form_here", "_law_text_here"]) fun _ _ _ _ _ _ us hl => match us, hl with | [_, _], _ => rfl, fun q hq => by cases hq⟩
  have C_l_does : Cal l.prog w (GG K fa0) mg base "_law_does" 4 ["_law_deed", "_law_here"] [] LW.F_l_does := ⟨f_l_does, _, ok_l_does F_l_does T C_l_worth C_l_number, PySem.W.mg_of X G a_l_does, k_l_does, F_l_does.binds (ps := ["_law_deed", "_law_here"]) fun _ _ _ _ _ _ us hl => match us, hl with | [_, _], _ => rfl, fun q hq => by cases hq⟩
  have C_l_told_right : Cal l.prog w (GG K fa0) mg base "_law_told_right" 1 ["_law_told", "_law_due"] [] LW.F_l_told_right := ⟨f_l_told_right, _, ok_l_told_right F_l_told_right T, PySem.W.mg_of X G a_l_told_right, k_l_told_right, F_l_told_right.binds (ps := ["_law_told", "_law_due"]) fun _ _ _ _ _ _ us hl => match us, hl with | [_, _], _ => rfl, fun q hq => by cases hq⟩
  have C_cell_worth : Cal l.prog w (GG K fa0) mg base "cell_worth" 1 ["text"] [] LW.F_cell_worth := ⟨f_cell_worth, _, ok_cell_worth F_cell_worth T, PySem.W.mg_of X G a_cell_worth, k_cell_worth, F_cell_worth.binds (ps := ["text"]) fun _ _ _ _ _ _ us hl => match us, hl with | [_], _ => rfl, fun q hq => by cases hq⟩
  have C_cut_step : Cal l.prog w (GG K fa0) mg base "cut_step" 2 ["step", "worths"] [] LW.F_cut_step := ⟨f_cut_step, _, ok_cut_step F_cut_step T C_cell_worth, PySem.W.mg_of X G a_cut_step, k_cut_step, F_cut_step.binds (ps := ["step", "worths"]) fun _ _ _ _ _ _ us hl => match us, hl with | [_, _], _ => rfl, fun q hq => by cases hq⟩
  have C_glue_step : Cal l.prog w (GG K fa0) mg base "glue_step" 1 ["step", "worths"] [] LW.F_glue_step := ⟨f_glue_step, _, ok_glue_step F_glue_step T, PySem.W.mg_of X G a_glue_step, k_glue_step, F_glue_step.binds (ps := ["step", "worths"]) fun _ _ _ _ _ _ us hl => match us, hl with | [_, _], _ => rfl, fun q hq => by cases hq⟩
  have C_spell_step : Cal l.prog w (GG K fa0) mg base "spell_step" 1 ["step", "worths"] [] LW.F_spell_step := ⟨f_spell_step, _, ok_spell_step F_spell_step T, PySem.W.mg_of X G a_spell_step, k_spell_step, F_spell_step.binds (ps := ["step", "worths"]) fun _ _ _ _ _ _ us hl => match us, hl with | [_, _], _ => rfl, fun q hq => by cases hq⟩
  have C_are_figures : Cal l.prog w (GG K fa0) mg base "are_figures" 1 ["text", "least", "most"] [] LW.F_are_figures := ⟨f_are_figures, _, ok_are_figures F_are_figures T, PySem.W.mg_of X G a_are_figures, k_are_figures, F_are_figures.binds (ps := ["text", "least", "most"]) fun _ _ _ _ _ _ us hl => match us, hl with | [_, _, _], _ => rfl, fun q hq => by cases hq⟩
  have C_read_whole : Cal l.prog w (GG K fa0) mg base "read_whole" 2 ["text", "most"] [] LW.F_read_whole := ⟨f_read_whole, _, ok_read_whole F_read_whole T C_are_figures, PySem.W.mg_of X G a_read_whole, k_read_whole, F_read_whole.binds (ps := ["text", "most"]) fun _ _ _ _ _ _ us hl => match us, hl with | [_, _], _ => rfl, fun q hq => by cases hq⟩
  have C_read_amount : Cal l.prog w (GG K fa0) mg base "read_amount" 3 ["text", "places"] [] LW.F_read_amount := ⟨f_read_amount, _, ok_read_amount F_read_amount T C_are_figures C_read_whole, PySem.W.mg_of X G a_read_amount, k_read_amount, F_read_amount.binds (ps := ["text", "places"]) fun _ _ _ _ _ _ us hl => match us, hl with | [_, _], _ => rfl, fun q hq => by cases hq⟩
  have C_is_leap : Cal l.prog w (GG K fa0) mg base "is_leap" 1 ["year"] [] LW.F_is_leap := ⟨f_is_leap, _, ok_is_leap F_is_leap T, PySem.W.mg_of X G a_is_leap, k_is_leap, F_is_leap.binds (ps := ["year"]) fun _ _ _ _ _ _ us hl => match us, hl with | [_], _ => rfl, fun q hq => by cases hq⟩
  have C_month_days : Cal l.prog w (GG K fa0) mg base "month_days" 2 ["year", "month"] [] LW.F_month_days := ⟨f_month_days, _, ok_month_days F_month_days T C_is_leap, PySem.W.mg_of X G a_month_days, k_month_days, F_month_days.binds (ps := ["year", "month"]) fun _ _ _ _ _ _ us hl => match us, hl with | [_, _], _ => rfl, fun q hq => by cases hq⟩
  have C_days_ahead : Cal l.prog w (GG K fa0) mg base "days_ahead" 1 ["year"] [] LW.F_days_ahead := ⟨f_days_ahead, _, ok_days_ahead F_days_ahead T, PySem.W.mg_of X G a_days_ahead, k_days_ahead, F_days_ahead.binds (ps := ["year"]) fun _ _ _ _ _ _ us hl => match us, hl with | [_], _ => rfl, fun q hq => by cases hq⟩
  have C_day_number : Cal l.prog w (GG K fa0) mg base "day_number" 3 ["year", "month", "day"] [] LW.F_day_number := ⟨f_day_number, _, ok_day_number F_day_number T C_month_days C_days_ahead, PySem.W.mg_of X G a_day_number, k_day_number, F_day_number.binds (ps := ["year", "month", "day"]) fun _ _ _ _ _ _ us hl => match us, hl with | [_, _, _], _ => rfl, fun q hq => by cases hq⟩
  have C_read_day : Cal l.prog w (GG K fa0) mg base "read_day" 4 ["text", "order"] [] LW.F_read_day := ⟨f_read_day, _, ok_read_day F_read_day T C_are_figures C_day_number, PySem.W.mg_of X G a_read_day, k_read_day, F_read_day.binds (ps := ["text", "order"]) fun _ _ _ _ _ _ us hl => match us, hl with | [_, _], _ => rfl, fun q hq => by cases hq⟩
  have C_read_as : Cal l.prog w (GG K fa0) mg base "read_as" 5 ["form", "text"] [] LW.F_read_as := ⟨f_read_as, _, ok_read_as F_read_as T C_read_whole C_read_amount C_read_day, PySem.W.mg_of X G a_read_as, k_read_as, F_read_as.binds (ps := ["form", "text"]) fun _ _ _ _ _ _ us hl => match us, hl with | [_, _], _ => rfl, fun q hq => by cases hq⟩
  have C_read_step : Cal l.prog w (GG K fa0) mg base "read_step" 6 ["step", "worths"] [] LW.F_read_step := ⟨f_read_step, _, ok_read_step F_read_step T C_read_as, PySem.W.mg_of X G a_read_step, k_read_step, F_read_step.binds (ps := ["step", "worths"]) fun _ _ _ _ _ _ us hl => match us, hl with | [_, _], _ => rfl, fun q hq => by cases hq⟩
  have C_put_step : Cal l.prog w (GG K fa0) mg base "put_step" 1 ["step", "worths"] [] LW.F_put_step := ⟨f_put_step, _, ok_put_step F_put_step T, PySem.W.mg_of X G a_put_step, k_put_step, F_put_step.binds (ps := ["step", "worths"]) fun _ _ _ _ _ _ us hl => match us, hl with | [_, _], _ => rfl, fun q hq => by cases hq⟩
  have C_given_step : Cal l.prog w (GG K fa0) mg base "given_step" 1 ["step", "worths"] [] LW.F_given_step := ⟨f_given_step, _, ok_given_step F_given_step T, PySem.W.mg_of X G a_given_step, k_given_step, F_given_step.binds (ps := ["step", "worths"]) fun _ _ _ _ _ _ us hl => match us, hl with | [_, _], _ => rfl, fun q hq => by cases hq⟩
  have C_within_step : Cal l.prog w (GG K fa0) mg base "within_step" 1 ["step", "worths"] [] LW.F_within_step := ⟨f_within_step, _, ok_within_step F_within_step T, PySem.W.mg_of X G a_within_step, k_within_step, F_within_step.binds (ps := ["step", "worths"]) fun _ _ _ _ _ _ us hl => match us, hl with | [_, _], _ => rfl, fun q hq => by cases hq⟩
  have C_among_step : Cal l.prog w (GG K fa0) mg base "among_step" 1 ["step", "worths"] [] LW.F_among_step := ⟨f_among_step, _, ok_among_step F_among_step T, PySem.W.mg_of X G a_among_step, k_among_step, F_among_step.binds (ps := ["step", "worths"]) fun _ _ _ _ _ _ us hl => match us, hl with | [_, _], _ => rfl, fun q hq => by cases hq⟩
  have C_before_step : Cal l.prog w (GG K fa0) mg base "before_step" 1 ["step", "worths"] [] LW.F_before_step := ⟨f_before_step, _, ok_before_step F_before_step T, PySem.W.mg_of X G a_before_step, k_before_step, F_before_step.binds (ps := ["step", "worths"]) fun _ _ _ _ _ _ us hl => match us, hl with | [_, _], _ => rfl, fun q hq => by cases hq⟩
  have CF_DONE : ∀ n F, Fs_DONE n = some F → CalV l.prog w (GG K fa0) mg base 6 2 n F := by
    intro n F h
    unfold Fs_DONE at h
    split at h
    · cases h; obtain ⟨q1, q2, q3, q4, q5, q6, _⟩ := C_cut_step.ex; exact ⟨⟨f_cut_step, q2, _, rfl, rfl, by have e := q4.symm.trans (PySem.W.mg_of X G a_cut_step); cases e; exact q3.mono (by decide), k_cut_step, by have e := q4.symm.trans (PySem.W.mg_of X G a_cut_step); cases e; exact q6⟩⟩
    · cases h; obtain ⟨q1, q2, q3, q4, q5, q6, _⟩ := C_glue_step.ex; exact ⟨⟨f_glue_step, q2, _, rfl, rfl, by have e := q4.symm.trans (PySem.W.mg_of X G a_glue_step); cases e; exact q3.mono (by decide), k_glue_step, by have e := q4.symm.trans (PySem.W.mg_of X G a_glue_step); cases e; exact q6⟩⟩
    · cases h; obtain ⟨q1, q2, q3, q4, q5, q6, _⟩ := C_spell_step.ex; exact ⟨⟨f_spell_step, q2, _, rfl, rfl, by have e := q4.symm.trans (PySem.W.mg_of X G a_spell_step); cases e; exact q3.mono (by decide), k_spell_step, by have e := q4.symm.trans (PySem.W.mg_of X G a_spell_step); cases e; exact q6⟩⟩
    · cases h; obtain ⟨q1, q2, q3, q4, q5, q6, _⟩ := C_read_step.ex; exact ⟨⟨f_read_step, q2, _, rfl, rfl, by have e := q4.symm.trans (PySem.W.mg_of X G a_read_step); cases e; exact q3.mono (by decide), k_read_step, by have e := q4.symm.trans (PySem.W.mg_of X G a_read_step); cases e; exact q6⟩⟩
    · cases h; obtain ⟨q1, q2, q3, q4, q5, q6, _⟩ := C_put_step.ex; exact ⟨⟨f_put_step, q2, _, rfl, rfl, by have e := q4.symm.trans (PySem.W.mg_of X G a_put_step); cases e; exact q3.mono (by decide), k_put_step, by have e := q4.symm.trans (PySem.W.mg_of X G a_put_step); cases e; exact q6⟩⟩
    · cases h; obtain ⟨q1, q2, q3, q4, q5, q6, _⟩ := C_given_step.ex; exact ⟨⟨f_given_step, q2, _, rfl, rfl, by have e := q4.symm.trans (PySem.W.mg_of X G a_given_step); cases e; exact q3.mono (by decide), k_given_step, by have e := q4.symm.trans (PySem.W.mg_of X G a_given_step); cases e; exact q6⟩⟩
    · cases h; obtain ⟨q1, q2, q3, q4, q5, q6, _⟩ := C_within_step.ex; exact ⟨⟨f_within_step, q2, _, rfl, rfl, by have e := q4.symm.trans (PySem.W.mg_of X G a_within_step); cases e; exact q3.mono (by decide), k_within_step, by have e := q4.symm.trans (PySem.W.mg_of X G a_within_step); cases e; exact q6⟩⟩
    · cases h; obtain ⟨q1, q2, q3, q4, q5, q6, _⟩ := C_among_step.ex; exact ⟨⟨f_among_step, q2, _, rfl, rfl, by have e := q4.symm.trans (PySem.W.mg_of X G a_among_step); cases e; exact q3.mono (by decide), k_among_step, by have e := q4.symm.trans (PySem.W.mg_of X G a_among_step); cases e; exact q6⟩⟩
    · cases h; obtain ⟨q1, q2, q3, q4, q5, q6, _⟩ := C_before_step.ex; exact ⟨⟨f_before_step, q2, _, rfl, rfl, by have e := q4.symm.trans (PySem.W.mg_of X G a_before_step); cases e; exact q3.mono (by decide), k_before_step, by have e := q4.symm.trans (PySem.W.mg_of X G a_before_step); cases e; exact q6⟩⟩
    · cases h
  have C_done : Cal l.prog w (GG K fa0) mg base "done" 7 ["step", "worths"] [(["worths", "step"], [1, 0])] LW.F_done := ⟨f_done, _, ok_done F_done T KT_DONE CF_DONE, PySem.W.mg_of X G a_done, k_done, F_done.binds (ps := ["step", "worths"]) fun _ _ _ _ _ _ us hl => match us, hl with | [_, _], _ => rfl, fun q hq => by
      simp only [List.mem_cons, List.not_mem_nil, or_false] at hq
      rcases hq with rfl
      · intro s ws hl
        match ws, hl with
        | [_, _], _ => exact .of_eq rfl
⟩
  exact ok_law F_law T C_l_hand C_l_take C_l_case C_l_does C_l_told_right C_done
end LW

open PySem PySem.W PyProof.Rows in
set_option maxRecDepth 100000 in
set_option maxHeartbeats 0 in
theorem PySem.Challenge.cw_cleanedtables_k21_steps_on_rows_holds : PySem.Challenge.rw_cleanedtables_k21_steps_on_rows.Holds := by
  refine topK ?_
  k_fill
  refine DL.walkGT (l := PySem.Challenge.rw_cleanedtables_k21_steps_on_rows) (n := 63) (k := 8) (x := "_law_script") (i := 9) (lq := LW.lq_l_spelled) rfl (by decide) rfl ⟨rfl, by decide, by decide⟩ (fun w h Y => PySem.W.km_in_of Y) (fun w h Y => PySem.W.km_tabs_of Y) ?F
  case F =>
    intro w mg fa h KX G hmg
    refine' LW.all_mk KX G hmg ?a_l_hand ?l_l_hand ?c_l_hand ?k_l_hand ?a_l_take ?l_l_take ?c_l_take ?k_l_take ?a_l_of ?l_l_of ?c_l_of ?k_l_of ?a_l_text ?l_l_text ?c_l_text ?k_l_text ?a_l_spelled ?l_l_spelled ?c_l_spelled ?k_l_spelled ?a_l_form ?l_l_form ?c_l_form ?k_l_form ?a_l_near_day ?l_l_near_day ?c_l_near_day ?k_l_near_day ?a_l_near ?l_l_near ?c_l_near ?k_l_near ?a_l_case ?l_l_case ?c_l_case ?k_l_case ?a_l_worth ?l_l_worth ?c_l_worth ?k_l_worth ?a_l_are_figures ?l_l_are_figures ?c_l_are_figures ?k_l_are_figures ?a_l_figures ?l_l_figures ?c_l_figures ?k_l_figures ?a_l_day ?l_l_day ?c_l_day ?k_l_day ?a_l_number ?l_l_number ?c_l_number ?k_l_number ?a_l_does ?l_l_does ?c_l_does ?k_l_does ?a_l_told_right ?l_l_told_right ?c_l_told_right ?k_l_told_right ?a_cell_worth ?l_cell_worth ?c_cell_worth ?k_cell_worth ?a_cut_step ?l_cut_step ?c_cut_step ?k_cut_step ?a_glue_step ?l_glue_step ?c_glue_step ?k_glue_step ?a_spell_step ?l_spell_step ?c_spell_step ?k_spell_step ?a_are_figures ?l_are_figures ?c_are_figures ?k_are_figures ?a_read_whole ?l_read_whole ?c_read_whole ?k_read_whole ?a_read_amount ?l_read_amount ?c_read_amount ?k_read_amount ?a_is_leap ?l_is_leap ?c_is_leap ?k_is_leap ?a_month_days ?l_month_days ?c_month_days ?k_month_days ?a_days_ahead ?l_days_ahead ?c_days_ahead ?k_days_ahead ?a_day_number ?l_day_number ?c_day_number ?k_day_number ?a_read_day ?l_read_day ?c_read_day ?k_read_day ?a_read_as ?l_read_as ?c_read_as ?k_read_as ?a_read_step ?l_read_step ?c_read_step ?k_read_step ?a_put_step ?l_put_step ?c_put_step ?k_put_step ?a_given_step ?l_given_step ?c_given_step ?k_given_step ?a_within_step ?l_within_step ?c_within_step ?k_within_step ?a_among_step ?l_among_step ?c_among_step ?k_among_step ?a_before_step ?l_before_step ?c_before_step ?k_before_step ?a_done ?l_done ?c_done ?k_done ?a_law ?l_law ?c_law ?k_law ?zb_abs ?zb_all ?zb_bool ?zb_dict ?zb_int ?zb_isinstance ?zb_len ?zb_max ?zb_min ?zb_range ?zb_repr ?zb_sorted ?zb_str ?zb_sum ?zb_tuple ?zb_zip ?zc_FIGURES ?zc_MONTHS ?lc_MONTHS ?vc_MONTHS ?zc_MOST_AMOUNT ?zc_MOST_WHOLE ?zc_PARTINGS ?zf_DONE ?lf_DONE ?kf_DONE ?tf_DONE ?tb1 ?tb2 ?tb3 ?tb4 ?tb5 ?tb6 LW.law_right
    (case a_l_hand => k_is)
    (case l_l_hand => k_is)
    (case c_l_hand => k_is)
    (case k_l_hand => k_is)
    (case a_l_take => k_is)
    (case l_l_take => k_is)
    (case c_l_take => k_is)
    (case k_l_take => k_is)
    (case a_l_of => k_is)
    (case l_l_of => k_is)
    (case c_l_of => k_is)
    (case k_l_of => k_is)
    (case a_l_text => k_is)
    (case l_l_text => k_is)
    (case c_l_text => k_is)
    (case k_l_text => k_is)
    (case a_l_spelled => k_is)
    (case l_l_spelled => k_is)
    (case c_l_spelled => k_is)
    (case k_l_spelled => k_is)
    (case a_l_form => k_is)
    (case l_l_form => k_is)
    (case c_l_form => k_is)
    (case k_l_form => k_is)
    (case a_l_near_day => k_is)
    (case l_l_near_day => k_is)
    (case c_l_near_day => k_is)
    (case k_l_near_day => k_is)
    (case a_l_near => k_is)
    (case l_l_near => k_is)
    (case c_l_near => k_is)
    (case k_l_near => k_is)
    (case a_l_case => k_is)
    (case l_l_case => k_is)
    (case c_l_case => k_is)
    (case k_l_case => k_is)
    (case a_l_worth => k_is)
    (case l_l_worth => k_is)
    (case c_l_worth => k_is)
    (case k_l_worth => k_is)
    (case a_l_are_figures => k_is)
    (case l_l_are_figures => k_is)
    (case c_l_are_figures => k_is)
    (case k_l_are_figures => k_is)
    (case a_l_figures => k_is)
    (case l_l_figures => k_is)
    (case c_l_figures => k_is)
    (case k_l_figures => k_is)
    (case a_l_day => k_is)
    (case l_l_day => k_is)
    (case c_l_day => k_is)
    (case k_l_day => k_is)
    (case a_l_number => k_is)
    (case l_l_number => k_is)
    (case c_l_number => k_is)
    (case k_l_number => k_is)
    (case a_l_does => k_is)
    (case l_l_does => k_is)
    (case c_l_does => k_is)
    (case k_l_does => k_is)
    (case a_l_told_right => k_is)
    (case l_l_told_right => k_is)
    (case c_l_told_right => k_is)
    (case k_l_told_right => k_is)
    (case a_cell_worth => k_is)
    (case l_cell_worth => k_is)
    (case c_cell_worth => k_is)
    (case k_cell_worth => k_is)
    (case a_cut_step => k_is)
    (case l_cut_step => k_is)
    (case c_cut_step => k_is)
    (case k_cut_step => k_is)
    (case a_glue_step => k_is)
    (case l_glue_step => k_is)
    (case c_glue_step => k_is)
    (case k_glue_step => k_is)
    (case a_spell_step => k_is)
    (case l_spell_step => k_is)
    (case c_spell_step => k_is)
    (case k_spell_step => k_is)
    (case a_are_figures => k_is)
    (case l_are_figures => k_is)
    (case c_are_figures => k_is)
    (case k_are_figures => k_is)
    (case a_read_whole => k_is)
    (case l_read_whole => k_is)
    (case c_read_whole => k_is)
    (case k_read_whole => k_is)
    (case a_read_amount => k_is)
    (case l_read_amount => k_is)
    (case c_read_amount => k_is)
    (case k_read_amount => k_is)
    (case a_is_leap => k_is)
    (case l_is_leap => k_is)
    (case c_is_leap => k_is)
    (case k_is_leap => k_is)
    (case a_month_days => k_is)
    (case l_month_days => k_is)
    (case c_month_days => k_is)
    (case k_month_days => k_is)
    (case a_days_ahead => k_is)
    (case l_days_ahead => k_is)
    (case c_days_ahead => k_is)
    (case k_days_ahead => k_is)
    (case a_day_number => k_is)
    (case l_day_number => k_is)
    (case c_day_number => k_is)
    (case k_day_number => k_is)
    (case a_read_day => k_is)
    (case l_read_day => k_is)
    (case c_read_day => k_is)
    (case k_read_day => k_is)
    (case a_read_as => k_is)
    (case l_read_as => k_is)
    (case c_read_as => k_is)
    (case k_read_as => k_is)
    (case a_read_step => k_is)
    (case l_read_step => k_is)
    (case c_read_step => k_is)
    (case k_read_step => k_is)
    (case a_put_step => k_is)
    (case l_put_step => k_is)
    (case c_put_step => k_is)
    (case k_put_step => k_is)
    (case a_given_step => k_is)
    (case l_given_step => k_is)
    (case c_given_step => k_is)
    (case k_given_step => k_is)
    (case a_within_step => k_is)
    (case l_within_step => k_is)
    (case c_within_step => k_is)
    (case k_within_step => k_is)
    (case a_among_step => k_is)
    (case l_among_step => k_is)
    (case c_among_step => k_is)
    (case k_among_step => k_is)
    (case a_before_step => k_is)
    (case l_before_step => k_is)
    (case c_before_step => k_is)
    (case k_before_step => k_is)
    (case a_done => k_is)
    (case l_done => k_is)
    (case c_done => k_is)
    (case k_done => k_is)
    (case a_law => k_is)
    (case l_law => k_is)
    (case c_law => k_is)
    (case k_law => k_is)
    (case zb_abs => k_is)
    (case zb_all => k_is)
    (case zb_bool => k_is)
    (case zb_dict => k_is)
    (case zb_int => k_is)
    (case zb_isinstance => k_is)
    (case zb_len => k_is)
    (case zb_max => k_is)
    (case zb_min => k_is)
    (case zb_range => k_is)
    (case zb_repr => k_is)
    (case zb_sorted => k_is)
    (case zb_str => k_is)
    (case zb_sum => k_is)
    (case zb_tuple => k_is)
    (case zb_zip => k_is)
    (case zc_FIGURES => k_is)
    (case zc_MONTHS => k_is)
    (case lc_MONTHS => k_is)
    (case vc_MONTHS => exact ⟨by decide, by repeat' first | exact .nil | refine .cons ⟨_, rfl⟩ ?_⟩)
    (case zc_MOST_AMOUNT => k_is)
    (case zc_MOST_WHOLE => k_is)
    (case zc_PARTINGS => k_is)
    (case zf_DONE => k_is)
    (case lf_DONE => k_is)
    (case kf_DONE => exact ⟨⟨_, _, rfl, rfl⟩, ⟨_, _, rfl, rfl⟩, ⟨_, _, rfl, rfl⟩, ⟨_, _, rfl, rfl⟩, ⟨_, _, rfl, rfl⟩, ⟨_, _, rfl, rfl⟩, ⟨_, _, rfl, rfl⟩, ⟨_, _, rfl, rfl⟩, ⟨_, _, rfl, rfl⟩, trivial⟩)
    (case tf_DONE => exact .cons ⟨_, _, rfl, rfl, rfl⟩ (.cons ⟨_, _, rfl, rfl, rfl⟩ (.cons ⟨_, _, rfl, rfl, rfl⟩ (.cons ⟨_, _, rfl, rfl, rfl⟩ (.cons ⟨_, _, rfl, rfl, rfl⟩ (.cons ⟨_, _, rfl, rfl, rfl⟩ (.cons ⟨_, _, rfl, rfl, rfl⟩ (.cons ⟨_, _, rfl, rfl, rfl⟩ (.cons ⟨_, _, rfl, rfl, rfl⟩ (.nil))))))))))
    (case tb1 => rfl)
    (case tb2 => k_is)
    (case tb3 => rfl)
    (case tb4 => kernel_rfl)
    (case tb5 => kernel_rfl)
    (case tb6 => exact List.mem_cons_self)

