import PyProof.Rows.All
import Wide.All
import OpenK.AllK
import Wide.FinOn
import HandS.ForMost
import HandS.ForExc
import HandS.Flow
import HandS.Nested
import HandS.IsInst
import HandS.TryMany
import HandS.Conv
import HandS.Deep
import HandS.CallSlots
import HandS.CallLocal
import KE.KDictKeyed
import HandS.TupAny
import HandS.TupMul
import HandS.Wide
import KE.DataCmp
import PyProof.P3In
import PyProof.ReprRoads
import KE.SortData
import KE.DataMinMax
import HandS.Flt
import PyProof.Rows.RowBridgeK
import HandS.ExcSuper
import HandS.Lambda
import HandS.Defaults
import HandS.NoneIn
import PyProof.Rows.SortWalk
import HandS.EndBits
import HandS.EndTab
import HandS.Head0
import HandS.Head1
import HandS.Head2
import HandS.HeadHook4
import HandS.Style
import PyProof.ReprBulk
import PySem.Challenge.RW_damptiles_k40_whole_two_boxes
set_option Elab.async false
set_option linter.all false
set_option maxRecDepth 100000
set_option maxHeartbeats 4000000
namespace DL
open PySem PySem.Spec PyProof.Rows L2

abbrev D := PyData

/-! ### what stands for data -/
/-- a dict whose keys are tuples (nested), its entries: key, where its tuple stands, value -/
def DNφ (P : Program) (w : World) (a : Addr) (xs : List (NestedKey × Addr × V)) : Heap → Prop := fun h =>
  ∃ (o : Obj) (es : Array DictEntry) (ep : Nat) (ys : List (NestedKey × Addr × Value)), h.get? a = some o ∧ o.ExactDict ∧ o.data = .dict es ep ∧
    es.toList = ys.map (entryOfKey (nestedKind P w)) ∧ Paired (fun (x : NestedKey × Addr × V) (y : NestedKey × Addr × Value) => x.1 = y.1 ∧ x.2.1 = y.2.1 ∧ RelV x.2.2 y.2.2) xs ys ∧
    (xs.map (·.1)).Nodup ∧ (a == sysModules) = false ∧ xs.length ≤ sizeLine
def DN (P : Program) (w : World) (a : Addr) (xs : List (NestedKey × Addr × V)) : HO := .ext (DNφ P w a xs)

mutual
/-- a key as data -/
def keyD : NestedKey → D
  | .none => .none
  | .num i => .int i
  | .text x => .str x
  | .tup ks => .tuple (keyDs ks)
def keyDs : List NestedKey → List D
  | [] => []
  | k :: ks => keyD k :: keyDs ks
end

section
variable (P : Program) (w : World) (K : PySem.W.Frag) (H : Hp)
mutual
/-- v is the data d; its lists and dicts stand at addresses that S lets -/
inductive Rp (S : Addr → Prop) : V → D → Prop
  | non : Rp S .non .none
  | bl (b : Bool) : Rp S (.bl b) (.bool b)
  | int (i : Int) : Rp S (.int i) (.int i)
  | str (x : Str) : Rp S (.str x) (.str x)
  | tup {a : Addr} {vs : List V} {ds : List D} : SqT K H a vs → Rps S vs ds → Rp S (.ref a) (.tuple ds)
  | lst {a : Addr} {vs : List V} {ds : List D} : S a → Rd H a (.lst vs) → Rps S vs ds → Rp S (.ref a) (.list ds)
  | dct {a : Addr} {xs : List (NestedKey × Addr × V)} {kvs : List (D × D)} : S a → Rd H a (DN P w a xs) → Rpk S xs kvs → Rp S (.ref a) (.dict kvs)
inductive Rps (S : Addr → Prop) : List V → List D → Prop
  | nil : Rps S [] []
  | cons {v : V} {vs : List V} {d : D} {ds : List D} : Rp S v d → Rps S vs ds → Rps S (v :: vs) (d :: ds)
inductive Rpk (S : Addr → Prop) : List (NestedKey × Addr × V) → List (D × D) → Prop
  | nil : Rpk S [] []
  | cons {k : NestedKey} {b : Addr} {v : V} {xs : List (NestedKey × Addr × V)} {d : D} {kvs : List (D × D)} : Rp S (.ref b) (keyD k) → k.depth ≤ 8 → Rp S v d → Rpk S xs kvs → Rpk S ((k, b, v) :: xs) ((keyD k, d) :: kvs)
end
end

section
variable {P : Program} {w : World} {K : PySem.W.Frag} {H H' : Hp} {S S' : Addr → Prop}
/-- what Rp leans on is kept -/
structure Kept (S : Addr → Prop) (H H' : Hp) : Prop where
  tup : ∀ a vs, Rd H a (.tup vs) → Rd H' a (.tup vs)
  lst : ∀ a vs, S a → Rd H a (.lst vs) → Rd H' a (.lst vs)
  dct : ∀ P w a xs, S a → Rd H a (DN P w a xs) → Rd H' a (DN P w a xs)
theorem sqT_kept (k : Kept S H H') {a : Addr} {vs : List V} (h : SqT K H a vs) : SqT K H' a vs := h.elim (fun h => .inl (k.tup _ _ h)) .inr
mutual
theorem Rp.mono (k : Kept S H H') (hS : ∀ a, S a → S' a) : ∀ {v : V} {d : D}, Rp P w K H S v d → Rp P w K H' S' v d
  | _, _, .non => .non
  | _, _, .bl b => .bl b
  | _, _, .int i => .int i
  | _, _, .str x => .str x
  | _, _, .tup h r => .tup (sqT_kept k h) (Rps.mono k hS r)
  | _, _, .lst s h r => .lst (hS _ s) (k.lst _ _ s h) (Rps.mono k hS r)
  | _, _, .dct s h r => .dct (hS _ s) (k.dct _ _ _ _ s h) (Rpk.mono k hS r)
theorem Rps.mono (k : Kept S H H') (hS : ∀ a, S a → S' a) : ∀ {vs : List V} {ds : List D}, Rps P w K H S vs ds → Rps P w K H' S' vs ds
  | _, _, .nil => .nil
  | _, _, .cons h r => .cons (Rp.mono k hS h) (Rps.mono k hS r)
theorem Rpk.mono (k : Kept S H H') (hS : ∀ a, S a → S' a) : ∀ {xs : List (NestedKey × Addr × V)} {kvs : List (D × D)}, Rpk P w K H S xs kvs → Rpk P w K H' S' xs kvs
  | _, _, .nil => .nil
  | _, _, .cons h n h' r => .cons (Rp.mono k hS h) n (Rp.mono k hS h') (Rpk.mono k hS r)
end
theorem Kept.refl : Kept S H H := ⟨fun _ _ h => h, fun _ _ _ h => h, fun _ _ _ _ _ h => h⟩
mutual
/-- an address that holds nothing is not in it -/
theorem Rp.avoid {p : Addr} (hp : H p = none) : ∀ {v : V} {d : D}, Rp P w K H S v d → Rp P w K H (fun a => S a ∧ a ≠ p) v d
  | _, _, .non => .non
  | _, _, .bl b => .bl b
  | _, _, .int i => .int i
  | _, _, .str x => .str x
  | _, _, .tup h r => .tup h (Rps.avoid hp r)
  | _, _, .lst s h r => .lst ⟨s, fun e => by subst e; rcases h with h | ⟨o, h⟩ <;> rw [hp] at h <;> cases h⟩ h (Rps.avoid hp r)
  | _, _, .dct s h r => .dct ⟨s, fun e => by subst e; rcases h with h | ⟨o, h⟩ <;> rw [hp] at h <;> cases h⟩ h (Rpk.avoid hp r)
theorem Rps.avoid {p : Addr} (hp : H p = none) : ∀ {vs : List V} {ds : List D}, Rps P w K H S vs ds → Rps P w K H (fun a => S a ∧ a ≠ p) vs ds
  | _, _, .nil => .nil
  | _, _, .cons h r => .cons (Rp.avoid hp h) (Rps.avoid hp r)
theorem Rpk.avoid {p : Addr} (hp : H p = none) : ∀ {xs : List (NestedKey × Addr × V)} {kvs : List (D × D)}, Rpk P w K H S xs kvs → Rpk P w K H (fun a => S a ∧ a ≠ p) xs kvs
  | _, _, .nil => .nil
  | _, _, .cons h n h' r => .cons (Rp.avoid hp h) n (Rp.avoid hp h') (Rpk.avoid hp r)
end
theorem Rps.length : ∀ {vs : List V} {ds : List D}, Rps P w K H S vs ds → vs.length = ds.length
  | _, _, .nil => rfl
  | _, _, .cons _ r => by rw [List.length_cons, List.length_cons, Rps.length r]
theorem Rps.get : ∀ {vs : List V} {ds : List D} {i : Nat} {v : V}, Rps P w K H S vs ds → vs[i]? = some v → ∃ d, ds[i]? = some d ∧ Rp P w K H S v d
  | _, _, _, _, .nil, e => by simp at e
  | _, _, 0, _, .cons h _, e => by simp at e; subst e; exact ⟨_, rfl, h⟩
  | _, _, i + 1, v, .cons _ r, e => by
    obtain ⟨d, e', h⟩ := Rps.get (i := i) r (by simpa using e)
    exact ⟨d, by simpa using e', h⟩
theorem Rps.getD : ∀ {vs : List V} {ds : List D} {i : Nat} {d : D}, Rps P w K H S vs ds → ds[i]? = some d → ∃ v, vs[i]? = some v ∧ Rp P w K H S v d
  | _, _, _, _, .nil, e => by simp at e
  | _, _, 0, _, .cons h _, e => by simp at e; subst e; exact ⟨_, rfl, h⟩
  | _, _, i + 1, v, .cons _ r, e => by
    obtain ⟨d, e', h⟩ := Rps.getD (i := i) r (by simpa using e)
    exact ⟨d, by simpa using e', h⟩
theorem Rps.append : ∀ {vs us : List V} {ds es : List D}, Rps P w K H S vs ds → Rps P w K H S us es → Rps P w K H S (vs ++ us) (ds ++ es)
  | _, _, _, _, .nil, s => s
  | _, _, _, _, .cons h r, s => .cons h (Rps.append r s)
mutual
/-- data without lists and dicts -/
def pure? : D → Bool
  | .list _ => false
  | .dict _ => false
  | .tuple ds => pures? ds
  | _ => true
def pures? : List D → Bool
  | [] => true
  | d :: ds => pure? d && pures? ds
end
mutual
theorem Rp.pure : ∀ {v : V} {d : D}, Rp P w K H S v d → pure? d = true → Rp P w K H S' v d
  | _, _, .non, _ => .non
  | _, _, .bl b, _ => .bl b
  | _, _, .int i, _ => .int i
  | _, _, .str x, _ => .str x
  | _, _, .tup h r, e => .tup h (Rps.pure r (by unfold pure? at e; exact e))
  | _, _, .lst s h r, e => by unfold pure? at e; cases e
  | _, _, .dct s h r, e => by unfold pure? at e; cases e
theorem Rps.pure : ∀ {vs : List V} {ds : List D}, Rps P w K H S vs ds → pures? ds = true → Rps P w K H S' vs ds
  | _, _, .nil, _ => .nil
  | _, _, .cons h r, e => by
    unfold pures? at e
    have e := Bool.and_eq_true_iff.mp e
    exact .cons (Rp.pure h e.1) (Rps.pure r e.2)
end
mutual
/-- no dict in it -/
def flatD : D → Bool
  | .list ds => flatDs ds
  | .tuple ds => flatDs ds
  | .dict _ => false
  | _ => true
def flatDs : List D → Bool
  | [] => true
  | d :: ds => flatD d && flatDs ds
end
mutual
theorem Rp.dp : ∀ {v : V} {d : D}, Rp P w K H S v d → flatD d = true → Dp K H v d
  | _, _, .non, _ => .non
  | _, _, .bl b, _ => .bl b
  | _, _, .int i, _ => .int i
  | _, _, .str x, _ => .str x
  | _, _, .tup h r, e => .tup h (Rps.dp r (by unfold flatD at e; exact e))
  | _, _, .lst s h r, e => .lst (.inl h) (Rps.dp r (by unfold flatD at e; exact e))
  | _, _, .dct s h r, e => by unfold flatD at e; cases e
theorem Rps.dp : ∀ {vs : List V} {ds : List D}, Rps P w K H S vs ds → flatDs ds = true → DpAll K H vs ds
  | _, _, .nil, _ => .nil
  | _, _, .cons h r, e => by
    unfold flatDs at e
    have e := Bool.and_eq_true_iff.mp e
    exact .cons (Rp.dp h e.1) (Rps.dp r e.2)
end
end

/-! ### results, names, what runs -/
/-- a value: frozen, just made, or a name's own (lent) -/
inductive RV where
  | fz (d : D) | ow (d : D) | bw (d : D)
def RV.d : RV → D
  | .fz d => d | .ow d => d | .bw d => d
/-- what a name holds: data that stays, data of its own, a function that was handed over -/
inductive EV where
  | fz (d : D) | ow (d : D) | fn (k : Nat)
inductive Res (α : Type) where
  | ok (a : α) | exc (c : Nat) (d : D) | err
def Res.bind {α β : Type} (r : Res α) (f : α → Res β) : Res β := match r with
  | .ok a => f a
  | .exc c d => .exc c d
  | .err => .err
abbrev DEnv := List (Option EV)
abbrev Ex := DEnv → List Int → Res (RV × List Int)
abbrev Tx := DEnv → List Int → Res (Bool × List Int)
abbrev Ax := DEnv → List Int → Res (List RV × List Int)
inductive Out where
  | nx (ρ : DEnv) (w : List Int) | rt (r : RV) (w : List Int) | bk (ρ : DEnv) (w : List Int) | ct (ρ : DEnv) (w : List Int) | exc (c : Nat) (d : D) | err
abbrev Sx := DEnv → List Int → Out

/-- what stays the same through a def's run -/
structure Cn where
  P : Program
  w : World
  K : PySem.W.Frag
  /-- the heap at the entry, the addresses that the arguments may stand at -/
  H0 : Hp
  S0 : Addr → Prop
  /-- the state's list, the place of its name -/
  pw : Option Addr
  pi : Nat
  /-- dicts that are walked -/
  lk : List Addr
  /-- what a loop walks -/
  hid : List (V × D)
  /-- functions that were handed over -/
  fns : List Addr
  T : List NdefX.NTab
  /-- the class with a number -/
  cls : Nat → Value
  /-- which exceptions of it may come -/
  pay : Nat → Option Addr → D → Hp → Prop

/-- all that stands stays, but for the state's list and the tables -/
structure Grow (pw : Option Addr) (H H' : Hp) : Prop where
  keep : ∀ a o, H a = some o → (∀ ps, o ≠ .tbl ps) → pw ≠ some a → H' a = some o
  nn : ∀ a, H' a = none → H a = none
theorem Grow.refl {pw : Option Addr} {H : Hp} : Grow pw H H := ⟨fun _ _ h _ _ => h, fun _ h => h⟩
theorem Grow.trans {pw : Option Addr} {H H1 H2 : Hp} (a : Grow pw H H1) (b : Grow pw H1 H2) : Grow pw H H2 :=
  ⟨fun c o h n q => b.keep c o (a.keep c o h n q) n q, fun c h => a.nn c (b.nn c h)⟩
theorem Grow.new {pw : Option Addr} {H : Hp} {p : Addr} {o : HO} (hp : H p = none) : Grow pw H (upd H p o) :=
  ⟨fun a u h _ _ => by rw [upd_ne (ne_of_none h hp)]; exact h, fun a h => by
    by_cases e : a = p
    · rw [e]; exact hp
    · rw [upd_ne e] at h; exact h⟩
theorem DN_tbl {P : Program} {w : World} {a : Addr} {xs : List (NestedKey × Addr × V)} (ps : Array Value) : DN P w a xs ≠ .tbl ps := fun z => by unfold DN at z; cases z
theorem Grow.kept {pw : Option Addr} {H H' : Hp} {S : Addr → Prop} (g : Grow pw H H') (hS : ∀ p, pw = some p → ¬ S p ∧ ∃ xs, H p = some (.lst xs)) : Kept S H H' := by
  have ne : ∀ a, S a → pw ≠ some a := fun a s e => (hS a e).1 s
  refine ⟨fun a vs h => ?_, fun a vs s h => ?_, fun P w a xs s h => ?_⟩
  · rcases h with h | ⟨o, h⟩
    · refine .inl (g.keep _ _ h (fun _ z => nomatch z) fun e => ?_)
      obtain ⟨_, xs, q⟩ := hS a e
      rw [h] at q; cases q
    · refine .inr ⟨o, g.keep _ _ h (fun _ z => nomatch z) fun e => ?_⟩
      obtain ⟨_, xs, q⟩ := hS a e
      rw [h] at q; cases q
  · rcases h with h | ⟨o, h⟩
    · exact .inl (g.keep _ _ h (fun _ z => nomatch z) (ne a s))
    · exact .inr ⟨o, g.keep _ _ h (fun _ z => nomatch z) (ne a s)⟩
  · rcases h with h | ⟨o, h⟩
    · exact .inl (g.keep _ _ h (fun ps => DN_tbl ps) (ne a s))
    · exact .inr ⟨o, g.keep _ _ h (fun _ z => nomatch z) (ne a s)⟩

/-- a thing of one's own at p: a list or a dict, what is in it frozen -/
inductive Own (P : Program) (w : World) (K : PySem.W.Frag) (H : Hp) (S : Addr → Prop) (p : Addr) : D → Prop
  | lst {vs : List V} {ds : List D} : H p = some (.lst vs) → Rps P w K H S vs ds → Own P w K H S p (.list ds)
  | dct {xs : List (NestedKey × Addr × V)} {kvs : List (D × D)} : H p = some (DN P w p xs) → Rpk P w K H S xs kvs → Own P w K H S p (.dict kvs)
theorem Own.rp {P : Program} {w : World} {K : PySem.W.Frag} {H : Hp} {S S' : Addr → Prop} {p : Addr} {d : D} (h : Own P w K H S p d) (hS : ∀ a, S a → S' a) (hp : S' p) : Rp P w K H S' (.ref p) d := by
  cases h with
  | lst e r => exact .lst hp (.inl e) (r.mono .refl hS)
  | dct e r => exact .dct hp (.inl e) (r.mono .refl hS)
theorem Own.mono {P : Program} {w : World} {K : PySem.W.Frag} {H : Hp} {S S' : Addr → Prop} {p : Addr} {d : D} (h : Own P w K H S p d) (hS : ∀ a, S a → S' a) : Own P w K H S' p d := by
  cases h with
  | lst e r => exact .lst e (r.mono .refl hS)
  | dct e r => exact .dct e (r.mono .refl hS)
theorem Own.ne {P : Program} {w : World} {K : PySem.W.Frag} {H : Hp} {S : Addr → Prop} {p : Addr} {d : D} (h : Own P w K H S p d) : H p ≠ none := by
  cases h with
  | lst e r => rw [e]; exact fun z => nomatch z
  | dct e r => rw [e]; exact fun z => nomatch z
theorem Own.grow {P : Program} {w : World} {K : PySem.W.Frag} {H H' : Hp} {S : Addr → Prop} {p : Addr} {d : D} {pw : Option Addr} (h : Own P w K H S p d) (g : Grow pw H H') (hS : ∀ p, pw = some p → ¬ S p ∧ ∃ xs, H p = some (.lst xs)) (hp : pw ≠ some p) : Own P w K H' S p d := by
  cases h with
  | lst e r => exact .lst (g.keep _ _ e (fun _ z => nomatch z) hp) (r.mono (g.kept hS) fun _ z => z)
  | dct e r => exact .dct (g.keep _ _ e (fun ps => DN_tbl ps) hp) (r.mono (g.kept hS) fun _ z => z)

/-- the state's list holds w -/
def StOk (C : Cn) (w : List Int) (H : Hp) : Prop := ∀ p, C.pw = some p → H p = some (.lst (w.map V.int))

def EvOk (C : Cn) (H : Hp) (S : Addr → Prop) (v : V) : EV → Prop
  | .fz d => Rp C.P C.w C.K H S v d
  | .ow d => ∃ p, v = .ref p ∧ Own C.P C.w C.K H S p d ∧ C.H0 p = none ∧ ¬ S p ∧ C.pw ≠ some p
  | .fn k => ∃ f, v = .ref f ∧ C.fns[k]? = some f
def RvOk (C : Cn) (H H' : Hp) (S : Addr → Prop) (v : V) : RV → Prop
  | .fz d => Rp C.P C.w C.K H' S v d
  | .ow d => ∃ p, v = .ref p ∧ Own C.P C.w C.K H' (fun a => S a ∧ a ≠ p) p d ∧ H p = none
  | .bw d => ∃ p, v = .ref p ∧ Own C.P C.w C.K H' S p d ∧ C.pw ≠ some p ∧ C.H0 p = none ∧ ¬ S p

structure EnvOk (C : Cn) (ρ : DEnv) (w : List Int) (S : Addr → Prop) (σ : L2.St) (H : Hp) : Prop where
  len : σ.length = ρ.length
  val : ∀ (i : Nat) (e : EV), ρ[i]? = some (some e) → ∃ v, σ[i]? = some (some v) ∧ EvOk C H S v e
  apart : ∀ (i j : Nat) (d e : D) (p : Addr), ρ[i]? = some (some (.ow d)) → ρ[j]? = some (some (.ow e)) → σ[i]? = some (some (.ref p)) → σ[j]? = some (some (.ref p)) → i = j
  sN : ∀ a, H a = none → S a
  sB : ∀ a, S a → C.S0 a ∨ C.H0 a = none
  st : StOk C w H
  sW : ∀ p, C.pw = some p → ¬ S p
  gk : ∀ a o, C.H0 a = some o → (∀ ps, o ≠ .tbl ps) → C.pw ≠ some a → (a ∉ C.lk → H a = some o) ∧ (a ∈ C.lk → ∃ ob, H a = some (.frz ob o))
  gn : ∀ a, H a = none → C.H0 a = none
  tb : NdefX.TabsN C.T H
  sl : ∀ p, C.pw = some p → σ[C.pi]? = some (some (.ref p)) ∧ ρ[C.pi]? = some none
  hi : ∀ v d, (v, d) ∈ C.hid → Rp C.P C.w C.K H S v d

section
variable {C : Cn} {ρ : DEnv} {w w' : List Int} {S : Addr → Prop} {σ : L2.St} {H H' H1 : Hp}
theorem EnvOk.pS (E : EnvOk C ρ w S σ H) : ∀ p, C.pw = some p → ¬ S p ∧ ∃ xs, H p = some (.lst xs) := fun p e => ⟨E.sW p e, _, E.st p e⟩
theorem EnvOk.kept (E : EnvOk C ρ w S σ H) (g : Grow C.pw H H') : Kept S H H' := g.kept E.pS
theorem EvOk.grow {v : V} {e : EV} (E : EnvOk C ρ w S σ H) (g : Grow C.pw H H') (h : EvOk C H S v e) : EvOk C H' S v e := by
  cases e with
  | fz d => exact Rp.mono (E.kept g) (fun _ z => z) h
  | ow d =>
    obtain ⟨p, e, o, n, s, q⟩ := h
    exact ⟨p, e, o.grow g E.pS q, n, s, q⟩
  | fn k => exact h
theorem EnvOk.grow (E : EnvOk C ρ w S σ H) (g : Grow C.pw H H') (st : StOk C w' H') (tb : NdefX.TabsN C.T H') : EnvOk C ρ w' S σ H' where
  len := E.len
  val := fun i e h => let ⟨v, a, b⟩ := E.val i e h; ⟨v, a, b.grow E g⟩
  apart := E.apart
  sN := fun a h => E.sN a (g.nn a h)
  sB := E.sB
  st := st
  sW := E.sW
  gk := fun a o h n q => ⟨fun l => g.keep _ _ ((E.gk a o h n q).1 l) n q, fun l => by
    obtain ⟨ob, z⟩ := (E.gk a o h n q).2 l
    exact ⟨ob, g.keep _ _ z (fun _ z => nomatch z) q⟩⟩
  gn := fun a h => E.gn a (g.nn a h)
  tb := tb
  sl := E.sl
  hi := fun v d m => Rp.mono (E.kept g) (fun _ z => z) (E.hi v d m)
/-- a value that was reckoned lies behind further reckoning -/
theorem RvOk.grow {v : V} {r : RV} (E : EnvOk C ρ w S σ H) (E1 : EnvOk C ρ w' S σ H1) (g : Grow C.pw H1 H') (h : RvOk C H H1 S v r) : RvOk C H H' S v r := by
  cases r with
  | fz d => exact Rp.mono (E1.kept g) (fun _ z => z) h
  | ow d =>
    obtain ⟨p, e, o, n⟩ := h
    refine ⟨p, e, o.grow g (fun q e => ⟨fun z => (E1.pS q e).1 z.1, (E1.pS q e).2⟩) (fun q => ?_), n⟩
    have := E.st p q
    rw [n] at this; cases this
  | bw d =>
    obtain ⟨p, e, o, q, n⟩ := h
    exact ⟨p, e, o.grow g E1.pS q, q, n⟩
/-- as a value that stays: not for one that is lent -/
theorem RvOk.rp {v : V} {r : RV} (E : EnvOk C ρ w S σ H) (h : RvOk C H H' S v r) (nb : ∀ d, r ≠ .bw d) : Rp C.P C.w C.K H' S v r.d := by
  cases r with
  | fz d => exact h
  | ow d =>
    obtain ⟨p, e, o, n⟩ := h
    subst e
    exact o.rp (fun _ z => z.1) (E.sN p n)
  | bw d => exact absurd rfl (nb d)
/-- to be read -/
theorem RvOk.rpT {v : V} {r : RV} (h : RvOk C H H' S v r) : Rp C.P C.w C.K H' (fun _ => True) v r.d := by
  cases r with
  | fz d => exact Rp.mono .refl (fun _ _ => trivial) h
  | ow d =>
    obtain ⟨p, e, o, n⟩ := h
    subst e
    exact o.rp (fun _ _ => trivial) trivial
  | bw d =>
    obtain ⟨p, e, o, _⟩ := h
    subst e
    exact o.rp (fun _ _ => trivial) trivial
/-- from an earlier heap -/
theorem RvOk.back {H0 : Hp} {v : V} {r : RV} (g : Grow C.pw H0 H) (h : RvOk C H H' S v r) : RvOk C H0 H' S v r := by
  cases r with
  | fz d => exact h
  | ow d => obtain ⟨p, e, o, n⟩ := h; exact ⟨p, e, o, g.nn p n⟩
  | bw d => exact h
end

/-! ### the judgements -/
/-- how an exception lies -/
def ExOk (C : Cn) (H : Hp) (c : Nat) (d : D) (W : WX) (σ : L2.St) : Prop := ∀ (H' : Hp) (da : Option Addr) (w' : List Int), Grow C.pw H H' → StOk C w' H' → NdefX.TabsN C.T H' → C.pay c da d H' → W (C.cls c) da σ H'
/-- an expression's reading: it reckons f -/
def eT (C : Cn) (W : WX) (f : Ex) : TE := fun σ H Q => ∃ ρ w S, EnvOk C ρ w S σ H ∧ match f ρ w with
  | .ok (r, w') => ∀ v H', Grow C.pw H H' → StOk C w' H' → NdefX.TabsN C.T H' → RvOk C H H' S v r → Q v H'
  | .exc c d => ExOk C H c d W σ
  | .err => False
def tT (C : Cn) (W : WX) (f : Tx) : TT := fun σ H Q => ∃ ρ w S, EnvOk C ρ w S σ H ∧ match f ρ w with
  | .ok (b, w') => ∀ H', Grow C.pw H H' → StOk C w' H' → NdefX.TabsN C.T H' → Q b H'
  | .exc c d => ExOk C H c d W σ
  | .err => False
inductive RvsOk (C : Cn) (H H' : Hp) (S : Addr → Prop) : List V → List RV → Prop
  | nil : RvsOk C H H' S [] []
  | cons {v : V} {r : RV} {vs : List V} {rs : List RV} : RvOk C H H' S v r → RvsOk C H H' S vs rs → RvsOk C H H' S (v :: vs) (r :: rs)
def aT (C : Cn) (W : WX) (f : Ax) : TA := fun σ H Q => ∃ ρ w S, EnvOk C ρ w S σ H ∧ match f ρ w with
  | .ok (rs, w') => ∀ vs H', Grow C.pw H H' → StOk C w' H' → NdefX.TabsN C.T H' → RvsOk C H H' S vs rs → Q vs H'
  | .exc c d => ExOk C H c d W σ
  | .err => False
abbrev DE (X : Cx) (C : Cn) (W : WX) (e : Expr) (f : Ex) : Prop := PE X e (eT C W f)
abbrev DT (X : Cx) (C : Cn) (W : WX) (e : Expr) (f : Tx) : Prop := PT X e (tT C W f)
abbrev DW (X : Cx) (C : Cn) (W : WX) (e : Expr) (f : Tx) : Prop := PW X e (tT C W f)
abbrev DA (X : Cx) (C : Cn) (W : WX) (es : List Expr) (f : Ax) : Prop := PA X es (aT C W f)
theorem pe_imp {X : Cx} {e : Expr} {t t' : TE} (h : PE X e t) (i : ∀ σ H Q, t' σ H Q → t σ H Q) : PE X e t' := ⟨fun pins s σ H Q I q => h.run pins s σ H Q I (i σ H Q q)⟩
theorem pt_imp {X : Cx} {e : Expr} {t t' : TT} (h : PT X e t) (i : ∀ σ H Q, t' σ H Q → t σ H Q) : PT X e t' := ⟨fun pins s σ H Q I q => h.run pins s σ H Q I (i σ H Q q)⟩
theorem pw_imp {X : Cx} {e : Expr} {t t' : TT} (h : PW X e t) (i : ∀ σ H Q, t' σ H Q → t σ H Q) : PW X e t' := ⟨fun wh pins s σ H Q I q => h.run wh pins s σ H Q I (i σ H Q q)⟩
theorem pa_imp {X : Cx} {e : List Expr} {t t' : TA} (h : PA X e t) (i : ∀ σ H Q, t' σ H Q → t σ H Q) : PA X e t' := ⟨fun pos pins s σ H Q I q => h.run pos pins s σ H Q I (i σ H Q q)⟩
theorem ps_imp {X : Cx} {e : Stmt} {t t' : TS} (h : PS X e t) (i : ∀ σ H Q, t' Q σ H → t Q σ H) : PS X e t' := ⟨fun pins s σ H Q I q => h.run pins s σ H Q I (i σ H Q q)⟩
theorem pss_imp {X : Cx} {e : List Stmt} {t t' : TS} (h : PSs X e t) (i : ∀ σ H Q, t' Q σ H → t Q σ H) : PSs X e t' := ⟨fun pins s σ H Q I q => h.run pins s σ H Q I (i σ H Q q)⟩
end DL
namespace DL
open PySem PySem.Spec PyProof.Rows L2

/-! ### endings -/
def Good {α : Type} (C : Cn) (W : WX) (σ : L2.St) (H : Hp) (R : Res α) (P : α → Prop) : Prop := match R with
  | .ok a => P a
  | .exc c d => ExOk C H c d W σ
  | .err => False
theorem Good.imp {α : Type} {C : Cn} {W : WX} {σ : L2.St} {H : Hp} {R : Res α} {P P' : α → Prop} (h : Good C W σ H R P) (i : ∀ a, P a → P' a) : Good C W σ H R P' := by
  cases R with
  | ok a => exact i a h
  | exc c d => exact h
  | err => exact h
theorem Good.bind {α β : Type} {C : Cn} {W : WX} {σ : L2.St} {H : Hp} {R : Res α} {f : α → Res β} {P : β → Prop} (h : Good C W σ H (R.bind f) P) : Good C W σ H R (fun a => Good C W σ H (f a) P) := by
  cases R with
  | ok a => exact h
  | exc c d => exact h
  | err => exact h
/-- how far the heap may go: the state's list holds w' -/
structure Pst (C : Cn) (H H' : Hp) (w' : List Int) : Prop where
  g : Grow C.pw H H'
  st : StOk C w' H'
  tb : NdefX.TabsN C.T H'
theorem EnvOk.go {C : Cn} {ρ : DEnv} {w w' : List Int} {S : Addr → Prop} {σ : L2.St} {H H' : Hp} (E : EnvOk C ρ w S σ H) (p : Pst C H H' w') : EnvOk C ρ w' S σ H' := E.grow p.g p.st p.tb
theorem EnvOk.rf {C : Cn} {ρ : DEnv} {w : List Int} {S : Addr → Prop} {σ : L2.St} {H : Hp} (E : EnvOk C ρ w S σ H) : Pst C H H w := ⟨.refl, E.st, E.tb⟩
theorem ExOk.go {C : Cn} {W : WX} {σ : L2.St} {H H1 : Hp} {w1 : List Int} {c : Nat} {d : D} (p : Pst C H H1 w1) (h : ExOk C H c d W σ) : ExOk C H1 c d W σ := fun H' da w' g st tb q => h H' da w' (p.g.trans g) st tb q
theorem Good.go {α : Type} {C : Cn} {W : WX} {σ : L2.St} {H H1 : Hp} {w1 : List Int} {R : Res α} {P : α → Prop} (p : Pst C H H1 w1) (h : Good C W σ H R P) : Good C W σ H1 R P := by
  cases R with
  | ok a => exact h
  | exc c d => exact ExOk.go p h
  | err => exact h
theorem Pst.trans {C : Cn} {H H1 H2 : Hp} {w1 w2 : List Int} (a : Pst C H H1 w1) (b : Pst C H1 H2 w2) : Pst C H H2 w2 := ⟨a.g.trans b.g, b.st, b.tb⟩
theorem eT_of {C : Cn} {W : WX} {f : Ex} {ρ : DEnv} {w : List Int} {S : Addr → Prop} {σ : L2.St} {H H0 : Hp} {Q : VK} (E : EnvOk C ρ w S σ H) (pg : Pst C H0 H w) (h : Good C W σ H0 (f ρ w) fun p => ∀ v H', Pst C H H' p.2 → RvOk C H H' S v p.1 → Q v H') : eT C W f σ H Q := by
  refine ⟨ρ, w, S, E, ?_⟩
  replace h := Good.go pg h
  revert h
  cases f ρ w with
  | ok p => exact fun h v H' a b c d => h v H' ⟨a, b, c⟩ d
  | exc c d => exact fun h => h
  | err => exact fun h => h
theorem eT_to {C : Cn} {W : WX} {f : Ex} {σ : L2.St} {H : Hp} {Q : VK} (h : eT C W f σ H Q) : ∃ ρ w S, EnvOk C ρ w S σ H ∧ Good C W σ H (f ρ w) fun p => ∀ v H', Pst C H H' p.2 → RvOk C H H' S v p.1 → Q v H' := by
  obtain ⟨ρ, w, S, E, h⟩ := h
  refine ⟨ρ, w, S, E, ?_⟩
  revert h
  cases f ρ w with
  | ok p => exact fun h v H' a d => h v H' a.g a.st a.tb d
  | exc c d => exact fun h => h
  | err => exact fun h => h
theorem tT_of {C : Cn} {W : WX} {f : Tx} {ρ : DEnv} {w : List Int} {S : Addr → Prop} {σ : L2.St} {H H0 : Hp} {Q : Bool → Hp → Prop} (E : EnvOk C ρ w S σ H) (pg : Pst C H0 H w) (h : Good C W σ H0 (f ρ w) fun p => ∀ H', Pst C H H' p.2 → Q p.1 H') : tT C W f σ H Q := by
  refine ⟨ρ, w, S, E, ?_⟩
  replace h := Good.go pg h
  revert h
  cases f ρ w with
  | ok p => exact fun h H' a b c => h H' ⟨a, b, c⟩
  | exc c d => exact fun h => h
  | err => exact fun h => h
theorem tT_to {C : Cn} {W : WX} {f : Tx} {σ : L2.St} {H : Hp} {Q : Bool → Hp → Prop} (h : tT C W f σ H Q) : ∃ ρ w S, EnvOk C ρ w S σ H ∧ Good C W σ H (f ρ w) fun p => ∀ H', Pst C H H' p.2 → Q p.1 H' := by
  obtain ⟨ρ, w, S, E, h⟩ := h
  refine ⟨ρ, w, S, E, ?_⟩
  revert h
  cases f ρ w with
  | ok p => exact fun h H' a => h H' a.g a.st a.tb
  | exc c d => exact fun h => h
  | err => exact fun h => h
theorem aT_of {C : Cn} {W : WX} {f : Ax} {ρ : DEnv} {w : List Int} {S : Addr → Prop} {σ : L2.St} {H H0 : Hp} {Q : List V → Hp → Prop} (E : EnvOk C ρ w S σ H) (pg : Pst C H0 H w) (h : Good C W σ H0 (f ρ w) fun p => ∀ v H', Pst C H H' p.2 → RvsOk C H H' S v p.1 → Q v H') : aT C W f σ H Q := by
  refine ⟨ρ, w, S, E, ?_⟩
  replace h := Good.go pg h
  revert h
  cases f ρ w with
  | ok p => exact fun h v H' a b c d => h v H' ⟨a, b, c⟩ d
  | exc c d => exact fun h => h
  | err => exact fun h => h
theorem aT_to {C : Cn} {W : WX} {f : Ax} {σ : L2.St} {H : Hp} {Q : List V → Hp → Prop} (h : aT C W f σ H Q) : ∃ ρ w S, EnvOk C ρ w S σ H ∧ Good C W σ H (f ρ w) fun p => ∀ v H', Pst C H H' p.2 → RvsOk C H H' S v p.1 → Q v H' := by
  obtain ⟨ρ, w, S, E, h⟩ := h
  refine ⟨ρ, w, S, E, ?_⟩
  revert h
  cases f ρ w with
  | ok p => exact fun h v H' a d => h v H' a.g a.st a.tb d
  | exc c d => exact fun h => h
  | err => exact fun h => h

/-! ### what a rule of the library makes: nothing that stands is changed -/
structure Ext (H H' : Hp) : Prop where
  keep : ∀ a o, H a = some o → H' a = some o
  nn : ∀ a, H' a = none → H a = none
theorem Ext.refl {H : Hp} : Ext H H := ⟨fun _ _ h => h, fun _ h => h⟩
theorem Ext.new {H : Hp} {p : Addr} {o : HO} (hp : H p = none) : Ext H (upd H p o) :=
  ⟨fun a u h => by rw [upd_ne (ne_of_none h hp)]; exact h, fun a h => by
    by_cases e : a = p
    · rw [e]; exact hp
    · rw [upd_ne e] at h; exact h⟩
theorem Ext.kept {H H' : Hp} {S : Addr → Prop} (e : Ext H H') : Kept S H H' := by
  have rd : ∀ a u, Rd H a u → Rd H' a u := fun a u h => h.elim (fun h => .inl (e.keep _ _ h)) fun ⟨o, h⟩ => .inr ⟨o, e.keep _ _ h⟩
  exact ⟨fun a vs h => rd _ _ h, fun a vs _ h => rd _ _ h, fun P w a xs _ h => rd _ _ h⟩
theorem Ext.pst {C : Cn} {ρ : DEnv} {w : List Int} {S : Addr → Prop} {σ : L2.St} {H H' : Hp} (e : Ext H H') (E : EnvOk C ρ w S σ H) : Pst C H H' w :=
  ⟨⟨fun a o h _ _ => e.keep a o h, e.nn⟩, fun p h => e.keep _ _ (E.st p h), E.tb.ext e.keep⟩

/-- a value to be read: its top may be lent -/
def Lt (C : Cn) (H : Hp) (S : Addr → Prop) (v : V) (d : D) : Prop := Rp C.P C.w C.K H S v d ∨ ∃ p, v = .ref p ∧ Own C.P C.w C.K H S p d
theorem RvOk.lt {C : Cn} {ρ : DEnv} {w : List Int} {S : Addr → Prop} {σ : L2.St} {H H' : Hp} {v : V} {r : RV} (h : RvOk C H H' S v r) : Lt C H' S v r.d := by
  cases r with
  | fz d => exact .inl h
  | ow d => obtain ⟨p, e, o, _⟩ := h; exact .inr ⟨p, e, o.mono fun _ z => z.1⟩
  | bw d => obtain ⟨p, e, o, _⟩ := h; exact .inr ⟨p, e, o⟩
theorem Lt.rpT {C : Cn} {H : Hp} {S : Addr → Prop} {v : V} {d : D} (h : Lt C H S v d) : Rp C.P C.w C.K H (fun _ => True) v d := by
  rcases h with h | ⟨p, e, o⟩
  · exact h.mono .refl fun _ _ => trivial
  · subst e; exact o.rp (fun _ _ => trivial) trivial
theorem Lt.list {C : Cn} {H : Hp} {S : Addr → Prop} {v : V} {ds : List D} (h : Lt C H S v (.list ds)) : ∃ a vs, v = .ref a ∧ Rd H a (.lst vs) ∧ Rps C.P C.w C.K H S vs ds := by
  rcases h with h | ⟨p, e, o⟩
  · cases h with
    | lst s r q => exact ⟨_, _, rfl, r, q⟩
  · cases o with
    | lst r q => exact ⟨_, _, e, .inl r, q⟩
theorem Lt.dict {C : Cn} {H : Hp} {S : Addr → Prop} {v : V} {ds : List (D × D)} (h : Lt C H S v (.dict ds)) : ∃ a vs, v = .ref a ∧ Rd H a (DN C.P C.w a vs) ∧ Rpk C.P C.w C.K H S vs ds := by
  rcases h with h | ⟨p, e, o⟩
  · cases h with
    | dct s r q => exact ⟨_, _, rfl, r, q⟩
  · cases o with
    | dct r q => exact ⟨_, _, e, .inl r, q⟩
theorem Lt.tuple {C : Cn} {H : Hp} {S : Addr → Prop} {v : V} {ds : List D} (h : Lt C H S v (.tuple ds)) : ∃ a vs, v = .ref a ∧ SqT C.K H a vs ∧ Rps C.P C.w C.K H S vs ds := by
  rcases h with h | ⟨p, e, o⟩
  · cases h with
    | tup s r => exact ⟨_, _, rfl, s, r⟩
  · cases o
theorem Lt.int {C : Cn} {H : Hp} {S : Addr → Prop} {v : V} {i : Int} (h : Lt C H S v (.int i)) : v = .int i := by
  rcases h with h | ⟨p, e, o⟩
  · cases h; rfl
  · cases o
theorem Lt.bool {C : Cn} {H : Hp} {S : Addr → Prop} {v : V} {i : Bool} (h : Lt C H S v (.bool i)) : v = .bl i := by
  rcases h with h | ⟨p, e, o⟩
  · cases h; rfl
  · cases o
theorem Lt.str {C : Cn} {H : Hp} {S : Addr → Prop} {v : V} {i : Str} (h : Lt C H S v (.str i)) : v = .str i := by
  rcases h with h | ⟨p, e, o⟩
  · cases h; rfl
  · cases o
theorem Lt.none {C : Cn} {H : Hp} {S : Addr → Prop} {v : V} (h : Lt C H S v .none) : v = .non := by
  rcases h with h | ⟨p, e, o⟩
  · cases h; rfl
  · cases o

/-- what an operation's rule gives: F of the data -/
def opQ (C : Cn) (S : Addr → Prop) (o : Option RV) (H : Hp) (Q : VK) : Prop := match o with
  | some r => ∀ v H', Ext H H' → RvOk C H H' S v r → Q v H'
  | none => False
def op1 (C : Cn) (F : D → Option RV) : V → Hp → VK → Prop := fun x H Q => ∃ (S : Addr → Prop) (d : D), (∀ a, H a = none → S a) ∧ Lt C H S x d ∧ opQ C S (F d) H Q
def op2 (C : Cn) (F : D → D → Option RV) : R2 := fun x y H Q => ∃ (S : Addr → Prop) (d e : D), (∀ a, H a = none → S a) ∧ Lt C H S x d ∧ Lt C H S y e ∧ opQ C S (F d e) H Q
inductive Lts (C : Cn) (H : Hp) (S : Addr → Prop) : List V → List D → Prop
  | nil : Lts C H S [] []
  | cons {v : V} {d : D} {vs : List V} {ds : List D} : Lt C H S v d → Lts C H S vs ds → Lts C H S (v :: vs) (d :: ds)
def opN (C : Cn) (F : List D → Option RV) : List V → Hp → VK → Prop := fun xs H Q => ∃ (S : Addr → Prop) (ds : List D), (∀ a, H a = none → S a) ∧ Lts C H S xs ds ∧ opQ C S (F ds) H Q
theorem RvsOk.lts {C : Cn} {ρ : DEnv} {w : List Int} {S : Addr → Prop} {σ : L2.St} {H H' : Hp} : ∀ {vs : List V} {rs : List RV}, RvsOk C H H' S vs rs → Lts C H' S vs (rs.map RV.d)
  | _, _, .nil => .nil
  | _, _, .cons h r => .cons (RvOk.lt (ρ := ρ) (w := w) (σ := σ) h) (RvsOk.lts (ρ := ρ) (w := w) (σ := σ) r)

/-! ### names, constants -/
def eVar (i : Nat) : Ex := fun ρ w => match ρ[i]? with
  | some (some (.fz d)) => .ok (.fz d, w)
  | some (some (.ow d)) => .ok (.bw d, w)
  | _ => .err
def eC (d : D) : Ex := fun _ w => .ok (.fz d, w)
section
variable {X : Cx} {C : Cn} {W : WX}
theorem de_var {i : Nat} {x : Str} {pos : Pos} (hN : X.N[i]? = some x) (hv : Vis X.env.scope x) (hd : (x == ("__debug__" : Str)) = false := by decide) (hcd : (x == ("__classdict__" : Str)) = false := by decide) : DE X C W (.Name x pos) (eVar i) := by
  refine pe_imp (pe_var hN hv hd hcd) fun σ H Q h => ?_
  obtain ⟨ρ, w, S, E, h⟩ := eT_to h
  unfold eVar at h
  cases e : ρ[i]? with
  | none => rw [e] at h; exact False.elim h
  | some o =>
    rw [e] at h
    cases o with
    | none => exact False.elim h
    | some ev =>
      obtain ⟨v, hσ, hv⟩ := E.val i ev e
      refine ⟨v, hσ, ?_⟩
      cases ev with
      | fz d => exact h v H E.rf hv
      | ow d =>
        obtain ⟨p, e1, o, n, s, q⟩ := hv
        exact h v H E.rf ⟨p, e1, o, q, n, s⟩
      | fn k => exact False.elim h
theorem de_const {v : V} {d : D} {e : Expr} (h : PE X e (tC v)) (r : ∀ P w K H S, Rp P w K H S v d) : DE X C W e (eC d) := pe_imp h fun σ H Q h => by
  obtain ⟨ρ, w, S, E, h⟩ := eT_to h
  exact h v H E.rf (r _ _ _ _ _)
theorem de_int {i j pos} : DE X C W (.Constant (.int i) j pos) (eC (.int i)) := de_const pe_int fun _ _ _ _ _ => .int _
theorem de_bl {b j pos} : DE X C W (.Constant (.bool b) j pos) (eC (.bool b)) := de_const pe_bl fun _ _ _ _ _ => .bl _
theorem de_non {j pos} : DE X C W (.Constant .none j pos) (eC .none) := de_const pe_non fun _ _ _ _ _ => .non
theorem de_str {x j pos} : DE X C W (.Constant (.str x) j pos) (eC (.str x)) := de_const pe_str fun _ _ _ _ _ => .str _
/-- a module's constant that is a number -/
theorem de_globI {x : Str} {i : Int} {t : Tok} {pos : Pos} (hg : Gl X x) (hm : X.mg x = some (.int i t)) (hd : (x == ("__debug__" : Str)) = false := by decide) : DE X C W (.Name x pos) (eC (.int i)) :=
  de_const (v := .int i) (pe_glob hg hm ⟨_, rfl⟩ hd) fun _ _ _ _ _ => .int _
theorem de_globS {x : Str} {i : Str} {t : Tok} {pos : Pos} (hg : Gl X x) (hm : X.mg x = some (.str i t)) (hd : (x == ("__debug__" : Str)) = false := by decide) : DE X C W (.Name x pos) (eC (.str i)) :=
  de_const (v := .str i) (pe_glob hg hm ⟨_, rfl⟩ hd) fun _ _ _ _ _ => .str _

/-! ### operations -/
def lift (o : Option RV) (w : List Int) : Res (RV × List Int) := match o with
  | some r => .ok (r, w)
  | none => .err
def eOp (F : D → D → Option RV) (f g : Ex) : Ex := fun ρ w => (f ρ w).bind fun p => (g ρ p.2).bind fun q => lift (F p.1.d q.1.d) q.2
def eUn (F : D → Option RV) (f : Ex) : Ex := fun ρ w => (f ρ w).bind fun p => lift (F p.1.d) p.2
def eCall (F : List D → Option RV) (f : Ax) : Ex := fun ρ w => (f ρ w).bind fun p => lift (F (p.1.map RV.d)) p.2
variable {a b c : Expr} {f g h : Ex} {pos : Pos}
theorem opQ_of {ρ : DEnv} {w : List Int} {S : Addr → Prop} {σ : L2.St} {H H0 : Hp} {o : Option RV} {Q : VK} (E : EnvOk C ρ w S σ H) (g : Grow C.pw H0 H) {H3 : Hp} (h : Good C W σ H3 (lift o w) fun p => ∀ v H', Pst C H H' p.2 → RvOk C H0 H' S v p.1 → Q v H') : opQ C S o H Q := by
  cases o with
  | none => exact h
  | some r => exact fun v H' e rv => h v H' (e.pst E) (rv.back g)
theorem go_op2 {F : D → D → Option RV} {r : R2} (hr : ∀ x y H Q, op2 C F x y H Q → r x y H Q) : ∀ (σ : L2.St) (H : Hp) (Q : VK), eT C W (eOp F f g) σ H Q → tOp r (eT C W f) (eT C W g) σ H Q := by
  intro σ H Q hq
  obtain ⟨ρ, w, S, E, hq⟩ := eT_to hq
  unfold eOp at hq
  refine eT_of E E.rf (hq.bind.imp fun p hp v H1 p1 r1 => ?_)
  have E1 := E.go p1
  refine eT_of E1 p1 (hp.bind.imp fun q hq u H2 p2 r2 => ?_)
  have E2 := E1.go p2
  refine hr _ _ _ _ ⟨S, _, _, E2.sN, (RvOk.grow E E1 p2.g r1).lt (ρ := ρ) (w := w) (σ := σ), r2.lt (ρ := ρ) (w := w) (σ := σ), ?_⟩
  refine opQ_of E2 (p1.g.trans p2.g) (hq.imp fun z hz v' H' p3 r3 => hz v' H' ((p1.trans p2).trans p3) r3)
theorem de_op {op : Operator} {F : D → D → Option RV} (ho : OpR X (binaryOp op) (op2 C F)) (ha : DE X C W a f) (hb : DE X C W b g) : DE X C W (.BinOp a op b pos) (eOp F f g) :=
  pe_imp (pe_op ho ha hb) (go_op2 fun _ _ _ _ h => h)
theorem de_cmp {op : CmpOp} {F : D → D → Option RV} (ho : OpR X (compareOp op) (op2 C F)) (ha : DE X C W a f) (hb : DE X C W b g) (hm : behindInMarks op b = false := by rfl) : DE X C W (.Compare a [op] [b] pos) (eOp F f g) :=
  pe_imp (pe_cmpR ho ha hb hm) (go_op2 fun _ _ _ _ h => h)
theorem de_ix {F : D → D → Option RV} (hr : IxR X (op2 C F)) (ha : DE X C W a f) (hb : DE X C W b g) (hs : PlainIx b := by exact fun _ _ => rfl) : DE X C W (.Subscript a b pos) (eOp F f g) :=
  pe_imp (pe_ix hr ha hb hs) (go_op2 fun _ _ _ _ h => h)
theorem de_un {op : UnaryOp} {F : D → Option RV} (ho : UnR X (unaryOp op) (op1 C F)) (ha : DE X C W a f) : DE X C W (.UnaryOp op a pos) (eUn F f) := by
  refine pe_imp (pe_un ho ha) fun σ H Q hq => ?_
  obtain ⟨ρ, w, S, E, hq⟩ := eT_to hq
  unfold eUn at hq
  refine eT_of E E.rf (hq.bind.imp fun p hp v H1 p1 r1 => ?_)
  have E1 := E.go p1
  exact ⟨S, _, E1.sN, r1.lt (ρ := ρ) (w := w) (σ := σ), opQ_of E1 p1.g (hp.imp fun z hz v' H' p3 r3 => hz v' H' (p1.trans p3) r3)⟩

/-! ### tests -/
/-- an expression that gives True or False -/
def asB (f : Ex) : Tx := fun ρ w => (f ρ w).bind fun p => match p.1.d with
  | .bool b => .ok (b, p.2)
  | _ => .err
def ofB (f : Tx) : Ex := fun ρ w => (f ρ w).bind fun p => .ok (.fz (.bool p.1), p.2)
theorem go_asB : ∀ (σ : L2.St) (H : Hp) (Q : Bool → Hp → Prop), tT C W (asB f) σ H Q → eT C W f σ H fun x H' => ∃ k, x = .bl k ∧ Q k H' := by
  intro σ H Q hq
  obtain ⟨ρ, w, S, E, hq⟩ := tT_to hq
  unfold asB at hq
  refine eT_of E E.rf (hq.bind.imp fun p hp v H1 p1 r1 => ?_)
  revert hp
  cases e : p.1.d with
  | bool b =>
    intro hp
    have l := r1.lt (ρ := ρ) (w := w) (σ := σ)
    rw [e] at l
    exact ⟨b, l.bool, hp H1 p1⟩
  | _ => exact fun hp => False.elim hp
theorem dt_val (ha : DE X C W a f) (he : ∀ whole, isTrue a X.env whole = (do let v ← whole; standAt a.pos; holding [v] (truthy v)) := by intro _; rfl) : DT X C W a (asB f) :=
  pt_imp (pt_val ha he) go_asB
theorem dt_cmp {op : CmpOp} {F : D → D → Option RV} (ho : OpR X (compareOp op) (op2 C F)) (ha : DE X C W a f) (hb : DE X C W b g) (hm : behindInMarks op b = false := by rfl) : DT X C W (.Compare a [op] [b] pos) (asB (eOp F f g)) :=
  pt_imp (pt_cmpR ho ha hb hm) fun σ H Q hq => by
    have z := go_asB σ H Q hq
    obtain ⟨ρ, w, S, E, hq⟩ := eT_to z
    refine go_op2 (W := W) (fun _ _ _ _ h => h) σ H _ (eT_of E E.rf (hq.imp fun p hp v H1 p1 r1 => hp v H1 p1 r1))
def tAnd' (f g : Tx) : Tx := fun ρ w => (f ρ w).bind fun p => if p.1 then g ρ p.2 else .ok (false, p.2)
def tOr' (f g : Tx) : Tx := fun ρ w => (f ρ w).bind fun p => if p.1 then .ok (true, p.2) else g ρ p.2
def tNot' (f : Tx) : Tx := fun ρ w => (f ρ w).bind fun p => .ok (!p.1, p.2)
variable {tf tg : Tx} {rest : List Expr}
theorem dw_and1 (ha : DT X C W a tf) : DW X C W (.BoolOp .And [a] pos) tf := pw_and1 ha
theorem dw_or1 (ha : DT X C W a tf) : DW X C W (.BoolOp .Or [a] pos) tf := pw_or1 ha
theorem dw_and (ha : DT X C W a tf) (hb : DW X C W (.BoolOp .And (b :: rest) pos) tg) : DW X C W (.BoolOp .And (a :: b :: rest) pos) (tAnd' tf tg) := by
  refine pw_imp (pw_and ha hb) fun σ H Q hq => ?_
  obtain ⟨ρ, w, S, E, hq⟩ := tT_to hq
  unfold tAnd' at hq
  refine tT_of E E.rf (hq.bind.imp fun p hp H1 p1 => ?_)
  obtain ⟨k, w1⟩ := p
  cases k with
  | true => exact tT_of (E.go p1) p1 (Good.imp (R := tg ρ w1) hp fun q hq H2 p2 => hq H2 (p1.trans p2))
  | false => exact hp H1 p1
theorem dw_or (ha : DT X C W a tf) (hb : DW X C W (.BoolOp .Or (b :: rest) pos) tg) : DW X C W (.BoolOp .Or (a :: b :: rest) pos) (tOr' tf tg) := by
  refine pw_imp (pw_or ha hb) fun σ H Q hq => ?_
  obtain ⟨ρ, w, S, E, hq⟩ := tT_to hq
  unfold tOr' at hq
  refine tT_of E E.rf (hq.bind.imp fun p hp H1 p1 => ?_)
  obtain ⟨k, w1⟩ := p
  cases k with
  | true => exact hp H1 p1
  | false => exact tT_of (E.go p1) p1 (Good.imp (R := tg ρ w1) hp fun q hq H2 p2 => hq H2 (p1.trans p2))
theorem dt_w (h : DW X C W a tf) : DT X C W a tf := h.pt
theorem dt_not (ha : DT X C W a tf) : DT X C W (.UnaryOp .Not a pos) (tNot' tf) := by
  refine pt_imp (pt_not ha) fun σ H Q hq => ?_
  obtain ⟨ρ, w, S, E, hq⟩ := tT_to hq
  unfold tNot' at hq
  exact tT_of E E.rf (hq.bind.imp fun p hp H1 p1 => hp H1 p1)
/-- as values -/
def eAnd (f g : Ex) : Ex := fun ρ w => (asB f ρ w).bind fun p => if p.1 then g ρ p.2 else .ok (.fz (.bool false), p.2)
def eOr (f g : Ex) : Ex := fun ρ w => (asB f ρ w).bind fun p => if p.1 then .ok (.fz (.bool true), p.2) else g ρ p.2
def eNot (f : Ex) : Ex := fun ρ w => (asB f ρ w).bind fun p => .ok (.fz (.bool (!p.1)), p.2)
theorem de_one {op} (ha : DE X C W a f) : DE X C W (.BoolOp op [a] pos) f := pe_one ha
theorem de_and (ha : DE X C W a f) (hb : DE X C W (.BoolOp .And (b :: rest) pos) g) : DE X C W (.BoolOp .And (a :: b :: rest) pos) (eAnd f g) := by
  refine pe_imp (pe_and ha hb) fun σ H Q hq => ?_
  obtain ⟨ρ, w, S, E, hq⟩ := eT_to hq
  unfold eAnd at hq
  refine go_asB σ H (fun k H1 => if k = true then eT C W g σ H1 Q else Q (.bl false) H1) (tT_of E E.rf (hq.bind.imp fun p hp H1 p1 => ?_))
  obtain ⟨k, w1⟩ := p
  cases k with
  | true => exact eT_of (E.go p1) p1 (Good.imp (R := g ρ w1) hp fun q hq v H2 p2 r2 => hq v H2 (p1.trans p2) (r2.back p1.g))
  | false => exact hp _ _ p1 (.bl _)
theorem de_or (ha : DE X C W a f) (hb : DE X C W (.BoolOp .Or (b :: rest) pos) g) : DE X C W (.BoolOp .Or (a :: b :: rest) pos) (eOr f g) := by
  refine pe_imp (pe_or ha hb) fun σ H Q hq => ?_
  obtain ⟨ρ, w, S, E, hq⟩ := eT_to hq
  unfold eOr at hq
  refine go_asB σ H (fun k H1 => if k = true then Q (.bl true) H1 else eT C W g σ H1 Q) (tT_of E E.rf (hq.bind.imp fun p hp H1 p1 => ?_))
  obtain ⟨k, w1⟩ := p
  cases k with
  | true => exact hp _ _ p1 (.bl _)
  | false => exact eT_of (E.go p1) p1 (Good.imp (R := g ρ w1) hp fun q hq v H2 p2 r2 => hq v H2 (p1.trans p2) (r2.back p1.g))
theorem de_not (ha : DE X C W a f) : DE X C W (.UnaryOp .Not a pos) (eNot f) := by
  refine pe_imp (pe_not ha) fun σ H Q hq => ?_
  obtain ⟨ρ, w, S, E, hq⟩ := eT_to hq
  unfold eNot at hq
  exact go_asB σ H (fun k H1 => Q (.bl (!k)) H1) (tT_of E E.rf (hq.bind.imp fun p hp H1 p1 => hp _ _ p1 (.bl _)))
def eIf (t : Tx) (f g : Ex) : Ex := fun ρ w => (t ρ w).bind fun p => if p.1 then f ρ p.2 else g ρ p.2
theorem de_if (hc : DT X C W c tf) (ha : DE X C W a f) (hb : DE X C W b g) : DE X C W (.IfExp c a b pos) (eIf tf f g) := by
  refine pe_imp (pe_ifExp hc ha hb) fun σ H Q hq => ?_
  obtain ⟨ρ, w, S, E, hq⟩ := eT_to hq
  unfold eIf at hq
  refine tT_of E E.rf (hq.bind.imp fun p hp H1 p1 => ?_)
  obtain ⟨k, w1⟩ := p
  cases k with
  | true => exact eT_of (E.go p1) p1 (Good.imp (R := f ρ w1) hp fun q hq v H2 p2 r2 => hq v H2 (p1.trans p2) (r2.back p1.g))
  | false => exact eT_of (E.go p1) p1 (Good.imp (R := g ρ w1) hp fun q hq v H2 p2 r2 => hq v H2 (p1.trans p2) (r2.back p1.g))
/-- a op b op' c -/
def eChain (F G : D → D → Option RV) (f g h : Ex) : Ex := fun ρ w => (f ρ w).bind fun p => (g ρ p.2).bind fun q => (lift (F p.1.d q.1.d) q.2).bind fun z => match z.1.d with
  | .bool true => (h ρ z.2).bind fun r => lift (G q.1.d r.1.d) r.2
  | .bool false => .ok (.fz (.bool false), z.2)
  | _ => .err

/-! ### arguments, displays -/
def aNil : Ax := fun _ w => .ok ([], w)
def aCons (f : Ex) (g : Ax) : Ax := fun ρ w => (f ρ w).bind fun p => (g ρ p.2).bind fun q => .ok (p.1 :: q.1, q.2)
variable {es : List Expr} {af : Ax}
theorem da_nil : DA X C W [] aNil := pa_imp pa_nil fun σ H Q hq => by
  obtain ⟨ρ, w, S, E, hq⟩ := aT_to hq
  exact hq [] H E.rf .nil
theorem da_cons (ha : DE X C W a f) (hr : DA X C W es af) (hs : starEach (a :: es) X.env = (false, eval a X.env) :: starEach es X.env := by rfl) : DA X C W (a :: es) (aCons f af) := by
  refine pa_imp (pa_cons ha hr hs) fun σ H Q hq => ?_
  obtain ⟨ρ, w, S, E, hq⟩ := aT_to hq
  unfold aCons at hq
  refine eT_of E E.rf (hq.bind.imp fun p hp v H1 p1 r1 => ?_)
  refine aT_of (E.go p1) p1 (hp.bind.imp fun q hq vs H2 p2 r2 => hq _ _ (p1.trans p2) (.cons (RvOk.grow E (E.go p1) p2.g r1) ?_))
  clear hq hp
  have back : ∀ {vs : List V} {rs : List RV}, RvsOk C H1 H2 S vs rs → RvsOk C H H2 S vs rs := by
    intro vs rs r
    induction r with
    | nil => exact .nil
    | cons h _ ih => exact .cons (h.back p1.g) ih
  exact back r2
/-- none of them lent -/
def noBw : List RV → Bool
  | [] => true
  | .bw _ :: _ => false
  | _ :: rs => noBw rs
theorem RvsOk.rps {ρ : DEnv} {w : List Int} {S : Addr → Prop} {σ : L2.St} {H H' : Hp} (E : EnvOk C ρ w S σ H) : ∀ {vs : List V} {rs : List RV}, RvsOk C H H' S vs rs → noBw rs = true → Rps C.P C.w C.K H' S vs (rs.map RV.d)
  | _, _, .nil, _ => .nil
  | _, _, .cons (r := .fz d) h r, e => .cons h (RvsOk.rps E r e)
  | _, _, .cons (r := .ow d) h r, e => .cons (h.rp E fun _ z => nomatch z) (RvsOk.rps E r e)
  | _, _, .cons (r := .bw d) h r, e => by cases e
theorem RvsOk.length {S : Addr → Prop} {H H' : Hp} : ∀ {vs : List V} {rs : List RV}, RvsOk C H H' S vs rs → vs.length = rs.length
  | _, _, .nil => rfl
  | _, _, .cons _ r => by rw [List.length_cons, List.length_cons, RvsOk.length r]
def eTup (f : Ax) : Ex := fun ρ w => (f ρ w).bind fun p => if noBw p.1 && decide (p.1.length ≤ sizeLine) then .ok (.fz (.tuple (p.1.map RV.d)), p.2) else .err
def eLst (f : Ax) : Ex := fun ρ w => (f ρ w).bind fun p => if noBw p.1 && decide (p.1.length ≤ sizeLine) then .ok (.ow (.list (p.1.map RV.d)), p.2) else .err
theorem de_tup {x1} (ha : DA X C W es af) : DE X C W (.Tuple es x1 pos) (eTup af) := by
  refine pe_imp (pe_tup ha) fun σ H Q hq => ?_
  obtain ⟨ρ, w, S, E, hq⟩ := eT_to hq
  unfold eTup at hq
  refine aT_of E E.rf (hq.bind.imp fun p hp vs H1 p1 r1 => ?_)
  split at hp
  · rename_i hc
    have hc := Bool.and_eq_true_iff.mp hc
    have hz : vs.length ≤ sizeLine := by rw [r1.length]; exact of_decide_eq_true hc.2
    have E1 := E.go p1
    refine ⟨hz, fun q hn => hp _ _ (p1.trans ((Ext.new hn).pst E1)) ?_⟩
    exact .tup (.inl (.inl upd_same)) (Rps.mono (Ext.new hn).kept (fun _ z => z) (r1.rps E hc.1))
  · exact False.elim hp
theorem de_lst (ha : DA X C W es af) : DE X C W (.List es pos) (eLst af) := by
  refine pe_imp (pe_lst ha) fun σ H Q hq => ?_
  obtain ⟨ρ, w, S, E, hq⟩ := eT_to hq
  unfold eLst at hq
  refine aT_of E E.rf (hq.bind.imp fun p hp vs H1 p1 r1 => ?_)
  split at hp
  · rename_i hc
    have hc := Bool.and_eq_true_iff.mp hc
    have hz : vs.length ≤ sizeLine := by rw [r1.length]; exact of_decide_eq_true hc.2
    have E1 := E.go p1
    refine ⟨hz, fun q hn => hp _ _ (p1.trans ((Ext.new hn).pst E1)) ?_⟩
    exact ⟨q, rfl, .lst upd_same (Rps.mono (Ext.new hn).kept (fun _ z => z) ((r1.rps E hc.1).avoid hn)), p1.g.nn _ hn⟩
  · exact False.elim hp
/-- a call of a built-in by its name -/
theorem de_callB {x : Str} {id : String} {F : List D → Option RV} {p : Pos} (hc : CallR X (.builtin id) (opN C F)) (hg : Gl X x) (hm : X.mg x = none) (hv : bootBuiltins x = some (.builtin id)) (ha : DA X C W (a :: es) af) (hn : x ≠ "__name__" := by decide) (hdb : (x == ("__debug__" : Str)) = false := by decide)
    (he : starEach (a :: es) X.env = (false, eval a X.env) :: starEach es X.env := by rfl) (hpl : (backTo pos (starEach es X.env)).any (·.1) = false := by rfl) : DE X C W (.Call (.Name x p) (a :: es) [] pos) (eCall F af) := by
  refine pe_imp (pe_callB hc hg hm hv ha hn hdb he hpl) fun σ H Q hq => ?_
  obtain ⟨ρ, w, S, E, hq⟩ := eT_to hq
  unfold eCall at hq
  refine aT_of E E.rf (hq.bind.imp fun p hp vs H1 p1 r1 => ?_)
  exact ⟨S, _, (E.go p1).sN, r1.lts (ρ := ρ) (w := w) (σ := σ), opQ_of (E.go p1) p1.g (hp.imp fun z hz v' H' p3 r3 => hz v' H' (p1.trans p3) r3)⟩
theorem de_callTy {x : Str} {T : String} {F : List D → Option RV} {p : Pos} (hc : CallR X (.type T) (opN C F)) (hg : Gl X x) (hm : X.mg x = none) (hv : bootBuiltins x = some (.type T)) (ha : DA X C W (a :: es) af) (hn : x ≠ "__name__" := by decide) (hdb : (x == ("__debug__" : Str)) = false := by decide)
    (he : starEach (a :: es) X.env = (false, eval a X.env) :: starEach es X.env := by rfl) (hpl : (backTo pos (starEach es X.env)).any (·.1) = false := by rfl) : DE X C W (.Call (.Name x p) (a :: es) [] pos) (eCall F af) := by
  refine pe_imp (pe_callTy hc hg hm hv ha hn hdb he hpl) fun σ H Q hq => ?_
  obtain ⟨ρ, w, S, E, hq⟩ := eT_to hq
  unfold eCall at hq
  refine aT_of E E.rf (hq.bind.imp fun p hp vs H1 p1 r1 => ?_)
  exact ⟨S, _, (E.go p1).sN, r1.lts (ρ := ρ) (w := w) (σ := σ), opQ_of (E.go p1) p1.g (hp.imp fun z hz v' H' p3 r3 => hz v' H' (p1.trans p3) r3)⟩
end
end DL
namespace DL
open PySem PySem.Spec PyProof.Rows L2

/-- the context's own program, world and written part -/
structure Tie (X : Cx) (C : Cn) : Prop where
  P : C.P = X.prog
  w : C.w = X.w
  K : C.K = X.K
  calm : X.calm = true
  room : X.A.units + 70 < cLine
  gd : X.A.guards = some []

section
variable {X : Cx} {C : Cn} {pins : List (Addr × Obj)} {σ : L2.St} {H : Hp} {s : Shared} {S : Addr → Prop}
theorem Lt.reads (t : Tie X C) (I : Inv X pins σ H s) {v : V} {d : D} {u : Value} (h : Lt C H S v d) (f : flatD d = true) (r : RelV v u) : ∃ as, Reads s.heap u d as := by
  have q := h.rpT.dp f
  rw [t.K] at q
  exact Dp.reads I d v u q r
/-- data that == may compare -/
def cmpD (d : D) : Bool := flatD d && SeqAt.shaped d
def bz (n : Nat) : Bool := decide (n ≤ sizeLine)
theorem opQ_val {o : Option RV} {Q : VK} {v : V} {d : D} (h : opQ C S o H Q) (e : o = some (.fz d)) (r : ∀ P w K H S, Rp P w K H S v d) : Q v H := by
  subst e; exact h v H .refl (r _ _ _ _ _)
theorem opQ_lst {o : Option RV} {Q : VK} {vs : List V} {ds : List D} (h : opQ C S o H Q) (e : o = some (.ow (.list ds))) (r : Rps C.P C.w C.K H S vs ds) : ∀ p, H p = none → Q (.ref p) (upd H p (.lst vs)) := by
  subst e
  exact fun p hn => h (.ref p) _ (.new hn) ⟨p, rfl, .lst upd_same ((r.avoid hn).mono (Ext.new hn).kept fun _ z => z), hn⟩
theorem opQ_tup {o : Option RV} {Q : VK} {vs : List V} {ds : List D} (h : opQ C S o H Q) (e : o = some (.fz (.tuple ds))) (r : Rps C.P C.w C.K H S vs ds) : ∀ p, H p = none → Q (.ref p) (upd H p (.tup vs)) := by
  subst e
  exact fun p hn => h (.ref p) _ (.new hn) (.tup (.inl (.inl upd_same)) (r.mono (Ext.new hn).kept fun _ z => z))
end

/-! ### arithmetic -/
def fI2 (c : Int → Int → Bool) (g : Int → Int → Int) : D → D → Option RV
  | .int i, .int j => if c i j then some (.fz (.int (g i j))) else none
  | _, _ => none
def smallB (i : Int) : Bool := decide (-(2 ^ 64) < i) && decide (i < 2 ^ 64)
def fSub : D → D → Option RV := fI2 (fun _ _ => true) fun i j => i - j
def fMod : D → D → Option RV := fI2 (fun _ j => decide (j ≠ 0)) Int.fmod
def fDiv : D → D → Option RV := fI2 (fun _ j => decide (j ≠ 0) && decide (j.natAbs < 1073741824)) Int.fdiv
def fPow : D → D → Option RV := fI2 (fun i j => decide (0 ≤ j) && decide (j ≤ 1000000) && decide (i.natAbs < 2 ^ 64)) fun i j => i ^ j.toNat
def fAdd : D → D → Option RV
  | .int i, .int j => some (.fz (.int (i + j)))
  | .str x, .str y => if bz (x.length + y.length) then some (.fz (.str (x ++ y))) else none
  | .list xs, .list ys => if bz (xs.length + ys.length) then some (.ow (.list (xs ++ ys))) else none
  | .tuple xs, .tuple ys => if bz (xs.length + ys.length) then some (.fz (.tuple (xs ++ ys))) else none
  | _, _ => none
/-- so many times in a row -/
def rept (k : Int) (xs : List D) : List D := (List.replicate k.toNat xs).flatten
def fMul : D → D → Option RV
  | .int i, .int j => if smallB i || smallB j then some (.fz (.int (i * j))) else none
  | .tuple xs, .int k => if decide (xs ≠ []) && decide (2 ≤ k) && decide (k ≤ 1000) && decide (xs.length ≤ 1000) then some (.fz (.tuple (rept k xs))) else none
  | _, _ => none
section
variable {X : Cx} {C : Cn}
theorem opI2 {f : Value → Value → Sem Value} {P : Int → Int → Prop} {c : Int → Int → Bool} {g : Int → Int → Int} (h : OpR X f (rI P fun i j => .int (g i j))) (hc : ∀ i j, c i j = true → P i j) : OpR X f (op2 C (fI2 c g)) := by
  intro pins s σ H x y v u Q I rx ry q
  obtain ⟨S, d, e, sN, l1, l2, q⟩ := q
  revert q
  unfold fI2
  split
  · intro q
    have e1 := l1.int; have e2 := l2.int
    subst e1; subst e2
    refine h pins s σ H _ _ v u Q I rx ry ⟨_, _, rfl, rfl, ?_, ?_⟩
    · split at q
      · rename_i hh; exact hc _ _ hh
      · exact q.elim
    · split at q
      · exact opQ_val q rfl fun _ _ _ _ _ => .int _
      · exact q.elim
  · exact fun q => q.elim
theorem op_sub' : OpR X (binaryOp .Sub) (op2 C fSub) := opI2 (P := fun _ _ => True) (fun pins s σ H x y v u Q I rx ry ⟨i, j, a, b, _, q⟩ => op_sub pins s σ H x y v u Q I rx ry ⟨i, j, a, b, q⟩) fun _ _ _ => trivial
theorem op_mod' : OpR X (binaryOp .Mod) (op2 C fMod) := opI2 op_modN fun _ _ h => of_decide_eq_true h
theorem op_div' : OpR X (binaryOp .FloorDiv) (op2 C fDiv) := opI2 op_fdivN fun _ _ h => ⟨of_decide_eq_true (Bool.and_eq_true_iff.mp h).1, of_decide_eq_true (Bool.and_eq_true_iff.mp h).2⟩
theorem op_pow' : OpR X (binaryOp .Pow) (op2 C fPow) := opI2 op_pow fun _ _ h => by
  have h1 := Bool.and_eq_true_iff.mp h
  have h2 := Bool.and_eq_true_iff.mp h1.1
  exact ⟨of_decide_eq_true h2.1, of_decide_eq_true h2.2, of_decide_eq_true h1.2⟩
theorem rd_list {pins : List (Addr × Obj)} {σ : L2.St} {H : Hp} {s : Shared} (I : Inv X pins σ H s) {a : Addr} {vs : List V} (h : Rd H a (.lst vs)) :
    ∃ (its : List Value) (n : Nat), Vals vs its ∧ s.heap.get? a = some { cls := .type "list", data := .seq its.toArray n } ∧ vs.length ≤ sizeLine := by
  obtain ⟨z, its, n, r, e⟩ := h.ok I.hok
  exact ⟨its, n, r, e, z⟩
theorem ite_some {c : Bool} {C' : Cn} {S : Addr → Prop} {H : Hp} {Q : VK} {r : RV} (q : opQ C' S (if c = true then some r else none) H Q) : c = true ∧ opQ C' S (some r) H Q := by
  cases c with
  | true => exact ⟨rfl, q⟩
  | false => exact q.elim
theorem op_add' (t : Tie X C) : OpR X (binaryOp .Add) (op2 C fAdd) := by
  intro pins s σ H x y v u Q I rx ry q
  obtain ⟨S, d, e, sN, l1, l2, q⟩ := q
  revert q
  unfold fAdd
  split
  · intro q
    have e1 := l1.int; have e2 := l2.int
    subst e1; subst e2
    exact op_add pins s σ H _ _ v u Q I rx ry ⟨_, _, rfl, rfl, opQ_val q rfl fun _ _ _ _ _ => .int _⟩
  · intro q
    have e1 := l1.str; have e2 := l2.str
    subst e1; subst e2
    obtain ⟨hc, q⟩ := ite_some q
    exact op_add_str pins s σ H _ _ v u Q I rx ry ⟨_, _, rfl, rfl, of_decide_eq_true hc, opQ_val q rfl fun _ _ _ _ _ => .str _⟩
  · intro q
    obtain ⟨a, vs, rfl, ra, pa⟩ := l1.list
    obtain ⟨b, us, rfl, rb, pb⟩ := l2.list
    obtain ⟨hc, q⟩ := ite_some q
    cases rx
    cases ry
    obtain ⟨is, n1, r1, h1, z1⟩ := rd_list I ra
    obtain ⟨js, n2, r2, h2, z2⟩ := rd_list I rb
    have hz : vs.length + us.length ≤ sizeLine := by rw [pa.length, pb.length]; exact of_decide_eq_true hc
    have hl1 := r1.length; have hl2 := r2.length
    refine PySem.P.add_list h1 h2 ?_ (by rw [List.size_toArray, List.size_toArray]; omega)
    have ea : is.toArray ++ js.toArray = (is ++ js).toArray := by simp
    rw [ea]
    exact ⟨.ref _, _, I.lnew (t' := s.toks) (r1.append r2) (by rw [List.length_append]; omega), rfl, opQ_lst q rfl (pa.append pb) _ I.fresh⟩
  · intro q
    obtain ⟨a, vs, rfl, ra, pa⟩ := l1.tuple
    obtain ⟨b, us, rfl, rb, pb⟩ := l2.tuple
    obtain ⟨hc, q⟩ := ite_some q
    have za : SqT C.K H a vs := ra
    have zb : SqT C.K H b us := rb
    rw [t.K] at ra rb
    refine op_catA pins s σ H _ _ v u Q I rx ry ⟨a, b, vs, us, rfl, rfl, ra, rb, ?_, fun e => ?_, fun e1 e2 => ?_, fun _ _ => opQ_tup q rfl (pa.append pb)⟩
    · rw [pa.length, pb.length]; exact of_decide_eq_true hc
    · subst e
      cases pa
      exact q _ H .refl (.tup zb pb)
    · subst e2
      cases pb
      refine q _ H .refl ?_
      rw [List.append_nil]
      exact .tup za pa
  · exact fun q => q.elim
theorem rps_rep {P : Program} {w : World} {K : PySem.W.Frag} {H : Hp} {S : Addr → Prop} {vs : List V} {ds : List D} (r : Rps P w K H S vs ds) : ∀ n : Nat, Rps P w K H S (List.replicate n vs).flatten (List.replicate n ds).flatten
  | 0 => .nil
  | n + 1 => by
    rw [List.replicate_succ, List.replicate_succ, List.flatten_cons, List.flatten_cons]
    exact r.append (rps_rep r n)
theorem op_mul' (t : Tie X C) : OpR X (binaryOp .Mult) (op2 C fMul) := by
  intro pins s σ H x y v u Q I rx ry q
  obtain ⟨S, d, e, sN, l1, l2, q⟩ := q
  revert q
  unfold fMul
  split
  · intro q
    have e1 := l1.int; have e2 := l2.int
    subst e1; subst e2
    obtain ⟨hc, q⟩ := ite_some q
    refine op_mul pins s σ H _ _ v u Q I rx ry ⟨_, _, rfl, rfl, ?_, opQ_val q rfl fun _ _ _ _ _ => .int _⟩
    rcases Bool.or_eq_true_iff.mp hc with h | h
    · have h := Bool.and_eq_true_iff.mp h
      exact .inl ⟨of_decide_eq_true h.1, of_decide_eq_true h.2⟩
    · have h := Bool.and_eq_true_iff.mp h
      exact .inr ⟨of_decide_eq_true h.1, of_decide_eq_true h.2⟩
  · intro q
    obtain ⟨a, vs, rfl, ra, pa⟩ := l1.tuple
    have e2 := l2.int
    subst e2
    obtain ⟨hc, q⟩ := ite_some q
    rw [t.K] at ra
    have h1 := Bool.and_eq_true_iff.mp hc
    have h2 := Bool.and_eq_true_iff.mp h1.1
    have h3 := Bool.and_eq_true_iff.mp h2.1
    refine op_repT pins s σ H _ _ v u Q I rx ry ⟨a, _, vs, rfl, rfl, ra, fun z => ?_, of_decide_eq_true h3.2, of_decide_eq_true h2.2, by rw [pa.length]; exact of_decide_eq_true h1.2, opQ_tup q rfl (rps_rep pa _)⟩
    subst z
    cases pa
    exact of_decide_eq_true h3.1 rfl
  · exact fun q => q.elim

/-! ### comparisons -/
/-- two texts -/
def strEq : D → D → Option Bool
  | .str x, .str y => some (decide (x = y))
  | _, _ => none
theorem strEq_some {d e : D} {b : Bool} (h : strEq d e = some b) : ∃ x y, d = .str x ∧ e = .str y ∧ b = decide (x = y) := by
  unfold strEq at h
  split at h
  · cases h
    exact ⟨_, _, rfl, rfl, rfl⟩
  · cases h
def fEq (d e : D) : Option RV := match strEq d e with
  | some b => some (.fz (.bool b))
  | none => if cmpD d && cmpD e then some (.fz (.bool (PyData.eqv d e))) else none
def fNe (d e : D) : Option RV := match strEq d e with
  | some b => some (.fz (.bool (!b)))
  | none => if cmpD d && cmpD e then some (.fz (.bool (!PyData.eqv d e))) else none
theorem cmpD_iff {d e : D} (h : (cmpD d && cmpD e) = true) : flatD d = true ∧ SeqAt.shaped d = true ∧ flatD e = true ∧ SeqAt.shaped e = true := by
  have h := Bool.and_eq_true_iff.mp h
  have h1 := Bool.and_eq_true_iff.mp h.1
  have h2 := Bool.and_eq_true_iff.mp h.2
  exact ⟨h1.1, h1.2, h2.1, h2.2⟩
theorem op_eq' (t : Tie X C) : OpR X (compareOp .Eq) (op2 C fEq) := by
  intro pins s σ H x y v u Q I rx ry q
  obtain ⟨S, d, e, sN, l1, l2, q⟩ := q
  unfold fEq at q
  split at q
  · rename_i b hb
    obtain ⟨x1, y1, rfl, rfl, rfl⟩ := strEq_some hb
    obtain rfl := l1.str
    obtain rfl := l2.str
    refine op_eq pins s σ H _ _ v u Q I rx ry ⟨rfl, ?_⟩
    have z := q _ _ .refl (.bl _)
    have ez : decide (V.str x1 = V.str y1) = decide (x1 = y1) := by
      rw [Bool.eq_iff_iff]
      simp
    rw [ez]
    exact z
  obtain ⟨hc, q⟩ := ite_some q
  obtain ⟨f1, s1, f2, s2⟩ := cmpD_iff hc
  obtain ⟨as, r1⟩ := l1.reads t I f1 rx
  obtain ⟨bs, r2⟩ := l2.reads t I f2 ry
  have hr := t.room
  exact SeqAt.compareEq_shaped r1 r2 s1 s2 (by omega) ⟨.bl _, H, I, rfl, opQ_val q rfl fun _ _ _ _ _ => .bl _⟩
theorem op_ne' (t : Tie X C) : OpR X (compareOp .NotEq) (op2 C fNe) := by
  intro pins s σ H x y v u Q I rx ry q
  obtain ⟨S, d, e, sN, l1, l2, q⟩ := q
  unfold fNe at q
  split at q
  · rename_i b hb
    obtain ⟨x1, y1, rfl, rfl, rfl⟩ := strEq_some hb
    obtain rfl := l1.str
    obtain rfl := l2.str
    refine op_ne pins s σ H _ _ v u Q I rx ry ⟨rfl, ?_⟩
    have z := q _ _ .refl (.bl _)
    have ez : decide (V.str x1 = V.str y1) = decide (x1 = y1) := by
      rw [Bool.eq_iff_iff]
      simp
    rw [ez]
    exact z
  obtain ⟨hc, q⟩ := ite_some q
  obtain ⟨f1, s1, f2, s2⟩ := cmpD_iff hc
  obtain ⟨as, r1⟩ := l1.reads t I f1 rx
  obtain ⟨bs, r2⟩ := l2.reads t I f2 ry
  have hr := t.room
  exact SeqAt.compareNe_shaped r1 r2 s1 s2 (by omega) ⟨.bl _, H, I, rfl, opQ_val q rfl fun _ _ _ _ _ => .bl _⟩
/-- data that < may compare -/
def ordD (d e : D) : Bool := flatD d && flatD e && PySem.W.alike d e && decide (d.depth ≤ 60) && (match d with | .none => false | _ => true)
theorem ordD_iff {d e : D} (h : ordD d e = true) : flatD d = true ∧ flatD e = true ∧ PySem.W.alike d e = true ∧ d.depth ≤ 60 ∧ d ≠ .none := by
  unfold ordD at h
  have h1 := Bool.and_eq_true_iff.mp h
  have h2 := Bool.and_eq_true_iff.mp h1.1
  have h3 := Bool.and_eq_true_iff.mp h2.1
  have h4 := Bool.and_eq_true_iff.mp h3.1
  exact ⟨h4.1, h4.2, h3.2, of_decide_eq_true h2.2, fun z => by subst z; exact Bool.false_ne_true h1.2⟩
def fOrd (g : D → D → Bool) (d e : D) : Option RV := if ordD d e then some (.fz (.bool (g d e))) else none
def fLt : D → D → Option RV := fOrd PySem.W.dataLt
def fGt : D → D → Option RV := fOrd fun d e => PySem.W.dataLt e d
def fLe : D → D → Option RV := fOrd fun d e => !PySem.W.dataLt e d
def fGe : D → D → Option RV := fOrd fun d e => !PySem.W.dataLt d e
theorem op_ord {op : CmpOp} {g : D → D → Bool} (t : Tie X C)
    (h : ∀ {A : Around} {s : Shared} {a b : Value} {da db : D} {as bs : List Addr} {E : Value → Shared → Prop} {Q : Value → Shared → Prop}, Reads s.heap a da as → Reads s.heap b db bs → PySem.W.alike da db = true → da ≠ .none → A.units + min da.depth db.depth < cLine → Q (.bool (g da db)) s → wpAny (model X.prog X.w) A (compareOp op a b) Q E s) :
    OpR X (compareOp op) (op2 C (fOrd g)) := by
  intro pins s σ H x y v u Q I rx ry q
  obtain ⟨S, d, e, sN, l1, l2, q⟩ := q
  obtain ⟨hc, q⟩ := ite_some q
  obtain ⟨f1, f2, al, dp, nn⟩ := ordD_iff hc
  obtain ⟨as, r1⟩ := l1.reads t I f1 rx
  obtain ⟨bs, r2⟩ := l2.reads t I f2 ry
  have hr := t.room
  have hm : min d.depth e.depth ≤ d.depth := Nat.min_le_left _ _
  exact h r1 r2 al nn (by omega) ⟨.bl _, H, I, rfl, opQ_val q rfl fun _ _ _ _ _ => .bl _⟩
theorem op_lt' (t : Tie X C) : OpR X (compareOp .Lt) (op2 C fLt) := op_ord t fun a b c d e f => PySem.W.lt_data a b c d e f
theorem op_gt' (t : Tie X C) : OpR X (compareOp .Gt) (op2 C fGt) := op_ord t fun a b c d e f => PySem.W.gt_data a b c d e f
theorem op_le' (t : Tie X C) : OpR X (compareOp .LtE) (op2 C fLe) := op_ord t fun a b c d e f => PySem.W.le_data a b c d e f
theorem op_ge' (t : Tie X C) : OpR X (compareOp .GtE) (op2 C fGe) := op_ord t fun a b c d e f => PySem.W.ge_data a b c d e f
def isN : D → Bool
  | .none => true
  | _ => false
def fIs (d e : D) : Option RV := if isN e then some (.fz (.bool (isN d))) else none
def fIsNot (d e : D) : Option RV := if isN e then some (.fz (.bool (!isN d))) else none
theorem Lt.isN {H : Hp} {S : Addr → Prop} {x : V} {d : D} (l : Lt C H S x d) : decide (x = .non) = isN d := by
  cases d with
  | none => have := l.none; subst this; rfl
  | bool b => have := l.bool; subst this; rfl
  | int b => have := l.int; subst this; rfl
  | str b => have := l.str; subst this; rfl
  | list b => obtain ⟨a, _, e, _⟩ := l.list; subst e; rfl
  | tuple b => obtain ⟨a, _, e, _⟩ := l.tuple; subst e; rfl
  | dict b => obtain ⟨a, _, e, _⟩ := l.dict; subst e; rfl
theorem op_is' : OpR X (compareOp .Is) (op2 C fIs) := by
  intro pins s σ H x y v u Q I rx ry q
  obtain ⟨S, d, e, sN, l1, l2, q⟩ := q
  obtain ⟨hc, q⟩ := ite_some q
  refine op_isN pins s σ H _ _ v u Q I rx ry ⟨of_decide_eq_true (l2.isN.trans hc), ?_⟩
  rw [l1.isN]
  exact opQ_val q rfl fun _ _ _ _ _ => .bl _
theorem op_isNot' : OpR X (compareOp .IsNot) (op2 C fIsNot) := by
  intro pins s σ H x y v u Q I rx ry q
  obtain ⟨S, d, e, sN, l1, l2, q⟩ := q
  obtain ⟨hc, q⟩ := ite_some q
  refine op_notN pins s σ H _ _ v u Q I rx ry ⟨of_decide_eq_true (l2.isN.trans hc), ?_⟩
  rw [l1.isN]
  exact opQ_val q rfl fun _ _ _ _ _ => .bl _
/-- x in y: lists, tuples (dicts: DLd) -/
def fIn (d e : D) : Option RV := match e with
  | .list es => if cmpD d && cmpD (.list es) then some (.fz (.bool (es.any fun z => PyData.eqv z d))) else none
  | .tuple es => if cmpD d && cmpD (.tuple es) then some (.fz (.bool (es.any fun z => PyData.eqv z d))) else none
  | _ => none
def fNotIn (d e : D) : Option RV := match e with
  | .list es => if cmpD d && cmpD (.list es) then some (.fz (.bool (!es.any fun z => PyData.eqv z d))) else none
  | .tuple es => if cmpD d && cmpD (.tuple es) then some (.fz (.bool (!es.any fun z => PyData.eqv z d))) else none
  | _ => none
theorem op_in' (t : Tie X C) : OpR X (compareOp .In) (op2 C fIn) := by
  intro pins s σ H x y v u Q I rx ry q
  obtain ⟨S, d, e, sN, l1, l2, q⟩ := q
  have hr := t.room
  revert q
  unfold fIn
  split
  · intro q
    obtain ⟨hc, q⟩ := ite_some q
    obtain ⟨f1, s1, f2, s2⟩ := cmpD_iff hc
    obtain ⟨as, r1⟩ := l1.reads t I f1 rx
    obtain ⟨bs, r2⟩ := l2.reads t I f2 ry
    exact SeqAt.in_list_reads r2 r1 (SeqAt.canLay_of_shaped s2) (SeqAt.canLay_of_shaped s1) (room_in_shaped s1 (by omega)) ⟨.bl _, H, I, rfl, opQ_val q rfl fun _ _ _ _ _ => .bl _⟩
  · intro q
    obtain ⟨hc, q⟩ := ite_some q
    obtain ⟨f1, s1, f2, s2⟩ := cmpD_iff hc
    obtain ⟨as, r1⟩ := l1.reads t I f1 rx
    obtain ⟨bs, r2⟩ := l2.reads t I f2 ry
    exact SeqAt.in_tuple_reads r2 r1 (SeqAt.canLay_of_shaped s2) (SeqAt.canLay_of_shaped s1) (room_in_shaped s1 (by omega)) ⟨.bl _, H, I, rfl, opQ_val q rfl fun _ _ _ _ _ => .bl _⟩
  · exact fun q => q.elim
theorem op_notIn' (t : Tie X C) : OpR X (compareOp .NotIn) (op2 C fNotIn) := by
  intro pins s σ H x y v u Q I rx ry q
  obtain ⟨S, d, e, sN, l1, l2, q⟩ := q
  have hr := t.room
  revert q
  unfold fNotIn
  split
  · intro q
    obtain ⟨hc, q⟩ := ite_some q
    obtain ⟨f1, s1, f2, s2⟩ := cmpD_iff hc
    obtain ⟨as, r1⟩ := l1.reads t I f1 rx
    obtain ⟨bs, r2⟩ := l2.reads t I f2 ry
    exact SeqAt.notIn_list_reads r2 r1 (SeqAt.canLay_of_shaped s2) (SeqAt.canLay_of_shaped s1) (room_in_shaped s1 (by omega)) ⟨.bl _, H, I, rfl, opQ_val q rfl fun _ _ _ _ _ => .bl _⟩
  · intro q
    obtain ⟨hc, q⟩ := ite_some q
    obtain ⟨f1, s1, f2, s2⟩ := cmpD_iff hc
    obtain ⟨as, r1⟩ := l1.reads t I f1 rx
    obtain ⟨bs, r2⟩ := l2.reads t I f2 ry
    exact SeqAt.notIn_tuple_reads r2 r1 (SeqAt.canLay_of_shaped s2) (SeqAt.canLay_of_shaped s1) (room_in_shaped s1 (by omega)) ⟨.bl _, H, I, rfl, opQ_val q rfl fun _ _ _ _ _ => .bl _⟩
  · exact fun q => q.elim

/-! ### places, slices -/
def fIx : D → D → Option RV
  | .list ds, .int i => (atI ds i).map .fz
  | .tuple ds, .int i => (atI ds i).map .fz
  | _, _ => none
theorem rps_atI {P : Program} {w : World} {K : PySem.W.Frag} {H : Hp} {S : Addr → Prop} {vs : List V} {ds : List D} {i : Int} {d : D} (r : Rps P w K H S vs ds) (e : atI ds i = some d) : ∃ v, atI vs i = some v ∧ Rp P w K H S v d := by
  unfold atI at e ⊢
  rw [r.length]
  cases h : ixN ds.length i with
  | none => rw [h] at e; cases e
  | some j =>
    rw [h] at e
    obtain ⟨v, e1, q⟩ := r.getD (i := j) e
    exact ⟨v, e1, q⟩
theorem ix' (t : Tie X C) : IxR X (op2 C fIx) := by
  intro value slice pins s σ H x y v u Q I rx ry q hs
  obtain ⟨S, d, e, sN, l1, l2, q⟩ := q
  revert q
  unfold fIx
  split
  · intro q
    obtain ⟨a, vs, rfl, ra, pa⟩ := l1.list
    have e2 := l2.int
    subst e2
    rename_i ds i
    cases hd : atI ds i with
    | none => rw [hd] at q; exact q.elim
    | some z =>
      rw [hd] at q
      obtain ⟨v1, e1, r1⟩ := rps_atI pa hd
      exact ix_list value slice pins s σ H _ _ v u Q I rx ry ⟨a, vs, i, v1, rfl, rfl, .inl ra, e1, q v1 H .refl r1⟩ hs
  · intro q
    obtain ⟨a, vs, rfl, ra, pa⟩ := l1.tuple
    have e2 := l2.int
    subst e2
    rename_i ds i
    rw [t.K] at ra
    cases hd : atI ds i with
    | none => rw [hd] at q; exact q.elim
    | some z =>
      rw [hd] at q
      obtain ⟨v1, e1, r1⟩ := rps_atI pa hd
      exact ix_tup value slice pins s σ H _ _ v u Q I rx ry ⟨a, vs, i, v1, rfl, rfl, ra, e1, q v1 H .refl r1⟩ hs
  · exact fun q => q.elim
/-- the part of a list from lo to hi -/
def cutD (ds : List D) (lo hi : Option Int) : List D := List.take (HT.sIx ds.length ds.length hi - HT.sIx ds.length 0 lo) (List.drop (HT.sIx ds.length 0 lo) ds)
def fSl (d : D) (lo hi : Option Int) : Option RV := match d with
  | .list ds => some (.ow (.list (cutD ds lo hi)))
  | .tuple ds => some (.fz (.tuple (cutD ds lo hi)))
  | .str x => if bz x.length then some (.fz (.str (cutS x lo hi))) else none
  | _ => none
theorem rps_take {P : Program} {w : World} {K : PySem.W.Frag} {H : Hp} {S : Addr → Prop} : ∀ {vs : List V} {ds : List D} (n : Nat), Rps P w K H S vs ds → Rps P w K H S (vs.take n) (ds.take n)
  | _, _, 0, _ => .nil
  | _, _, _ + 1, .nil => .nil
  | _, _, n + 1, .cons h r => .cons h (rps_take n r)
theorem rps_drop {P : Program} {w : World} {K : PySem.W.Frag} {H : Hp} {S : Addr → Prop} : ∀ {vs : List V} {ds : List D} (n : Nat), Rps P w K H S vs ds → Rps P w K H S (vs.drop n) (ds.drop n)
  | _, _, 0, r => r
  | _, _, _ + 1, .nil => .nil
  | _, _, n + 1, .cons _ r => rps_drop n r
theorem rps_cut {P : Program} {w : World} {K : PySem.W.Frag} {H : Hp} {S : Addr → Prop} {vs : List V} {ds : List D} (lo hi : Option Int) (r : Rps P w K H S vs ds) : Rps P w K H S (cutV vs lo hi) (cutD ds lo hi) := by
  unfold cutV cutD
  rw [r.length]
  exact rps_take _ (rps_drop _ r)
def slQ (C : Cn) (F : D → Option Int → Option Int → Option RV) : V → Option Int → Option Int → Hp → VK → Prop := fun x lo hi H Q => ∃ (S : Addr → Prop) (d : D), (∀ a, H a = none → S a) ∧ Lt C H S x d ∧ opQ C S (F d lo hi) H Q
theorem sl' (t : Tie X C) : SlR X (slQ C fSl) := by
  intro pins s σ H x v vl vu lo hi sl Q I rx hs pl pu q
  obtain ⟨S, d, sN, l1, q⟩ := q
  revert q
  unfold fSl
  split
  · intro q
    obtain ⟨a, vs, rfl, ra, pa⟩ := l1.list
    exact sl_list pins s σ H _ v vl vu lo hi sl Q I rx hs pl pu ⟨a, vs, rfl, .inl ra, opQ_lst q rfl (rps_cut lo hi pa)⟩
  · intro q
    obtain ⟨a, vs, rfl, ra, pa⟩ := l1.tuple
    have za : SqT C.K H a vs := ra
    rw [t.K] at ra
    refine sl_tupA pins s σ H _ v vl vu lo hi sl Q I rx hs pl pu ⟨a, vs, rfl, ra, fun e => ?_, fun _ => opQ_tup q rfl (rps_cut lo hi pa)⟩
    refine q _ H .refl ?_
    have := rps_cut lo hi pa
    have ev : cutV vs lo hi = vs := by
      unfold cutV
      rw [e.1, e.2, List.drop_zero, Nat.sub_zero, List.take_length]
    rw [ev] at this
    exact .tup za this
  · intro q
    have e1 := l1.str
    subst e1
    obtain ⟨hc, q⟩ := ite_some q
    exact sl_str pins s σ H _ v vl vu lo hi sl Q I rx hs pl pu ⟨_, rfl, of_decide_eq_true hc, opQ_val q rfl fun _ _ _ _ _ => .str _⟩
  · exact fun q => q.elim
/-- a slice's bound -/
abbrev Bx := DEnv → List Int → Res (Option Int × List Int)
def bNo : Bx := fun _ w => .ok (none, w)
def bSo (f : Ex) : Bx := fun ρ w => (f ρ w).bind fun p => match p.1.d with
  | .int i => .ok (some i, p.2)
  | _ => .err
def oT (C : Cn) (W : WX) (f : Bx) : TO := fun σ H Q => ∃ ρ w S, EnvOk C ρ w S σ H ∧ Good C W σ H (f ρ w) fun p => ∀ H', Pst C H H' p.2 → Q p.1 H'
def eSl (f : Ex) (lo hi : Bx) : Ex := fun ρ w => (f ρ w).bind fun p => (lo ρ p.2).bind fun l => (hi ρ l.2).bind fun h => lift (fSl p.1.d l.1 h.1) h.2
theorem po_imp {W : WX} {e : Option Expr} {t t' : TO} (h : PO X e t) (i : ∀ σ H Q, t' σ H Q → t σ H Q) : PO X e t' := ⟨fun pins s σ H Q I q => h.run pins s σ H Q I (i σ H Q q)⟩
theorem do_no {W : WX} : PO X none (oT C W bNo) := po_imp (W := W) po_none fun σ H Q ⟨ρ, w, S, E, h⟩ => h H E.rf
theorem do_so {W : WX} {e : Expr} {f : Ex} (h : DE X C W e f) : PO X (some e) (oT C W (bSo f)) := po_imp (W := W) (po_some h) fun σ H Q ⟨ρ, w, S, E, q⟩ => by
  unfold bSo at q
  refine eT_of E E.rf (q.bind.imp fun p hp v H1 p1 r1 => ?_)
  revert hp
  cases e : p.1.d with
  | int b =>
    intro hp
    have l := r1.lt (ρ := ρ) (w := w) (σ := σ)
    rw [e] at l
    exact ⟨b, l.int, hp H1 p1⟩
  | _ => exact fun hp => hp.elim
theorem de_sl {W : WX} {e : Expr} {lo hi : Option Expr} {f : Ex} {bl bh : Bx} {pos p2 : Pos} (t : Tie X C) (he : DE X C W e f) (hl : PO X lo (oT C W bl)) (hh : PO X hi (oT C W bh)) : DE X C W (.Subscript e (.Slice lo hi none p2) pos) (eSl f bl bh) := by
  refine pe_imp (pe_slice (sl' t) he hl hh) fun σ H Q hq => ?_
  obtain ⟨ρ, w, S, E, hq⟩ := eT_to hq
  unfold eSl at hq
  refine eT_of E E.rf (hq.bind.imp fun p hp v H1 p1 r1 => ?_)
  have E1 := E.go p1
  refine ⟨ρ, _, S, E1, (hp.go p1).bind.imp fun l hp H2 p2 => ?_⟩
  have E2 := E1.go p2
  refine ⟨ρ, _, S, E2, (hp.go p2).bind.imp fun h hp H3 p3 => ?_⟩
  have E3 := E2.go p3
  refine ⟨S, _, E3.sN, (RvOk.grow E E1 (p2.g.trans p3.g) r1).lt (ρ := ρ) (w := w) (σ := σ), ?_⟩
  exact opQ_of E3 (p1.g.trans (p2.g.trans p3.g)) (hp.imp fun z hz v' H' p4 r4 => hz v' H' (p1.trans (p2.trans (p3.trans p4))) r4)
end
end DL
namespace DL
open PySem PySem.Spec PyProof.Rows L2

/-! ### calls of built-ins -/
section
variable {X : Cx} {C : Cn}
theorem Lts.one {H : Hp} {S : Addr → Prop} {xs : List V} {d : D} (h : Lts C H S xs [d]) : ∃ x, xs = [x] ∧ Lt C H S x d := by
  cases h with
  | cons h r => cases r; exact ⟨_, rfl, h⟩
theorem Lts.two {H : Hp} {S : Addr → Prop} {xs : List V} {d e : D} (h : Lts C H S xs [d, e]) : ∃ x y, xs = [x, y] ∧ Lt C H S x d ∧ Lt C H S y e := by
  cases h with
  | cons h r =>
    obtain ⟨y, rfl, q⟩ := r.one
    exact ⟨_, _, rfl, h, q⟩
theorem Lts.three {H : Hp} {S : Addr → Prop} {xs : List V} {d e f : D} (h : Lts C H S xs [d, e, f]) : ∃ x y z, xs = [x, y, z] ∧ Lt C H S x d ∧ Lt C H S y e ∧ Lt C H S z f := by
  cases h with
  | cons h r =>
    obtain ⟨y, z, rfl, q1, q2⟩ := r.two
    exact ⟨_, _, _, rfl, h, q1, q2⟩
def fLen : List D → Option RV
  | [.list ds] => some (.fz (.int ds.length))
  | [.tuple ds] => some (.fz (.int ds.length))
  | [.str x] => if bz x.length then some (.fz (.int x.length)) else none
  | _ => none
theorem call_len' (t : Tie X C) : CallR X (.builtin "len") (opN C fLen) := by
  intro pins s σ H xs us Q I r q
  obtain ⟨S, ds, sN, l, q⟩ := q
  revert q
  unfold fLen
  split
  · intro q
    obtain ⟨x, rfl, lx⟩ := l.one
    obtain ⟨a, vs, rfl, ra, pa⟩ := lx.list
    exact call_len pins s σ H _ us Q I r ⟨_, _, rfl, .inl ⟨vs, .inl ra, rfl⟩, by rw [pa.length]; exact opQ_val q rfl fun _ _ _ _ _ => .int _⟩
  · intro q
    obtain ⟨x, rfl, lx⟩ := l.one
    obtain ⟨a, vs, rfl, ra, pa⟩ := lx.tuple
    rw [t.K] at ra
    exact call_len pins s σ H _ us Q I r ⟨_, _, rfl, .inr ⟨vs, ra, rfl⟩, by rw [pa.length]; exact opQ_val q rfl fun _ _ _ _ _ => .int _⟩
  · intro q
    obtain ⟨x, rfl, lx⟩ := l.one
    have e := lx.str
    subst e
    obtain ⟨hc, q⟩ := ite_some q
    exact call_len pins s σ H _ us Q I r ⟨_, _, rfl, ⟨of_decide_eq_true hc, rfl⟩, opQ_val q rfl fun _ _ _ _ _ => .int _⟩
  · exact fun q => q.elim
def fAbs : List D → Option RV
  | [.int i] => some (.fz (.int (if i < 0 then -i else i)))
  | _ => none
theorem call_abs' : CallR X (.builtin "abs") (opN C fAbs) := by
  intro pins s σ H xs us Q I r q
  obtain ⟨S, ds, sN, l, q⟩ := q
  revert q
  unfold fAbs
  split
  · intro q
    obtain ⟨x, rfl, lx⟩ := l.one
    have e := lx.int
    subst e
    exact call_abs pins s σ H _ us Q I r ⟨_, rfl, opQ_val q rfl fun _ _ _ _ _ => .int _⟩
  · exact fun q => q.elim
def fInt : List D → Option RV
  | [.int i] => some (.fz (.int i))
  | [.bool b] => some (.fz (.int (if b then 1 else 0)))
  | _ => none
theorem call_int' : CallR X (.type "int") (opN C fInt) := by
  intro pins s σ H xs us Q I r q
  obtain ⟨S, ds, sN, l, q⟩ := q
  revert q
  unfold fInt
  split
  · intro q
    obtain ⟨x, rfl, lx⟩ := l.one
    have e := lx.int
    subst e
    exact call_int1 pins s σ H _ us Q I r (.inl ⟨_, rfl, opQ_val q rfl fun _ _ _ _ _ => .int _⟩)
  · intro q
    obtain ⟨x, rfl, lx⟩ := l.one
    have e := lx.bool
    subst e
    exact call_int1 pins s σ H _ us Q I r (.inr ⟨_, rfl, opQ_val q rfl fun _ _ _ _ _ => .int _⟩)
  · exact fun q => q.elim
def fDivmod : List D → Option RV
  | [.int i, .int j] => if decide (0 < j) && decide (j < 1073741824) then some (.fz (.tuple [.int (i / j), .int (i % j)])) else none
  | _ => none
theorem call_divmod' : CallR X (.builtin "divmod") (opN C fDivmod) := by
  intro pins s σ H xs us Q I r q
  obtain ⟨S, ds, sN, l, q⟩ := q
  revert q
  unfold fDivmod
  split
  · intro q
    obtain ⟨x, y, rfl, l1, l2⟩ := l.two
    have e := l1.int
    subst e
    have e := l2.int
    subst e
    obtain ⟨hc, q⟩ := ite_some q
    have hc := Bool.and_eq_true_iff.mp hc
    exact call_divmod pins s σ H _ us Q I r ⟨_, _, rfl, ⟨of_decide_eq_true hc.1, of_decide_eq_true hc.2⟩, opQ_tup q rfl (.cons (.int _) (.cons (.int _) .nil))⟩
  · exact fun q => q.elim
/-! list, tuple -/
def fTuple : List D → Option RV
  | [.list ds] => some (.fz (.tuple ds))
  | [.tuple ds] => some (.fz (.tuple ds))
  | _ => none
def fList : List D → Option RV
  | [.list ds] => some (.ow (.list ds))
  | [.tuple ds] => some (.ow (.list ds))
  | _ => none
theorem call_tuple' (t : Tie X C) : CallR X (.type "tuple") (opN C fTuple) := by
  intro pins s σ H xs us Q I r q
  obtain ⟨S, ds, sN, l, q⟩ := q
  revert q
  unfold fTuple
  split
  · intro q
    obtain ⟨x, rfl, lx⟩ := l.one
    obtain ⟨a, vs, rfl, ra, pa⟩ := lx.list
    exact call_tuple_of pins s σ H _ us Q I r ⟨a, vs, rfl, .inl ⟨.inl ra, opQ_tup q rfl pa⟩⟩
  · intro q
    obtain ⟨x, rfl, lx⟩ := l.one
    obtain ⟨a, vs, rfl, ra, pa⟩ := lx.tuple
    have za : SqT C.K H a vs := ra
    rw [t.K] at ra
    exact call_tuple_of pins s σ H _ us Q I r ⟨a, vs, rfl, .inr ⟨ra, q _ H .refl (.tup za pa)⟩⟩
  · exact fun q => q.elim
theorem call_list' (t : Tie X C) : CallR X (.type "list") (opN C fList) := by
  intro pins s σ H xs us Q I r q
  obtain ⟨S, ds, sN, l, q⟩ := q
  revert q
  unfold fList
  split
  · intro q
    obtain ⟨x, rfl, lx⟩ := l.one
    obtain ⟨a, vs, rfl, ra, pa⟩ := lx.list
    exact call_list_of pins s σ H _ us Q I r ⟨a, vs, rfl, .inl (.inl ra), opQ_lst q rfl pa⟩
  · intro q
    obtain ⟨x, rfl, lx⟩ := l.one
    obtain ⟨a, vs, rfl, ra, pa⟩ := lx.tuple
    rw [t.K] at ra
    exact call_list_of pins s σ H _ us Q I r ⟨a, vs, rfl, .inr ra, opQ_lst q rfl pa⟩
  · exact fun q => q.elim
/-! all, any, sum -/
def boolsD : List D → Option (List Bool)
  | [] => some []
  | .bool b :: ds => (boolsD ds).map (b :: ·)
  | _ => none
def intsD : List D → Option (List Int)
  | [] => some []
  | .int b :: ds => (intsD ds).map (b :: ·)
  | _ => none
theorem rps_bools {P : Program} {w : World} {K : PySem.W.Frag} {H : Hp} {S : Addr → Prop} : ∀ {ds : List D} {vs : List V} {bs : List Bool}, boolsD ds = some bs → Rps P w K H S vs ds → vs = bs.map V.bl
  | [], vs, bs, e, r => by cases r; cases e; rfl
  | .bool b :: ds, _, bs, e, .cons h r => by
    cases h
    unfold boolsD at e
    cases e1 : boolsD ds with
    | none => rw [e1] at e; cases e
    | some l =>
      rw [e1] at e
      cases e
      rw [rps_bools e1 r]; rfl
theorem rps_ints {P : Program} {w : World} {K : PySem.W.Frag} {H : Hp} {S : Addr → Prop} : ∀ {ds : List D} {vs : List V} {bs : List Int}, intsD ds = some bs → Rps P w K H S vs ds → vs = bs.map V.int
  | [], vs, bs, e, r => by cases r; cases e; rfl
  | .int b :: ds, _, bs, e, .cons h r => by
    cases h
    unfold intsD at e
    cases e1 : intsD ds with
    | none => rw [e1] at e; cases e
    | some l =>
      rw [e1] at e
      cases e
      rw [rps_ints e1 r]; rfl
def fAll : List D → Option RV
  | [.list ds] => (boolsD ds).map fun bs => .fz (.bool (bs.all id))
  | _ => none
def fAny : List D → Option RV
  | [.list ds] => (boolsD ds).map fun bs => .fz (.bool (bs.any id))
  | _ => none
theorem call_all' (t : Tie X C) : CallR X (.builtin "all") (opN C fAll) := by
  intro pins s σ H xs us Q I r q
  obtain ⟨S, ds, sN, l, q⟩ := q
  revert q
  unfold fAll
  split
  · rename_i ds
    intro q
    obtain ⟨x, rfl, lx⟩ := l.one
    obtain ⟨a, vs, rfl, ra, pa⟩ := lx.list
    cases e : boolsD ds with
    | none => rw [e] at q; exact q.elim
    | some bs =>
      rw [e] at q
      have := rps_bools e pa
      subst this
      exact cr_all t.calm pins s σ H _ us Q I r ⟨a, bs, rfl, .inl ra, opQ_val q rfl fun _ _ _ _ _ => .bl _⟩
  · exact fun q => q.elim
theorem call_any' (t : Tie X C) : CallR X (.builtin "any") (opN C fAny) := by
  intro pins s σ H xs us Q I r q
  obtain ⟨S, ds, sN, l, q⟩ := q
  revert q
  unfold fAny
  split
  · rename_i ds
    intro q
    obtain ⟨x, rfl, lx⟩ := l.one
    obtain ⟨a, vs, rfl, ra, pa⟩ := lx.list
    cases e : boolsD ds with
    | none => rw [e] at q; exact q.elim
    | some bs =>
      rw [e] at q
      have := rps_bools e pa
      subst this
      exact cr_any t.calm pins s σ H _ us Q I r ⟨a, bs, rfl, .inl ra, opQ_val q rfl fun _ _ _ _ _ => .bl _⟩
  · exact fun q => q.elim
def fSum : List D → Option RV
  | [.list ds] => (intsD ds).map fun bs => .fz (.int bs.sum)
  | [.tuple ds] => (intsD ds).map fun bs => .fz (.int bs.sum)
  | _ => none
theorem preSum_list (g : Nat → Int) : ∀ (ns : List Int) (k : Nat), (∀ i n, ns[i]? = some n → g (k + i) = n) → preSum (fun i => g i) (k + ns.length) = preSum (fun i => g i) k + ns.sum := by
  intro ns
  induction ns with
  | nil => intro k _; simp
  | cons n r ih =>
    intro k h
    have h0 := h 0 n rfl
    have := ih (k + 1) fun i m e => by
      have := h (i + 1) m (by simpa using e)
      rw [← this]; congr 1; omega
    rw [List.length_cons, show k + (r.length + 1) = k + 1 + r.length by omega, this, List.sum_cons]
    have e : preSum (fun i => g i) (k + 1) = preSum (fun i => g i) k + g k := rfl
    rw [e, show g k = n by simpa using h0]
    omega
theorem vals_ints : ∀ {ns : List Int} {us : List Value} (i : Nat) (v : Value), Vals (ns.map V.int) us → us[i]? = some v → ∃ n t, ns[i]? = some n ∧ v = .int n t
  | [], _, i, v, r, e => by cases r; simp at e
  | n :: ns, _, 0, v, .cons h r, e => by
    simp at e; subst e
    obtain ⟨t, rfl⟩ := h
    exact ⟨n, t, rfl, rfl⟩
  | n :: ns, _, i + 1, v, .cons h r, e => by
    obtain ⟨m, t, e1, e2⟩ := vals_ints i v r (by simpa using e)
    exact ⟨m, t, by simpa using e1, e2⟩
theorem call_sum' (t : Tie X C) : CallR X (.builtin "sum") (opN C fSum) := by
  intro pins s σ H xs us Q I r q
  obtain ⟨S, ds, sN, l, q⟩ := q
  revert q
  unfold fSum
  split
  · rename_i ds
    intro q
    obtain ⟨x, rfl, lx⟩ := l.one
    obtain ⟨a, vs, rfl, ra, pa⟩ := lx.list
    cases e : intsD ds with
    | none => rw [e] at q; exact q.elim
    | some bs =>
      rw [e] at q
      have := rps_ints e pa
      subst this
      exact cr_sum t.calm pins s σ H _ us Q I r ⟨a, bs, rfl, .inl ra, opQ_val q rfl fun _ _ _ _ _ => .int _⟩
  · rename_i ds
    intro q
    obtain ⟨x, rfl, lx⟩ := l.one
    obtain ⟨a, vs, rfl, ra, pa⟩ := lx.tuple
    rw [t.K] at ra
    cases e : intsD ds with
    | none => rw [e] at q; exact q.elim
    | some bs =>
      rw [e] at q
      have := rps_ints e pa
      subst this
      obtain ⟨its, rv, pl, hz⟩ := I.tuple ra
      rw [Vals.ref1 r]
      have ht : s.heap.IsTuple a its.toArray := by
        obtain ⟨o, ho, hc, n, hd⟩ := pl
        exact ⟨o, ho, hc, n, hd⟩
      refine call_sum_walkAnyS (PySem.W.iter_tupleW (A := X.A.in1) (I.ok.hd t.calm) ht fun s₂ e2 Wk st hfp hw hk => ?_)
      refine ⟨_, _, _, _, _, _, _, fun i => (bs[i]?).getD 0, rfl, Wk, st, hfp, fun i v hv => ?_, fun s' t' m => ?_⟩
      · obtain ⟨n, t0, e3, e4⟩ := vals_ints i v rv (by simpa using hv)
        exact ⟨t0, by show v = Value.int ((bs[i]?).getD 0) t0; rw [e3]; exact e4⟩
      · obtain ⟨h', tk, rfl, hk'⟩ := PySem.W.moved_old e2 rfl m
        have hs := preSum_list (fun i => (bs[i]?).getD 0) bs 0 fun i n e => by simp [e]
        have hl : its.toArray.size = bs.length := by
          have := rv.length
          simp only [List.length_map] at this
          simp [this]
        refine ⟨.int bs.sum, H, I.kept hk', ⟨t', ?_⟩, opQ_val q rfl fun _ _ _ _ _ => .int _⟩
        rw [hl]
        have : preSum (fun i => (bs[i]?).getD 0) bs.length = bs.sum := by simpa [preSum] using hs
        rw [this]
  · exact fun q => q.elim
/-! max, min -/
def fMax : List D → Option RV
  | [.int i, .int j] => some (.fz (.int (if j > i then j else i)))
  | [.int i, .int j, .int k] => some (.fz (.int (if (if j > i then j else i) < k then k else if j > i then j else i)))
  | [.list (d :: ds)] => if cmpD (.list (d :: ds)) && decide (PyData.depthAll (d :: ds) ≤ 60) && (d :: ds).all (fun a => (d :: ds).all fun b => PySem.W.alike a b) && (d :: ds).all (fun a => !isN a) then some (.fz (PySem.W.maxD d ds)) else none
  | [.tuple (d :: ds)] => if cmpD (.tuple (d :: ds)) && decide (PyData.depthAll (d :: ds) ≤ 60) && (d :: ds).all (fun a => (d :: ds).all fun b => PySem.W.alike a b) && (d :: ds).all (fun a => !isN a) then some (.fz (PySem.W.maxD d ds)) else none
  | _ => none
def fMin : List D → Option RV
  | [.int i, .int j] => some (.fz (.int (if j < i then j else i)))
  | [.int i, .int j, .int k] => some (.fz (.int (if k < (if j < i then j else i) then k else if j < i then j else i)))
  | [.list (d :: ds)] => if cmpD (.list (d :: ds)) && decide (PyData.depthAll (d :: ds) ≤ 60) && (d :: ds).all (fun a => (d :: ds).all fun b => PySem.W.alike a b) && (d :: ds).all (fun a => !isN a) then some (.fz (PySem.W.minD d ds)) else none
  | [.tuple (d :: ds)] => if cmpD (.tuple (d :: ds)) && decide (PyData.depthAll (d :: ds) ≤ 60) && (d :: ds).all (fun a => (d :: ds).all fun b => PySem.W.alike a b) && (d :: ds).all (fun a => !isN a) then some (.fz (PySem.W.minD d ds)) else none
  | _ => none
theorem mm_cond {e : D} {d : D} {ds : List D} (h : (cmpD e && decide (PyData.depthAll (d :: ds) ≤ 60) && (d :: ds).all (fun a => (d :: ds).all fun b => PySem.W.alike a b) && (d :: ds).all (fun a => !isN a)) = true) :
    flatD e = true ∧ PyData.depthAll (d :: ds) ≤ 60 ∧ PySem.W.AlikeAll (d :: ds) := by
  have h1 := Bool.and_eq_true_iff.mp h
  have h2 := Bool.and_eq_true_iff.mp h1.1
  have h3 := Bool.and_eq_true_iff.mp h2.1
  refine ⟨(Bool.and_eq_true_iff.mp h3.1).1, of_decide_eq_true h3.2, ?_, ?_⟩
  · intro a ha b hb
    exact List.all_eq_true.mp (List.all_eq_true.mp h2.2 a ha) b hb
  · intro a ha e
    have := List.all_eq_true.mp h1.2 a ha
    subst e
    cases this
theorem reads_item {pins : List (Addr × Obj)} {σ : L2.St} {H : Hp} {s : Shared} (t : Tie X C) (I : Inv X pins σ H s) {S : Addr → Prop} {vs : List V} {its : List Value} {ds : List D} {i : Nat} {u : Value} {m : D} {h' : Heap} {bs : List Addr} (r : Rps C.P C.w C.K H S vs ds) (rv : Vals vs its) (f : flatDs ds = true) (hi : its[i]? = some u) (hr : Reads h' u m bs) (hk : ∀ b o, s.heap.get? b = some o → h'.get? b = some o) :
    ∃ v, RelV v u ∧ Rp C.P C.w C.K H S v m := by
  have hl := rv.length
  have hlt : i < its.length := (List.getElem?_eq_some_iff.mp hi).1
  have hv : vs[i]? = some (vs[i]'(by omega)) := List.getElem?_eq_getElem _
  obtain ⟨u', e1, rr⟩ := rv.get hv
  rw [hi] at e1
  cases e1
  obtain ⟨d, e2, rd⟩ := r.get hv
  have fd : flatD d = true := by
    have : d ∈ ds := List.mem_of_getElem? e2
    clear hr e2 rd r
    induction ds with
    | nil => cases this
    | cons a l ih =>
      unfold flatDs at f
      have f := Bool.and_eq_true_iff.mp f
      rcases List.mem_cons.mp this with rfl | h
      · exact f.1
      · exact ih f.2 h
  obtain ⟨as, q⟩ := Lt.reads t I (.inl rd) fd rr
  have e3 := (reads_det (fun b o e _ => hk b o e) q hr).1
  subst e3
  exact ⟨_, rr, rd⟩
theorem flat_list {ds : List D} (h : flatD (.list ds) = true) : flatDs ds = true := by unfold flatD at h; exact h
theorem flat_tuple {ds : List D} (h : flatD (.tuple ds) = true) : flatDs ds = true := by unfold flatD at h; exact h
theorem reads_all {pins : List (Addr × Obj)} {σ : L2.St} {H : Hp} {s : Shared} (t : Tie X C) (I : Inv X pins σ H s) {S : Addr → Prop} {vs : List V} {its : List Value} {ds : List D} (r : Rps C.P C.w C.K H S vs ds) (rv : Vals vs its) (f : flatDs ds = true) : ∃ as, ReadsAll s.heap its ds as := by
  have q := r.dp f
  rw [t.K] at q
  exact Dp.readsAll I ds vs its q rv
theorem call_max' (t : Tie X C) : CallR X (.builtin "max") (opN C fMax) := by
  intro pins s σ H xs us Q I r q
  obtain ⟨S, ds, sN, l, q⟩ := q
  have hroom := t.room
  revert q
  unfold fMax
  split
  · intro q
    obtain ⟨x, y, rfl, l1, l2⟩ := l.two
    have e := l1.int; subst e
    have e := l2.int; subst e
    exact call_max2 t.calm pins s σ H _ us Q I r ⟨_, _, rfl, opQ_val q rfl fun _ _ _ _ _ => .int _⟩
  · rename_i i j k
    intro q
    obtain ⟨x, y, z, rfl, l1, l2, l3⟩ := l.three
    have e := l1.int; subst e
    have e := l2.int; subst e
    have e := l3.int; subst e
    refine call_max3Nu t.calm pins s σ H _ us Q I r ⟨_, _, _, _, rfl, ?_, opQ_val q rfl fun _ _ _ _ _ => .int _⟩
    unfold nuMax3 nuMax2 nuLt
    simp only [nuCB, Option.map_some, Option.bind_some]
    by_cases h : i < j
    · simp only [h, decide_true, if_true, gt_iff_lt, Option.map_some, Option.bind_some, nuCB]
      by_cases h2 : j < k <;> simp [h2]
    · simp only [h, decide_false, gt_iff_lt, if_false, Bool.false_eq_true, Option.map_some, Option.bind_some, nuCB]
      by_cases h2 : i < k <;> simp [h2]
  · intro q
    obtain ⟨x, rfl, lx⟩ := l.one
    obtain ⟨a, vs, rfl, ra, pa⟩ := lx.list
    obtain ⟨hc, q⟩ := ite_some q
    obtain ⟨f, dp, al⟩ := mm_cond hc
    obtain ⟨its, n, rv, hl, hz⟩ := rd_list I ra
    obtain ⟨as, hr⟩ := reads_all t I pa rv (flat_list f)
    rw [Vals.ref1 r]
    refine PySem.W.max_list_data (I.ok.hd t.calm) (vs := its.toArray) ⟨_, hl, rfl, n, rfl⟩ (by simpa using hr) al (by omega) fun i v h' tk bs hi hr' hk => ?_
    obtain ⟨v1, rr, rp⟩ := reads_item t I pa rv (flat_list f) (by simpa using hi) hr' hk
    exact ⟨v1, H, I.kept hk, rr, q _ H .refl rp⟩
  · intro q
    obtain ⟨x, rfl, lx⟩ := l.one
    obtain ⟨a, vs, rfl, ra, pa⟩ := lx.tuple
    rw [t.K] at ra
    obtain ⟨hc, q⟩ := ite_some q
    obtain ⟨f, dp, al⟩ := mm_cond hc
    obtain ⟨its, rv, ⟨o, ho, hcl, n, hd⟩, hz⟩ := I.tuple ra
    obtain ⟨as, hr⟩ := reads_all t I pa rv (flat_tuple f)
    rw [Vals.ref1 r]
    refine PySem.W.max_tuple_data (I.ok.hd t.calm) (vs := its.toArray) ⟨o, ho, hcl, n, hd⟩ (by simpa using hr) al (by omega) fun i v h' tk bs hi hr' hk => ?_
    obtain ⟨v1, rr, rp⟩ := reads_item t I pa rv (flat_tuple f) (by simpa using hi) hr' hk
    exact ⟨v1, H, I.kept hk, rr, q _ H .refl rp⟩
  · exact fun q => q.elim
theorem call_min' (t : Tie X C) : CallR X (.builtin "min") (opN C fMin) := by
  intro pins s σ H xs us Q I r q
  obtain ⟨S, ds, sN, l, q⟩ := q
  have hroom := t.room
  revert q
  unfold fMin
  split
  · intro q
    obtain ⟨x, y, rfl, l1, l2⟩ := l.two
    have e := l1.int; subst e
    have e := l2.int; subst e
    exact call_min2 t.calm pins s σ H _ us Q I r ⟨_, _, rfl, opQ_val q rfl fun _ _ _ _ _ => .int _⟩
  · rename_i i j k
    intro q
    obtain ⟨x, y, z, rfl, l1, l2, l3⟩ := l.three
    have e := l1.int; subst e
    have e := l2.int; subst e
    have e := l3.int; subst e
    refine call_min3Nu t.calm pins s σ H _ us Q I r ⟨_, _, _, _, rfl, ?_, opQ_val q rfl fun _ _ _ _ _ => .int _⟩
    unfold nuMin3 nuMin2 nuLt
    simp only [nuCB, Option.map_some, Option.bind_some]
    by_cases h : j < i
    · simp only [h, decide_true, if_true, Option.map_some, Option.bind_some, nuCB]
      by_cases h2 : k < j <;> simp [h2]
    · simp only [h, decide_false, if_false, Bool.false_eq_true, Option.map_some, Option.bind_some, nuCB]
      by_cases h2 : k < i <;> simp [h2]
  · intro q
    obtain ⟨x, rfl, lx⟩ := l.one
    obtain ⟨a, vs, rfl, ra, pa⟩ := lx.list
    obtain ⟨hc, q⟩ := ite_some q
    obtain ⟨f, dp, al⟩ := mm_cond hc
    obtain ⟨its, n, rv, hl, hz⟩ := rd_list I ra
    obtain ⟨as, hr⟩ := reads_all t I pa rv (flat_list f)
    rw [Vals.ref1 r]
    refine PySem.W.min_list_data (I.ok.hd t.calm) (vs := its.toArray) ⟨_, hl, rfl, n, rfl⟩ (by simpa using hr) al (by omega) fun i v h' tk bs hi hr' hk => ?_
    obtain ⟨v1, rr, rp⟩ := reads_item t I pa rv (flat_list f) (by simpa using hi) hr' hk
    exact ⟨v1, H, I.kept hk, rr, q _ H .refl rp⟩
  · intro q
    obtain ⟨x, rfl, lx⟩ := l.one
    obtain ⟨a, vs, rfl, ra, pa⟩ := lx.tuple
    rw [t.K] at ra
    obtain ⟨hc, q⟩ := ite_some q
    obtain ⟨f, dp, al⟩ := mm_cond hc
    obtain ⟨its, rv, ⟨o, ho, hcl, n, hd⟩, hz⟩ := I.tuple ra
    obtain ⟨as, hr⟩ := reads_all t I pa rv (flat_tuple f)
    rw [Vals.ref1 r]
    refine PySem.W.min_tuple_data (I.ok.hd t.calm) (vs := its.toArray) ⟨o, ho, hcl, n, hd⟩ (by simpa using hr) al (by omega) fun i v h' tk bs hi hr' hk => ?_
    obtain ⟨v1, rr, rp⟩ := reads_item t I pa rv (flat_tuple f) (by simpa using hi) hr' hk
    exact ⟨v1, H, I.kept hk, rr, q _ H .refl rp⟩
  · exact fun q => q.elim
end
end DL
namespace DL
open PySem PySem.Spec PyProof.Rows L2

/-! ### functions -/
abbrev CSem := List D → Res RV
abbrev FSem := List CSem → List EV → List Int → Res (RV × List Int)

/-- the program's own: what every def of it shares -/
structure Pg where
  P : Program
  w : World
  K : PySem.W.Frag
  mg : Str → Option Value
  base : Heap
  T : List NdefX.NTab
  cls : Nat → Value
  pay : Nat → Option Addr → D → Hp → Prop

/-- what lay untouched before lies so still -/
def Und (h : Heap) (H : Hp) (h1 : Heap) (H1 : Hp) : Prop := ∀ b o, h.get? b = some o → H b = none → (∃ sl, h1.get? b = some { o with slots := sl }) ∧ H1 b = none
theorem Und.trans {h h1 h2 : Heap} {H H1 H2 : Hp} (a : Und h H h1 H1) (b : Und h1 H1 h2 H2) : Und h H h2 H2 := fun c o e n => by
  obtain ⟨⟨sl, e1⟩, n1⟩ := a c o e n
  obtain ⟨⟨sl', e2⟩, n2⟩ := b c _ e1 n1
  exact ⟨⟨sl', e2⟩, n2⟩
theorem Und.of {fs : List Addr} {h h1 : Heap} {H H1 : Hp} (u : Un fs [] H H1 h h1) : Und h H h1 H1 := fun b o e n => ⟨u.any e n (by simp), u.free b o e n (by simp)⟩

/-- what a function hands back -/
def RetOk (G : Pg) (H H' : Hp) (S0 : Addr → Prop) (v : V) : RV → Prop
  | .fz d => Rp G.P G.w G.K H' (fun a => S0 a ∨ H a = none) v d
  | .ow d => ∃ p, v = .ref p ∧ Own G.P G.w G.K H' (fun a => (S0 a ∨ H a = none) ∧ a ≠ p) p d ∧ H p = none
  | .bw _ => False

/-- a function that was handed over, at f: what it does, from the state s, H on -/
def CloOk (G : Pg) (k : Nat) (h : Heap) (H : Hp) (f : Addr) (φ : CSem) : Prop :=
  ∀ (A : Around) (outer : List Env) (s1 : Shared) (H1 : Hp) (us : List Value) (vs : List V) (ds : List D) (S0 : Addr → Prop) (Q : VK) (E : XK), Room k A → A.guards = some [] → Env0 G.P G.w G.K G.mg G.base A outer s1 H1 → Und h H s1.heap H1 →
    NdefX.TabsN G.T H1 → Vals vs us → Rps G.P G.w G.K H1 S0 vs ds →
    (match φ ds with
      | .ok r => ∀ v H', Grow none H1 H' → NdefX.TabsN G.T H' → RetOk G H1 H' S0 v r → Q v H'
      | .exc c d => ∀ H' da, Grow none H1 H' → NdefX.TabsN G.T H' → G.pay c da d H' → E (G.cls c) da H'
      | .err => False) →
    codeAny (model G.P G.w) A (.call (.ref f) ⟨us, []⟩) (CR (L2.CX G.P G.w) outer G.P G.w H1 s1 Q E) s1

/-- the arguments, as they lie -/
inductive Args (G : Pg) (H : Hp) (S0 : Addr → Prop) (fns : List Addr) : List V → List EV → Prop
  | nil : Args G H S0 fns [] []
  | dat {v : V} {d : D} {vs : List V} {es : List EV} : Rp G.P G.w G.K H S0 v d → Args G H S0 fns vs es → Args G H S0 fns (v :: vs) (.fz d :: es)
  | fn {k : Nat} {f : Addr} {vs : List V} {es : List EV} : fns[k]? = some f → Args G H S0 fns vs es → Args G H S0 fns (.ref f :: vs) (.fn k :: es)
theorem Args.length {G : Pg} {H : Hp} {S0 : Addr → Prop} {fns : List Addr} : ∀ {vs : List V} {es : List EV}, Args G H S0 fns vs es → vs.length = es.length
  | _, _, .nil => rfl
  | _, _, .dat _ r => by rw [List.length_cons, List.length_cons, Args.length r]
  | _, _, .fn _ r => by rw [List.length_cons, List.length_cons, Args.length r]
theorem Args.get {G : Pg} {H : Hp} {S0 : Addr → Prop} {fns : List Addr} : ∀ {vs : List V} {es : List EV} {i : Nat} {e : EV}, Args G H S0 fns vs es → es[i]? = some e → ∃ v, vs[i]? = some v ∧ ((∃ d, e = .fz d ∧ Rp G.P G.w G.K H S0 v d) ∨ ∃ k f, e = .fn k ∧ v = .ref f ∧ fns[k]? = some f)
  | _, _, _, _, .nil, e => by simp at e
  | _, _, 0, _, .dat h _, e => by simp at e; subst e; exact ⟨_, rfl, .inl ⟨_, rfl, h⟩⟩
  | _, _, 0, _, .fn h _, e => by simp at e; subst e; exact ⟨_, rfl, .inr ⟨_, _, rfl, rfl, h⟩⟩
  | _, _, i + 1, _, .dat _ r, e => by
    obtain ⟨v, a, b⟩ := Args.get (i := i) r (by simpa using e)
    exact ⟨v, by simpa using a, b⟩
  | _, _, i + 1, _, .fn _ r, e => by
    obtain ⟨v, a, b⟩ := Args.get (i := i) r (by simpa using e)
    exact ⟨v, by simpa using a, b⟩
/-- the functions handed over keep their words -/
inductive Holds (G : Pg) (k : Nat) (h : Heap) (H : Hp) : List CSem → List Addr → Prop
  | nil : Holds G k h H [] []
  | cons {φ : CSem} {f : Addr} {φs : List CSem} {fs : List Addr} : CloOk G k h H f φ → Holds G k h H φs fs → Holds G k h H (φ :: φs) (f :: fs)

/-- a def's promise: F of the arguments; st: its first parameter is the state's list; kc: the level of what is handed over -/
def Pr (G : Pg) (kc : Nat) (st : Bool) (F : FSem) (h : Heap) : Sp := fun vs H Q E =>
  ∃ (S0 : Addr → Prop) (args : List EV) (w : List Int) (pw : Option Addr) (Φ : List CSem) (fns : List Addr) (vs' : List V),
    (match st with | true => ∃ p, vs = .ref p :: vs' ∧ pw = some p | false => vs = vs' ∧ pw = none) ∧
    (∀ p, pw = some p → H p = some (.lst (w.map V.int)) ∧ ¬ S0 p) ∧ Args G H S0 fns vs' args ∧ Holds G kc h H Φ fns ∧ NdefX.TabsN G.T H ∧
    match F Φ args w with
    | .ok (r, w') => ∀ v H', Grow pw H H' → (∀ p, pw = some p → H' p = some (.lst (w'.map V.int))) → NdefX.TabsN G.T H' → RetOk G H H' S0 v r → Q v H'
    | .exc c d => ∀ (H' : Hp) (da : Option Addr) (w' : List Int), Grow pw H H' → (∀ p, pw = some p → H' p = some (.lst (w'.map V.int))) → NdefX.TabsN G.T H' → G.pay c da d H' → E (G.cls c) da H'
    | .err => False

structure FnD (G : Pg) (k kc : Nat) (f : Addr) (fd : FuncData) (ps : List Str) (st : Bool) (F : FSem) : Prop where
  run : ∀ (A : Around) (outer : List Env) (s : Shared) (H : Hp) (args : PySem.Args) (us : List Value) (vs : List V) (Q : VK) (E : XK), Room k A → A.guards = some [] → Env0 G.P G.w G.K G.mg G.base A outer s H → BindsTo s fd args (ps.zip us) → vs.length = ps.length → Vals vs us →
    Pr G kc st F s.heap vs H Q E → codeAny (model G.P G.w) A (.call (.ref f) args) (CR (L2.CX G.P G.w) outer G.P G.w H s Q E) s
theorem FnD.mono {G : Pg} {j k kc : Nat} {f : Addr} {fd : FuncData} {ps : List Str} {st : Bool} {F : FSem} (h : FnD G j kc f fd ps st F) (l : j ≤ k) : FnD G k kc f fd ps st F :=
  ⟨fun A outer s H args us vs Q E hr => h.run A outer s H args us vs Q E (hr.mono l)⟩

/-- the context of a def's body for the data -/
def cnOf (G : Pg) (H : Hp) (S0 : Addr → Prop) (pw : Option Addr) (fns : List Addr) : Cn where
  P := G.P
  w := G.w
  K := G.K
  H0 := H
  S0 := S0
  pw := pw
  pi := 0
  lk := []
  hid := []
  fns := fns
  T := G.T
  cls := G.cls
  pay := G.pay

/-! ### statements -/
def sT (C : Cn) (W : WX) (g : Sx) : TS := fun D σ H => ∃ ρ w S, EnvOk C ρ w S σ H ∧ match g ρ w with
  | .nx ρ' w' => ∀ σ' H' S', EnvOk C ρ' w' S' σ' H' → D.nx σ' H'
  | .bk ρ' w' => ∀ σ' H' S', EnvOk C ρ' w' S' σ' H' → D.bk σ' H'
  | .ct ρ' w' => ∀ σ' H' S', EnvOk C ρ' w' S' σ' H' → D.ct σ' H'
  | .rt r w' => ∀ v H' σ1 H1 ρ1 w1 S1, EnvOk C ρ1 w1 S1 σ1 H1 → Pst C H1 H' w' → RvOk C H1 H' S1 v r → D.rt v H'
  | .exc c d => ∀ σ' H' da ρ1 w1 S1, EnvOk C ρ1 w1 S1 σ' H' → C.pay c da d H' → W (C.cls c) da σ' H'
  | .err => False
abbrev DS (X : Cx) (C : Cn) (W : WX) (st : Stmt) (g : Sx) : Prop := PS X st (sT C W g)
abbrev DSs (X : Cx) (C : Cn) (W : WX) (st : List Stmt) (g : Sx) : Prop := PSs X st (sT C W g)

/-! ### a def by its body -/
def padN (n : Nat) (l : DEnv) : DEnv := l ++ List.replicate (n - l.length) none
def env0 (n : Nat) (st : Bool) (args : List EV) : DEnv := padN n (match st with | true => none :: args.map some | false => args.map some)
/-- what is handed back: a name's own thing goes along -/
def given : RV → RV
  | .bw d => .ow d
  | r => r
def runB (n : Nat) (st : Bool) (g : List CSem → Sx) : FSem := fun Φ args w => match g Φ (env0 n st args) w with
  | .nx _ w' => .ok (.fz .none, w')
  | .rt r w' => .ok (given r, w')
  | .exc c d => .exc c d
  | _ => .err
theorem padN_get {n : Nat} {l : DEnv} {i : Nat} {e : EV} (h : (padN n l)[i]? = some (some e)) : l[i]? = some (some e) := by
  unfold padN at h
  by_cases hi : i < l.length
  · rw [List.getElem?_append_left hi] at h; exact h
  · rw [List.getElem?_append_right (by omega), List.getElem?_replicate] at h
    split at h <;> cases h
theorem start_get {N : List Str} {vs : List V} {i : Nat} {v : V} (h : vs[i]? = some v) : (L2.start N vs)[i]? = some (some v) := by
  unfold L2.start
  have hi : i < vs.length := (List.getElem?_eq_some_iff.mp h).1
  rw [List.getElem?_append_left (by rw [List.length_map]; exact hi), List.getElem?_map, h]
  rfl
theorem entry {G : Pg} {H : Hp} {S0 : Addr → Prop} {pw : Option Addr} {fns : List Addr} {args : List EV} {w : List Int} {st : Bool} {vs vs' : List V} {N : List Str} (hv : match st with | true => ∃ p, vs = .ref p :: vs' ∧ pw = some p | false => vs = vs' ∧ pw = none)
    (hw : ∀ p, pw = some p → H p = some (.lst (w.map V.int)) ∧ ¬ S0 p) (ha : Args G H S0 fns vs' args) (ht : NdefX.TabsN G.T H) (hl : vs.length ≤ N.length) :
    EnvOk (cnOf G H S0 pw fns) (env0 N.length st args) w (fun a => (S0 a ∨ H a = none) ∧ pw ≠ some a) (L2.start N vs) H := by
  have la := ha.length
  have noow : ∀ (i : Nat) (d : D), (env0 N.length st args)[i]? ≠ some (some (.ow d)) := by
    intro i d h
    have h := padN_get h
    have aux : ∀ j : Nat, (args.map some)[j]? = some (some (EV.ow d)) → False := fun j h => by
      rw [List.getElem?_map] at h
      cases e : args[j]? with
      | none => rw [e] at h; cases h
      | some x =>
        rw [e] at h; cases h
        obtain ⟨v, _, q⟩ := ha.get e
        rcases q with ⟨d', z, _⟩ | ⟨k, f, z, _⟩ <;> cases z
    cases st with
    | false => exact aux i h
    | true =>
      cases i with
      | zero => simp at h
      | succ j => exact aux j (by simpa using h)
  have rd : ∀ v d, Rp G.P G.w G.K H S0 v d → Rp G.P G.w G.K H (fun a => (S0 a ∨ H a = none) ∧ pw ≠ some a) v d := fun v d r =>
    r.mono .refl fun a s => ⟨.inl s, fun e => (hw a e).2 s⟩
  have one : ∀ (j : Nat) (e : EV), (args.map some)[j]? = some (some e) → ∃ v, vs'[j]? = some v ∧ EvOk (cnOf G H S0 pw fns) H (fun a => (S0 a ∨ H a = none) ∧ pw ≠ some a) v e := fun j e h => by
    rw [List.getElem?_map] at h
    cases e1 : args[j]? with
    | none => rw [e1] at h; cases h
    | some x =>
      rw [e1] at h; cases h
      obtain ⟨v, hv, q⟩ := ha.get e1
      refine ⟨v, hv, ?_⟩
      rcases q with ⟨d', rfl, r⟩ | ⟨k, f, rfl, rfl, hf⟩
      · exact rd _ _ r
      · exact ⟨f, rfl, hf⟩
  refine ⟨?_, fun i e h => ?_, fun i j d e p h => absurd h (noow i d), fun a h => ⟨.inr h, fun e => ?_⟩, fun a h => h.1, fun p e => (hw p e).1, fun p e h => h.2 e, fun a o h n q => ⟨fun _ => h, fun z => absurd (show a ∈ ([] : List Addr) from z) (by simp)⟩, fun a h => h, ht, fun p e => ?_, fun v d m => absurd (show (v, d) ∈ ([] : List (V × D)) from m) (by simp)⟩
  · unfold L2.start env0 padN
    cases st with
    | true =>
      obtain ⟨p, rfl, _⟩ := hv
      simp only [List.length_append, List.length_map, List.length_replicate, List.length_cons] at *
      omega
    | false =>
      obtain ⟨rfl, _⟩ := hv
      simp only [List.length_append, List.length_map, List.length_replicate] at *
      omega
  · have h := padN_get h
    cases st with
    | false =>
      obtain ⟨rfl, _⟩ := hv
      obtain ⟨v, h1, h2⟩ := one i e h
      exact ⟨v, start_get h1, h2⟩
    | true =>
      obtain ⟨p, rfl, _⟩ := hv
      cases i with
      | zero => simp at h
      | succ j =>
        obtain ⟨v, h1, h2⟩ := one j e (by simpa using h)
        exact ⟨v, start_get (by simpa using h1), h2⟩
  · have := (hw a e).1
    rw [h] at this; cases this
  · cases st with
    | false =>
      obtain ⟨_, hp⟩ := hv
      have e : pw = some p := e
      rw [hp] at e; cases e
    | true =>
      obtain ⟨p', rfl, hp⟩ := hv
      have e : pw = some p := e
      rw [hp] at e; cases e
      refine ⟨start_get rfl, ?_⟩
      show (env0 N.length true args)[0]? = _
      unfold env0 padN
      rfl
theorem fnd_of {G : Pg} {k kc : Nat} {x qual : Str} {params : Arguments} {body : List Stmt} {scope : Scope} {dvs : List V} {kws : List (Str × V)} {f : Addr} {fd : FuncData} {N ps : List Str} {st : Bool} (F : FunD G.K x qual params body scope dvs kws f fd) (S : FnScope N ps scope) (g : List CSem → Sx)
    (hbody : ∀ (cdv : Value) (A : Around) (outer : List Env) (s : Shared) (H : Hp) (E : XK) (S0 : Addr → Prop) (pw : Option Addr) (fns : List Addr) (Φ : List CSem), Room k (A.deeper (envOfC qual scope s.heap.objs.size f cdv)) → A.guards = some [] → Holds G kc s.heap H Φ fns → (st = true → ∃ p, pw = some p) → (st = false → pw = none) →
      DSs (cxOf (L2.CX G.P G.w) G.P G.w G.K G.mg G.base N qual scope f cdv A outer s H E) (cnOf G H S0 pw fns) (fun cls d _ H => E cls d H) body (g Φ)) :
    FnD G (k + 1) kc f fd ps st (runB N.length st g) := by
  refine ⟨fun A outer s H args us vs Q E hr hg e0 hb hl r pr => ?_⟩
  obtain ⟨oc, od, dV, kV, doc, pm, an, cdv, ct, osl, rfl, lk, hcd, _, _⟩ := F.ex
  obtain ⟨S0, as, w, pw, Φ, fns, vs', hv, hw, ha, hh, ht, q⟩ := pr
  refine LamX.run_ofS lk hcd S hr e0 hb r hl fun hr' => ⟨_, hbody cdv A outer s H E S0 pw fns Φ hr' hg hh (fun e => ?_) fun e => ?_, ?_⟩
  · subst e
    obtain ⟨p, _, hp⟩ := hv
    exact ⟨p, hp⟩
  · subst e
    exact hv.2
  have hN : ps.length ≤ N.length := by
    have := congrArg List.length S.pre
    rw [List.length_take] at this
    omega
  have E0 := entry (N := N) hv hw ha ht (by omega)
  refine ⟨_, w, _, E0, ?_⟩
  revert q
  unfold runB
  cases g Φ (env0 N.length st as) w with
  | nx ρ' w' =>
    intro q σ' H' S' E'
    refine q .non H' ⟨fun a o h n p => ((E'.gk a o h n p).1 (by simp [cnOf])), E'.gn⟩ E'.st E'.tb ?_
    exact Rp.non
  | rt r w' =>
    intro q v H' σ1 H1 ρ1 w1 S1 E1 p1 rv
    have g01 : Grow pw H H1 := ⟨fun a o h n p => ((E1.gk a o h n p).1 (by simp [cnOf])), E1.gn⟩
    refine q v H' (g01.trans p1.g) p1.st p1.tb ?_
    have sb : ∀ a, S1 a → S0 a ∨ H a = none := fun a h => E1.sB a h
    cases r with
    | fz d => exact Rp.mono .refl sb rv
    | ow d =>
      obtain ⟨p, e, o, n⟩ := rv
      exact ⟨p, e, o.mono fun a z => ⟨sb a z.1, z.2⟩, E1.gn p n⟩
    | bw d =>
      obtain ⟨p, e, o, _, n, ns⟩ := rv
      exact ⟨p, e, o.mono fun a z => ⟨sb a z, fun q => ns (q ▸ z)⟩, n⟩
  | exc c d =>
    intro q σ' H' da ρ1 w1 S1 E1 hp
    exact q H' da w1 ⟨fun a o h n p => ((E1.gk a o h n p).1 (by simp [cnOf])), E1.gn⟩ E1.st E1.tb hp
  | bk ρ' w' => exact fun q => q.elim
  | ct ρ' w' => exact fun q => q.elim
  | err => exact fun q => q.elim
end DL
namespace DL
open PySem PySem.Spec PyProof.Rows L2

/-- the running context is the program's -/
structure Own1 (X : Cx) (G : Pg) (C : Cn) : Prop where
  t : Tie X C
  P : G.P = X.prog
  w : G.w = X.w
  K : G.K = X.K
  mg : G.mg = X.mg
  base : G.base = X.base
  T : C.T = G.T
  cls : C.cls = G.cls
  pay : C.pay = G.pay

/-- data that has no list and no dict but at its top -/
def indep : RV → Bool
  | .fz d => pure? d
  | .ow (.list ds) => pures? ds
  | .ow (.dict kvs) => kvs.all fun p => pure? p.2
  | _ => false
def frz : RV → EV := fun r => .fz r.d
theorem keyD_pure : ∀ k : NestedKey, pure? (keyD k) = true := by
  intro k
  have aux : (∀ k : NestedKey, pure? (keyD k) = true) ∧ (∀ ks : List NestedKey, pures? (keyDs ks) = true) := by
    constructor
    · intro k
      induction k using NestedKey.rec (motive_2 := fun ks => pures? (keyDs ks) = true) with
      | none => rfl
      | num i => rfl
      | text x => rfl
      | tup ks ih => unfold keyD pure?; exact ih
      | nil => rfl
      | cons k ks h1 h2 => unfold keyDs pures?; rw [h1, h2]; rfl
    · intro ks
      induction ks using NestedKey.rec_1 (motive_1 := fun k => pure? (keyD k) = true) with
      | none => rfl
      | num i => rfl
      | text x => rfl
      | tup ks ih => unfold keyD pure?; exact ih
      | nil => rfl
      | cons k ks h1 h2 => unfold keyDs pures?; rw [h1, h2]; rfl
  exact aux.1 k
theorem rpk_pure {P : Program} {w : World} {K : PySem.W.Frag} {H : Hp} {S S' : Addr → Prop} : ∀ {xs : List (NestedKey × Addr × V)} {kvs : List (D × D)}, Rpk P w K H S xs kvs → (kvs.all fun p => pure? p.2) = true → Rpk P w K H S' xs kvs
  | _, _, .nil, _ => .nil
  | _, _, .cons h n h' r, e => by
    rw [List.all_cons] at e
    have e := Bool.and_eq_true_iff.mp e
    exact .cons (h.pure (keyD_pure _)) n (h'.pure e.1) (rpk_pure r e.2)
theorem ret_rv {G : Pg} {C : Cn} {H H' : Hp} {S0 S : Addr → Prop} {v : V} {r : RV} (hP : C.P = G.P) (hw : C.w = G.w) (hK : C.K = G.K) (h : RetOk G H H' S0 v r) (i : (∀ a, S0 a ∨ H a = none → S a) ∨ indep r = true) : RvOk C H H' S v r := by
  unfold RvOk
  rw [hP, hw, hK]
  cases r with
  | fz d =>
    rcases i with i | i
    · exact Rp.mono .refl i h
    · exact Rp.pure h i
  | ow d =>
    obtain ⟨p, e, o, n⟩ := h
    refine ⟨p, e, ?_, n⟩
    rcases i with i | i
    · exact o.mono fun a z => ⟨i a z.1, z.2⟩
    · cases o with
      | lst h r => exact .lst h (r.pure i)
      | dct h r => exact .dct h (rpk_pure r i)
  | bw d => exact h.elim
/-- the arguments of a call: where they may stand -/
theorem args_of {G : Pg} {C : Cn} {fns : List Addr} {H H' : Hp} {S : Addr → Prop} {ρ : DEnv} {w : List Int} {σ : L2.St} (hP : C.P = G.P) (hw : C.w = G.w) (hK : C.K = G.K) (E : EnvOk C ρ w S σ H) : ∀ {vs : List V} {rs : List RV}, RvsOk C H H' S vs rs → Args G H' (fun a => if noBw rs = true then S a else C.pw ≠ some a) fns vs (rs.map frz) := by
  have aux : ∀ (S1 : Addr → Prop) {vs : List V} {rs : List RV}, RvsOk C H H' S vs rs → (∀ v r, RvOk C H H' S v r → r ∈ rs → Rp C.P C.w C.K H' S1 v r.d) → Args G H' S1 fns vs (rs.map frz) := by
    intro S1 vs rs r
    induction r with
    | nil => intro _; exact .nil
    | cons h r ih =>
      intro hh
      refine .dat ?_ (ih fun v r' h' m => hh v r' h' (List.mem_cons_of_mem _ m))
      have := hh _ _ h List.mem_cons_self
      rw [hP, hw, hK] at this
      exact this
  intro vs rs r
  cases e : noBw rs with
  | true =>
    simp only [if_true]
    refine aux _ r fun v x h m => h.rp E fun d z => ?_
    subst z
    clear r
    induction rs with
    | nil => cases m
    | cons a l ih =>
      cases a with
      | bw d' => cases e
      | fz d' => exact ih e (by rcases List.mem_cons.mp m with z | z; cases z; exact z)
      | ow d' => exact ih e (by rcases List.mem_cons.mp m with z | z; cases z; exact z)
  | false =>
    simp only [Bool.false_eq_true, if_false]
    refine aux _ r fun v x h m => ?_
    cases x with
    | fz d => exact Rp.mono .refl (fun a s z => E.sW a z s) h
    | ow d =>
      obtain ⟨p, e1, o, n⟩ := h
      subst e1
      refine o.rp (fun a s z => E.sW a z s.1) fun z => ?_
      have := E.st p z
      rw [n] at this; cases this
    | bw d =>
      obtain ⟨p, e1, o, n, _⟩ := h
      subst e1
      exact o.rp (fun a s z => E.sW a z s) n

/-- what a call gives: its value, unless it may be someone's own -/
def outR (rs : List RV) (R : Res (RV × List Int)) (w : List Int) : Res (RV × List Int) := match R with
  | .ok (r, _) => if noBw rs || indep r then .ok (r, w) else .err
  | .exc c d => .exc c d
  | .err => .err
def outS (rs : List RV) (R : Res (RV × List Int)) : Res (RV × List Int) := match R with
  | .ok (r, w') => if noBw rs || indep r then .ok (r, w') else .err
  | .exc c d => .exc c d
  | .err => .err
section
variable {X : Cx} {G : Pg} {C : Cn} {W : WX} {k kc : Nat} {f : Addr} {fd : FuncData} {ps : List Str} {F : FSem} {ρ : DEnv} {w : List Int} {S : Addr → Prop} {σ : L2.St} {H H1 : Hp} {s : Shared} {pins : List (Addr × Obj)} {rs : List RV} {vs : List V} {us : List Value} {args : PySem.Args} {Q : VK}
theorem run_core {st : Bool} {kw : List (Str × Value)} (o : Own1 X G C) (tk : Takes X W) (Fn : FnD G k kc f fd ps st F) (hr : Room k X.A) (I : Inv X pins σ H1 s) (hb : BindsTo s fd ⟨us, kw⟩ (ps.zip us')) (hl : vs.length = ps.length) (r : Vals vs us')
    (pr : Pr G kc st F s.heap vs H1 Q fun cls da H' => W cls da σ H') : wpAny (model X.prog X.w) X.A (call (.ref f) us kw) (EP X pins σ Q) X.xe s := by
  have e0 := I.env0
  have run := Fn.run X.A X.stack s H1 ⟨us, kw⟩ us' vs Q (fun cls da H' => W cls da σ H') hr o.t.gd
  rw [o.P, o.w, o.K, o.mg, o.base] at run
  refine wpAny_call (codeAny_mono (run e0 hb hl r pr) fun r s' hq => ?_)
  cases r with
  | error e => exact tk e s' (XE.of_call I (fun _ _ _ h => h) hq)
  | ok fl =>
    cases fl with
    | ret u => exact I.after hq
    | next => exact False.elim hq
    | brk => exact False.elim hq
    | cont => exact False.elim hq
theorem grow_none {H1 H' : Hp} (g : Grow none H1 H') : Grow C.pw H1 H' := ⟨fun a o h n _ => g.keep a o h n (fun z => by cases z), g.nn⟩
theorem st_none {w : List Int} {H1 H' : Hp} (g : Grow none H1 H') (st : StOk C w H1) : StOk C w H' := fun p e => g.keep _ _ (st p e) (fun _ z => nomatch z) (fun z => by cases z)
def CallEnd (C : Cn) (W : WX) (σ : L2.St) (H : Hp) (rs : List RV) (P : RV → List Int → Prop) : Res (RV × List Int) → Prop
  | .ok (r, w') => (noBw rs = true ∨ indep r = true) ∧ P r w'
  | .exc c d => ExOk C H c d W σ
  | .err => False
theorem Good.ret {R : Res (RV × List Int)} {H : Hp} {P : RV × List Int → Prop} (h : Good C W σ H (outR rs R w) P) : CallEnd C W σ H rs (fun r _ => P (r, w)) R := by
  cases R with
  | ok p =>
    obtain ⟨r, w1⟩ := p
    have h : Good C W σ H (if (noBw rs || indep r) = true then Res.ok (r, w) else Res.err) P := h
    split at h
    · rename_i hh
      exact ⟨Bool.or_eq_true_iff.mp hh, h⟩
    · exact False.elim h
  | exc c d => exact h
  | err => exact h
theorem Good.retS {R : Res (RV × List Int)} {H : Hp} {P : RV × List Int → Prop} (h : Good C W σ H (outS rs R) P) : CallEnd C W σ H rs (fun r w' => P (r, w')) R := by
  cases R with
  | ok p =>
    obtain ⟨r, w1⟩ := p
    have h : Good C W σ H (if (noBw rs || indep r) = true then Res.ok (r, w1) else Res.err) P := h
    split at h
    · rename_i hh
      exact ⟨Bool.or_eq_true_iff.mp hh, h⟩
    · exact False.elim h
  | exc c d => exact h
  | err => exact h
theorem sub_S (E : EnvOk C ρ w S σ H) (g : Grow C.pw H H1) (h : noBw rs = true ∨ indep r' = true) : (∀ a, (if noBw rs = true then S a else C.pw ≠ some a) ∨ H1 a = none → S a) ∨ indep r' = true := by
  rcases h with h | h
  · refine .inl fun a z => ?_
    rw [if_pos h] at z
    rcases z with z | z
    · exact z
    · exact E.sN a (g.nn a z)
  · exact .inr h
/-- the callee runs: E the state ahead of the arguments, I where they have been reckoned -/
theorem run_fnD {kw : List (Str × Value)} (o : Own1 X G C) (tk : Takes X W) (Fn : FnD G k kc f fd ps false F) (hr : Room k X.A) (E : EnvOk C ρ w0 S σ H) (p1 : Pst C H H1 w) (I : Inv X pins σ H1 s) (rv : RvsOk C H H1 S vs rs) (hb : BindsTo s fd ⟨us, kw⟩ (ps.zip us')) (hl : rs.length = ps.length) (r : Vals vs us')
    (h : Good C W σ H (outR rs (F [] (rs.map frz) []) w) fun p => ∀ v H', Pst C H H' p.2 → RvOk C H H' S v p.1 → Q v H') : wpAny (model X.prog X.w) X.A (call (.ref f) us kw) (EP X pins σ Q) X.xe s := by
  have hP : C.P = G.P := o.t.P.trans o.P.symm
  have hw : C.w = G.w := o.t.w.trans o.w.symm
  have hK : C.K = G.K := o.t.K.trans o.K.symm
  refine run_core o tk Fn hr I hb (by rw [rv.length]; exact hl) r ?_
  refine ⟨_, rs.map frz, [], none, [], [], vs, ⟨rfl, rfl⟩, (fun p e => by cases e), args_of hP hw hK E rv, Holds.nil, by rw [← o.T]; exact p1.tb, ?_⟩
  have h := h.ret
  revert h
  cases F [] (rs.map frz) [] with
  | ok p =>
    obtain ⟨r', w'⟩ := p
    intro ⟨hi, h⟩ v H' g _ tb ret
    refine h v H' (p1.trans ⟨grow_none g, st_none g p1.st, by rw [o.T]; exact tb⟩) ?_
    exact (ret_rv hP hw hK ret (sub_S E p1.g hi)).back p1.g
  | exc c d =>
    intro h H' da w' g _ tb hp
    have := h H' da w (p1.g.trans (grow_none g)) (st_none g p1.st) (by rw [o.T]; exact tb) (by rw [o.pay]; exact hp)
    rw [o.cls] at this
    exact this
  | err => exact fun h => h
/-- a call that gets the state's list -/
theorem run_fnS {kw : List (Str × Value)} {p : Addr} (o : Own1 X G C) (tk : Takes X W) (Fn : FnD G k kc f fd ps true F) (hr : Room k X.A) (hp : C.pw = some p) (E : EnvOk C ρ w0 S σ H) (p1 : Pst C H H1 w) (I : Inv X pins σ H1 s) (rv : RvsOk C H H1 S vs rs) (hb : BindsTo s fd ⟨us, kw⟩ (ps.zip us')) (hl : rs.length + 1 = ps.length) (r : Vals (.ref p :: vs) us')
    (h : Good C W σ H (outS rs (F [] (rs.map frz) w)) fun p => ∀ v H', Pst C H H' p.2 → RvOk C H H' S v p.1 → Q v H') : wpAny (model X.prog X.w) X.A (call (.ref f) us kw) (EP X pins σ Q) X.xe s := by
  have hP : C.P = G.P := o.t.P.trans o.P.symm
  have hw : C.w = G.w := o.t.w.trans o.w.symm
  have hK : C.K = G.K := o.t.K.trans o.K.symm
  refine run_core o tk Fn hr I hb (by rw [List.length_cons, rv.length]; exact hl) r ?_
  refine ⟨_, rs.map frz, w, some p, [], [], vs, ⟨p, rfl, rfl⟩, fun q e => ?_, args_of hP hw hK E rv, Holds.nil, by rw [← o.T]; exact p1.tb, ?_⟩
  · cases e
    refine ⟨p1.st p hp, fun z => ?_⟩
    split at z
    · exact E.sW p hp z
    · exact z hp
  have h := h.retS
  revert h
  cases F [] (rs.map frz) w with
  | ok z =>
    obtain ⟨r', w'⟩ := z
    intro ⟨hi, h⟩ v H' g st tb ret
    rw [← hp] at g
    refine h v H' (p1.trans ⟨g, fun q e => st q (by rw [hp] at e; exact e), by rw [o.T]; exact tb⟩) ?_
    exact (ret_rv hP hw hK ret (sub_S E p1.g hi)).back p1.g
  | exc c d =>
    intro h H' da w' g st tb hp'
    rw [← hp] at g
    have := h H' da w' (p1.g.trans g) (fun q e => st q (by rw [hp] at e; exact e)) (by rw [o.T]; exact tb) (by rw [o.pay]; exact hp')
    rw [o.cls] at this
    exact this
  | err => exact fun h => h

/-- f(..) -/
def eFn (n : Nat) (F : FSem) (f : Ax) : Ex := fun ρ w => (f ρ w).bind fun p => if p.1.length == n then outR p.1 (F [] (p.1.map frz) []) p.2 else .err
def eFnS (n : Nat) (F : FSem) (f : Ax) : Ex := fun ρ w => (f ρ w).bind fun p => if p.1.length + 1 == n then outS p.1 (F [] (p.1.map frz) p.2) else .err
theorem de_fn {x : Str} {p pos : Pos} {e : Expr} {es : List Expr} {af : Ax} (o : Own1 X G C) (tk : Takes X W) (Fn : FnD G k kc f fd ps false F) (hr : Room k X.A) (hg : Gl X x) (hm : X.mg x = some (.ref f)) (hk : PySem.W.keepIn X.K (.ref f) = true) (hb : Binds X.K fd ps []) (ha : DA X C W (e :: es) af)
    (hdb : (x == ("__debug__" : Str)) = false := by decide) (he : starEach (e :: es) X.env = (false, eval e X.env) :: starEach es X.env := by rfl) (hpl : (backTo pos (starEach es X.env)).any (·.1) = false := by rfl) : DE X C W (.Call (.Name x p) (e :: es) [] pos) (eFn ps.length F af) := by
  refine ⟨fun pins s σ H Q I h => ?_⟩
  obtain ⟨ρ, w, S, E, h⟩ := eT_to h
  unfold eFn at h
  refine wpAny_Call_Name_kw (ld_glob I hg hm ?_ hdb)
  refine PySem.W.callWith_K (h₀ := X.base) I.ok.mod.kin hk (thn (ha.run pos pins s σ H (fun vs H1 => ∃ rs w1, Pst C H H1 w1 ∧ RvsOk C H H1 S vs rs ∧ Good C W σ H (if rs.length == ps.length then outR rs (F [] (rs.map frz) []) w1 else .err) fun p => ∀ v H', Pst C H H' p.2 → RvOk C H H' S v p.1 → Q v H') I (aT_of E E.rf (h.bind.imp fun q hq vs H1 p1 r1 => ⟨_, _, p1, r1, hq⟩))) fun us s1 ⟨vs, H1, I1, r, rs, w1, p1, r1, q⟩ => ⟨I1.kIn, ?_⟩) he hpl
  split at q
  · rename_i hl
    have hl := beq_iff_eq.mp hl
    have hb' := hb s1 us I1.kIn (by rw [List.append_nil, ← r.length, r1.length]; exact hl)
    rw [List.append_nil] at hb'
    exact run_fnD o tk Fn hr E p1 I1 r1 hb' hl r q
  · exact q.elim
/-- f(well, ..) -/
theorem de_fnS {x y : Str} {i : Nat} {p pos py : Pos} {es : List Expr} {af : Ax} (o : Own1 X G C) (tk : Takes X W) (hp : ∃ p, C.pw = some p) (Fn : FnD G k kc f fd ps true F) (hr : Room k X.A) (hg : Gl X x) (hm : X.mg x = some (.ref f)) (hk : PySem.W.keepIn X.K (.ref f) = true) (hb : Binds X.K fd ps []) (hi : C.pi = i) (hN : X.N[i]? = some y) (hv : Vis X.env.scope y) (ha : DA X C W es af)
    (hdb : (x == ("__debug__" : Str)) = false := by decide) (hd : (y == ("__debug__" : Str)) = false := by decide) (hcd : (y == ("__classdict__" : Str)) = false := by decide)
    (he : starEach (.Name y py :: es) X.env = (false, eval (.Name y py) X.env) :: starEach es X.env := by rfl) (hpl : (backTo pos (starEach es X.env)).any (·.1) = false := by rfl) : DE X C W (.Call (.Name x p) (.Name y py :: es) [] pos) (eFnS ps.length F af) := by
  refine ⟨fun pins s σ H Q I h => ?_⟩
  obtain ⟨ρ, w, S, E, h⟩ := eT_to h
  unfold eFnS at h
  obtain ⟨pw, hpw⟩ := hp
  refine wpAny_Call_Name_kw (ld_glob I hg hm ?_ hdb)
  have pa := pa_cons (pe_var (pos := py) hN hv hd hcd) ha he
  refine PySem.W.callWith_K (h₀ := X.base) I.ok.mod.kin hk (thn (pa.run pos pins s σ H (fun vs H1 => ∃ vs' rs w1, vs = .ref pw :: vs' ∧ Pst C H H1 w1 ∧ RvsOk C H H1 S vs' rs ∧ Good C W σ H (if rs.length + 1 == ps.length then outS rs (F [] (rs.map frz) w1) else .err) fun p => ∀ v H', Pst C H H' p.2 → RvOk C H H' S v p.1 → Q v H') I ?_) fun us s1 ⟨vs, H1, I1, r, vs', rs, w1, ev, p1, r1, q⟩ => ⟨I1.kIn, ?_⟩) he hpl
  · refine ⟨.ref pw, by rw [← hi]; exact (E.sl pw hpw).1, ?_⟩
    exact aT_of E E.rf (h.bind.imp fun q hq vs H1 p1 r1 => ⟨_, _, _, rfl, p1, r1, hq⟩)
  subst ev
  split at q
  · rename_i hl
    have hl := beq_iff_eq.mp hl
    have hb' := hb s1 us I1.kIn (by rw [List.append_nil, ← r.length, List.length_cons, r1.length]; exact hl)
    rw [List.append_nil] at hb'
    exact run_fnS o tk Fn hr hpw E p1 I1 r1 hb' hl r q
  · exact q.elim
end
end DL
namespace DL
open PySem PySem.Spec PyProof.Rows L2

/-! ### storing at a name -/
section
variable {C : Cn} {ρ : DEnv} {w w' : List Int} {S : Addr → Prop} {σ : L2.St} {H H' : Hp} {i : Nat} {v : V} {d : D}
theorem get_set {α : Type} {l : List α} {i j : Nat} {x y : α} (h : (l.set i x)[j]? = some y) : (j = i ∧ y = x) ∨ (j ≠ i ∧ l[j]? = some y) := by
  by_cases e : j = i
  · subst e
    left
    have hj : j < (l.set j x).length := (List.getElem?_eq_some_iff.mp h).1
    rw [List.length_set] at hj
    rw [List.getElem?_set_self hj] at h
    exact ⟨rfl, (Option.some.inj h).symm⟩
  · exact .inr ⟨e, by rwa [List.getElem?_set_ne (Ne.symm e)] at h⟩
/-- a value that stays -/
theorem EnvOk.setF (E : EnvOk C ρ w S σ H) (hi : C.pw = none ∨ i ≠ C.pi) (r : Rp C.P C.w C.K H S v d) : EnvOk C (ρ.set i (some (.fz d))) w S (σ.set i (some v)) H where
  len := by rw [List.length_set, List.length_set]; exact E.len
  val := fun j e h => by
    rcases get_set h with ⟨rfl, h2⟩ | ⟨hj, h2⟩
    · cases h2
      have hj : j < (ρ.set j (some (.fz d))).length := (List.getElem?_eq_some_iff.mp h).1
      rw [List.length_set] at hj
      exact ⟨v, List.getElem?_set_self (by rw [E.len]; exact hj), r⟩
    · obtain ⟨u, a, b⟩ := E.val j e h2
      exact ⟨u, by rw [List.getElem?_set_ne (Ne.symm hj)]; exact a, b⟩
  apart := fun j k d1 d2 p h1 h2 s1 s2 => by
    rcases get_set h1 with ⟨rfl, z⟩ | ⟨hj, h1⟩
    · cases z
    rcases get_set h2 with ⟨rfl, z⟩ | ⟨hk, h2⟩
    · cases z
    rw [List.getElem?_set_ne (Ne.symm hj)] at s1
    rw [List.getElem?_set_ne (Ne.symm hk)] at s2
    exact E.apart j k d1 d2 p h1 h2 s1 s2
  sN := E.sN
  sB := E.sB
  st := E.st
  sW := E.sW
  gk := E.gk
  gn := E.gn
  tb := E.tb
  sl := fun p e => by
    have hne : i ≠ C.pi := hi.elim (fun z => by rw [z] at e; cases e) id
    rw [List.getElem?_set_ne hne, List.getElem?_set_ne hne]
    exact E.sl p e
  hi := E.hi
/-- a new thing of one's own: E0 the state ahead of its making -/
theorem EnvOk.setO {H0 : Hp} {p : Addr} (E0 : EnvOk C ρ w' S σ H0) (g : Pst C H0 H w) (hi : C.pw = none ∨ i ≠ C.pi) (self : Own C.P C.w C.K H (fun a => S a ∧ a ≠ p) p d) (hn : H0 p = none) : EnvOk C (ρ.set i (some (.ow d))) w (fun a => S a ∧ a ≠ p) (σ.set i (some (.ref p))) H := by
  have E := E0.go g
  have k0 := E0.kept g.g
  have pne : C.pw ≠ some p := fun z => by have := E0.st p z; rw [hn] at this; cases this
  have mv : ∀ {u : V} {z : D}, Rp C.P C.w C.K H0 S u z → Rp C.P C.w C.K H (fun a => S a ∧ a ≠ p) u z := fun r => by
    have r1 := r.avoid hn
    exact r1.mono ⟨fun a vs h => k0.tup a vs h, fun a vs s h => k0.lst a vs s.1 h, fun P w a xs s h => k0.dct P w a xs s.1 h⟩ fun _ z => z
  have ownmv : ∀ {q : Addr} {z : D}, Own C.P C.w C.K H0 S q z → C.pw ≠ some q → Own C.P C.w C.K H (fun a => S a ∧ a ≠ p) q z := fun {q z} o hq => by
    cases o with
    | lst e r =>
      refine .lst (g.g.keep _ _ e (fun _ z => nomatch z) hq) ?_
      exact (r.avoid hn).mono ⟨fun a vs h => k0.tup a vs h, fun a vs s h => k0.lst a vs s.1 h, fun P w a xs s h => k0.dct P w a xs s.1 h⟩ fun _ z => z
    | dct e r =>
      refine .dct (g.g.keep _ _ e (fun ps => DN_tbl ps) hq) ?_
      exact (r.avoid hn).mono ⟨fun a vs h => k0.tup a vs h, fun a vs s h => k0.lst a vs s.1 h, fun P w a xs s h => k0.dct P w a xs s.1 h⟩ fun _ z => z
  have hp0 : C.H0 p = none := E0.gn p hn
  exact {
    len := by rw [List.length_set, List.length_set]; exact E.len
    val := fun j e h => by
      rcases get_set h with ⟨rfl, h2⟩ | ⟨hj, h2⟩
      · cases h2
        have hj : j < (ρ.set j (some (.ow d))).length := (List.getElem?_eq_some_iff.mp h).1
        rw [List.length_set] at hj
        exact ⟨_, List.getElem?_set_self (by rw [E.len]; exact hj), p, rfl, self, hp0, fun z => z.2 rfl, pne⟩
      · obtain ⟨u, a, b⟩ := E0.val j e h2
        refine ⟨u, by rw [List.getElem?_set_ne (Ne.symm hj)]; exact a, ?_⟩
        cases e with
        | fz d => exact mv b
        | ow d =>
          obtain ⟨q, e, o, n, s, z⟩ := b
          exact ⟨q, e, ownmv o z, n, fun y => s y.1, z⟩
        | fn k => exact b
    apart := fun j k d1 d2 q h1 h2 s1 s2 => by
      have old : ∀ (j : Nat) (d1 : D) (q : Addr), ρ[j]? = some (some (.ow d1)) → σ[j]? = some (some (.ref q)) → q ≠ p := fun j d1 q h s z => by
        obtain ⟨u, a, q', e, o, n, s', zz⟩ := E0.val j _ h
        rw [s] at a; cases a
        cases e
        exact o.ne (by rw [z]; exact hn)
      rcases get_set h1 with ⟨rfl, z⟩ | ⟨hj, g1⟩ <;> rcases get_set h2 with ⟨rfl, z2⟩ | ⟨hk, g2⟩
      · rfl
      · rw [List.getElem?_set_ne (Ne.symm hk)] at s2
        rcases get_set s1 with ⟨_, z3⟩ | ⟨hh, _⟩
        · cases z3; exact absurd rfl (old k d2 _ g2 s2)
        · exact absurd rfl hh
      · rw [List.getElem?_set_ne (Ne.symm hj)] at s1
        rcases get_set s2 with ⟨_, z3⟩ | ⟨hh, _⟩
        · cases z3; exact absurd rfl (old j d1 _ g1 s1)
        · exact absurd rfl hh
      · rw [List.getElem?_set_ne (Ne.symm hj)] at s1
        rw [List.getElem?_set_ne (Ne.symm hk)] at s2
        exact E.apart j k d1 d2 q g1 g2 s1 s2
    sN := fun a h => ⟨E.sN a h, fun z => by subst z; exact self.ne h⟩
    sB := fun a h => E.sB a h.1
    st := E.st
    sW := fun q e z => E.sW q e z.1
    gk := E.gk
    gn := E.gn
    tb := E.tb
    sl := fun q e => by
      have hne : i ≠ C.pi := hi.elim (fun z => by rw [z] at e; cases e) id
      rw [List.getElem?_set_ne hne, List.getElem?_set_ne hne]
      exact E.sl q e
    hi := fun v d m => mv (E0.hi v d m) }

/-- a loop's hidden things -/
def Cn.hide (C : Cn) (l : List (V × D)) : Cn := { C with hid := l ++ C.hid }
theorem EnvOk.hide {l : List (V × D)} (E : EnvOk C ρ w S σ H) (h : ∀ v d, (v, d) ∈ l → Rp C.P C.w C.K H S v d) : EnvOk (C.hide l) ρ w S σ H :=
  ⟨E.len, E.val, E.apart, E.sN, E.sB, E.st, E.sW, E.gk, E.gn, E.tb, E.sl, fun v d m => (List.mem_append.mp m).elim (h v d) (E.hi v d)⟩
theorem EnvOk.show {l : List (V × D)} (E : EnvOk (C.hide l) ρ w S σ H) : EnvOk C ρ w S σ H :=
  ⟨E.len, E.val, E.apart, E.sN, E.sB, E.st, E.sW, E.gk, E.gn, E.tb, E.sl, fun v d m => E.hi v d (List.mem_append.mpr (.inr m))⟩
end

/-! ### statements -/
section
variable {X : Cx} {C : Cn} {W : WX} {st : Stmt} {rest : List Stmt} {e : Expr} {f : Ex} {g h : Sx} {pos : Pos}
def sNo : Sx := fun ρ w => .nx ρ w
def sSeq (g h : Sx) : Sx := fun ρ w => match g ρ w with
  | .nx ρ' w' => h ρ' w'
  | o => o
theorem ds_nil : DSs X C W [] sNo := pss_imp pss_nil fun σ H D hq => by
  obtain ⟨ρ, w, S, E, q⟩ := hq
  exact q σ H S E
theorem ds_pass : DS X C W (.Pass pos) sNo := ps_imp ps_pass fun σ H D hq => by
  obtain ⟨ρ, w, S, E, q⟩ := hq
  exact q σ H S E
theorem ds_break : DS X C W (.Break pos) (fun ρ w => .bk ρ w) := ps_imp ps_break fun σ H D hq => by
  obtain ⟨ρ, w, S, E, q⟩ := hq
  exact q σ H S E
theorem ds_continue : DS X C W (.Continue pos) (fun ρ w => .ct ρ w) := ps_imp ps_continue fun σ H D hq => by
  obtain ⟨ρ, w, S, E, q⟩ := hq
  exact q σ H S E
theorem ds_one (h1 : DS X C W st g) : DSs X C W [st] g := pss_one h1
theorem ds_cons (h1 : DS X C W st g) (h2 : DSs X C W rest h) : DSs X C W (st :: rest) (sSeq g h) := by
  refine pss_imp (pss_cons h1 h2) fun σ H D hq => ?_
  obtain ⟨ρ, w, S, E, q⟩ := hq
  refine ⟨ρ, w, S, E, ?_⟩
  unfold sSeq at q
  revert q
  cases g ρ w with
  | nx ρ' w' => exact fun q σ' H' S' E' => ⟨ρ', w', S', E', q⟩
  | rt r w' => exact fun q => q
  | bk ρ' w' => exact fun q => q
  | ct ρ' w' => exact fun q => q
  | exc c d => exact fun q => q
  | err => exact fun q => q
/-- what an expression's end is for a statement -/
def ofR {α : Type} (R : Res α) (k : α → Out) : Out := match R with
  | .ok a => k a
  | .exc c d => .exc c d
  | .err => .err
/-- the ends of a statement -/
def OutOk (C : Cn) (W : WX) (D : Ends) : Out → Prop
  | .nx ρ' w' => ∀ σ' H' S', EnvOk C ρ' w' S' σ' H' → D.nx σ' H'
  | .bk ρ' w' => ∀ σ' H' S', EnvOk C ρ' w' S' σ' H' → D.bk σ' H'
  | .ct ρ' w' => ∀ σ' H' S', EnvOk C ρ' w' S' σ' H' → D.ct σ' H'
  | .rt r w' => ∀ v H' σ1 H1 ρ1 w1 S1, EnvOk C ρ1 w1 S1 σ1 H1 → Pst C H1 H' w' → RvOk C H1 H' S1 v r → D.rt v H'
  | .exc c d => ∀ σ' H' da ρ1 w1 S1, EnvOk C ρ1 w1 S1 σ' H' → C.pay c da d H' → W (C.cls c) da σ' H'
  | .err => False
theorem sT_of {ρ : DEnv} {w : List Int} {S : Addr → Prop} {σ : L2.St} {H : Hp} {D : Ends} (E : EnvOk C ρ w S σ H) (h : OutOk C W D (g ρ w)) : sT C W g D σ H := ⟨ρ, w, S, E, h⟩
theorem sT_to {σ : L2.St} {H : Hp} {D : Ends} (h : sT C W g D σ H) : ∃ ρ w S, EnvOk C ρ w S σ H ∧ OutOk C W D (g ρ w) := h
theorem OutOk.ofR {α : Type} {R : Res α} {k : α → Out} {D : Ends} {ρ : DEnv} {w : List Int} {S : Addr → Prop} {σ : L2.St} {H : Hp} (E : EnvOk C ρ w S σ H) (h : OutOk C W D (ofR R k)) : Good C W σ H R fun a => OutOk C W D (k a) := by
  cases R with
  | ok a => exact h
  | exc c d => exact fun H' da w' g st tb hp => h σ H' da ρ w' S (E.grow g st tb) hp
  | err => exact h
def sExpr (f : Ex) : Sx := fun ρ w => ofR (f ρ w) fun p => .nx ρ p.2
theorem ds_expr (he : DE X C W e f) (hs : swapsWith e none pos.line X.env = pure false := by rfl) : DS X C W (.Expr e pos) (sExpr f) := by
  refine ps_imp (ps_expr he hs) fun σ H D hq => ?_
  obtain ⟨ρ, w, S, E, q⟩ := sT_to hq
  exact eT_of E E.rf ((OutOk.ofR E q).imp fun p hp v H1 p1 r1 => hp σ H1 S (E.go p1))
def sRet (f : Ex) : Sx := fun ρ w => ofR (f ρ w) fun p => .rt p.1 p.2
theorem ds_ret (he : DE X C W e f) : DS X C W (.Return (some e) pos) (sRet f) := by
  refine ps_imp (ps_ret he) fun σ H D hq => ?_
  obtain ⟨ρ, w, S, E, q⟩ := sT_to hq
  exact eT_of E E.rf ((OutOk.ofR E q).imp fun p hp v H1 p1 r1 => hp v H1 σ H ρ w S E p1 r1)
def sRetN : Sx := fun _ w => .rt (.fz .none) w
theorem ds_retN : DS X C W (.Return none pos) sRetN := by
  refine ps_imp ps_retN fun σ H D hq => ?_
  obtain ⟨ρ, w, S, E, q⟩ := sT_to hq
  exact q .non H σ H ρ w S E E.rf .non
def sIf (t : Tx) (g h : Sx) : Sx := fun ρ w => ofR (t ρ w) fun p => if p.1 then g ρ p.2 else h ρ p.2
theorem ds_if {c : Expr} {a b : List Stmt} {t : Tx} (hc : DT X C W c t) (ha : DSs X C W a g) (hb : DSs X C W b h) : DS X C W (.If c a b pos) (sIf t g h) := by
  refine ps_imp (ps_if hc ha hb) fun σ H D hq => ?_
  obtain ⟨ρ, w, S, E, q⟩ := sT_to hq
  refine tT_of E E.rf ((OutOk.ofR E q).imp fun p hp H1 p1 => ?_)
  obtain ⟨k, w1⟩ := p
  cases k with
  | true => exact sT_of (E.go p1) hp
  | false => exact sT_of (E.go p1) hp
/-- never reached -/
theorem ds_never : DS X C W st (fun _ _ => .err) := ps_imp ps_never fun σ H D hq => by
  obtain ⟨ρ, w, S, E, q⟩ := hq
  exact q
/-- name = e -/
def put (i : Nat) (ρ : DEnv) : RV → Option DEnv
  | .fz d => some (ρ.set i (some (.fz d)))
  | .ow d => some (ρ.set i (some (.ow d)))
  | .bw _ => none
def sSet (i : Nat) (f : Ex) : Sx := fun ρ w => ofR (f ρ w) fun p => match put i ρ p.1 with
  | some ρ' => .nx ρ' p.2
  | none => .err
theorem go_set {i : Nat} (hi : C.pw = none ∨ i ≠ C.pi) : ∀ (σ : L2.St) (H : Hp) (D : Ends), sT C W (sSet i f) D σ H → tAsg (eT C W f) (gName i) D σ H := by
  intro σ H D hq
  obtain ⟨ρ, w, S, E, q⟩ := sT_to hq
  refine eT_of E E.rf ((OutOk.ofR E q).imp fun p hp v H1 p1 r1 => ?_)
  revert hp
  obtain ⟨r, w1⟩ := p
  cases r with
  | fz d => exact fun hp => hp (σ.set i (some v)) H1 S ((E.go p1).setF hi r1)
  | ow d =>
    obtain ⟨a, e, o, n⟩ := r1
    subst e
    exact fun hp => hp (σ.set i (some (.ref a))) H1 _ (EnvOk.setO E p1 hi o n)
  | bw d => exact fun hp => hp.elim
theorem ds_set {i : Nat} {x : Str} {pos' : Pos} (hi : C.pw = none ∨ i ≠ C.pi) (hN : X.N.Nodup) (hx : X.N[i]? = some x) (hl : Loc X.env.scope x) (he : DE X C W e f) (hs : swapsWith e (some (.Name x pos')) pos.line X.env = pure false := by rfl) (hf : X.fn x = true ∨ X.env.scope.names.lookup x = some .local := by first | exact .inl rfl | exact .inr rfl) :
    DS X C W (.Assign [.Name x pos'] e pos) (sSet i f) := ps_imp (ps_set hN hx hl he hs hf) (go_set hi)
end
end DL
namespace DL
open PySem PySem.Spec PyProof.Rows L2

/-! ### targets: a value that stays is stored -/
abbrev Gx := D → DEnv → Option DEnv
abbrev Gxs := List D → DEnv → Option DEnv
section
variable {X : Cx} {C : Cn} {W : WX} {pos : Pos}
/-- but for the places ts nothing has changed -/
def But (ts : List Nat) (σ σ' : L2.St) : Prop := σ'.length = σ.length ∧ ∀ j, j ∉ ts → σ'[j]? = σ[j]?
def gT (C : Cn) (b : Gx) (ts : List Nat) : TG := fun v σ H Q => ∃ ρ w S d ρ', EnvOk C ρ w S σ H ∧ Rp C.P C.w C.K H S v d ∧ b d ρ = some ρ' ∧ ∀ σ', EnvOk C ρ' w S σ' H → But ts σ σ' → Q σ' H
def gTs (C : Cn) (b : Gxs) (ts : List Nat) : TGs := fun vs σ H Q => ∃ ρ w S ds ρ', EnvOk C ρ w S σ H ∧ Rps C.P C.w C.K H S vs ds ∧ b ds ρ = some ρ' ∧ ∀ σ', EnvOk C ρ' w S σ' H → But ts σ σ' → Q σ' H
abbrev DG (X : Cx) (C : Cn) (tg : Expr) (b : Gx) (ts : List Nat) : Prop := PG X tg (gT C b ts)
abbrev DGs (X : Cx) (C : Cn) (tg : List Expr) (b : Gxs) (ts : List Nat) : Prop := PGs X tg (gTs C b ts)
theorem pg_imp {e : Expr} {t t' : TG} (h : PG X e t) (i : ∀ v σ H Q, t' v σ H Q → t v σ H Q) : PG X e t' := ⟨fun pins s σ H v u Q I r q => h.run pins s σ H v u Q I r (i v σ H Q q)⟩
theorem pgs_imp {e : List Expr} {t t' : TGs} (h : PGs X e t) (i : ∀ v σ H Q, t' v σ H Q → t v σ H Q) : PGs X e t' := ⟨fun pins s σ H v u Q I r q => h.run pins s σ H v u Q I r (i v σ H Q q)⟩
def gNm (i : Nat) : Gx := fun d ρ => some (ρ.set i (some (.fz d)))
theorem dg_name {i : Nat} {x : Str} (hi : C.pw = none ∨ i ≠ C.pi) (hN : X.N.Nodup) (hx : X.N[i]? = some x) (hl : Loc X.env.scope x) (hf : X.fn x = true ∨ X.env.scope.names.lookup x = some .local := by first | exact .inl rfl | exact .inr rfl) : DG X C (.Name x pos) (gNm i) [i] :=
  pg_imp (pg_name hN hx hl hf) fun v σ H Q ⟨ρ, w, S, d, ρ', E, r, e, q⟩ => by
    cases e
    have ne : ∀ j, j ∉ [i] → i ≠ j := fun j hj z => hj (by rw [z]; exact List.mem_singleton.mpr rfl)
    exact q _ (E.setF hi r) ⟨List.length_set, fun j hj => List.getElem?_set_ne (ne j hj)⟩
def gNl : Gxs := fun ds ρ => match ds with
  | [] => some ρ
  | _ => none
def gCn (b : Gx) (c : Gxs) : Gxs := fun ds ρ => match ds with
  | d :: ds => (b d ρ).bind fun ρ' => c ds ρ'
  | [] => none
theorem dg_nil : DGs X C [] gNl [] := pgs_imp pgs_nil fun vs σ H Q ⟨ρ, w, S, ds, ρ', E, r, e, q⟩ => by
  cases r with
  | nil => cases e; exact ⟨rfl, q σ E ⟨rfl, fun _ _ => rfl⟩⟩
  | cons _ _ => cases e
theorem dg_cons {tg : Expr} {tgs : List Expr} {b : Gx} {c : Gxs} {ts us : List Nat} (h1 : DG X C tg b ts) (h2 : DGs X C tgs c us) (hs : (assignEach (tg :: tgs) X.env).map (·.2) = assign tg X.env :: (assignEach tgs X.env).map (·.2) := by rfl)  : DGs X C (tg :: tgs) (gCn b c) (ts ++ us) :=
  pgs_imp (pgs_cons h1 h2 hs) fun vs σ H Q ⟨ρ, w, S, ds, ρ', E, r, e, q⟩ => by
    cases r with
    | nil => cases e
    | @cons v vs' d ds' hd tl =>
      have e : (b d ρ).bind (fun ρ' => c ds' ρ') = some ρ' := e
      cases e1 : b d ρ with
      | none => rw [e1] at e; cases e
      | some ρ1 =>
        rw [e1] at e
        exact ⟨v, vs', rfl, ρ, w, S, d, ρ1, E, hd, e1, fun σ1 E1 b1 => ⟨ρ1, w, S, ds', ρ', E1, tl, e, fun σ2 E2 b2 => q σ2 E2 ⟨b2.1.trans b1.1, fun j hj => (b2.2 j fun z => hj (List.mem_append.mpr (.inr z))).trans (b1.2 j fun z => hj (List.mem_append.mpr (.inl z)))⟩⟩⟩
/-- a, b, .. = a tuple, a list -/
def gTu (n : Nat) (c : Gxs) : Gx := fun d ρ => match d with
  | .tuple ds => if ds.length == n then c ds ρ else none
  | .list ds => if ds.length == n then c ds ρ else none
  | _ => none
theorem pg_or {e : Expr} {t t' : TG} (h : PG X e t) (h' : PG X e t') : PG X e (fun v σ H Q => t v σ H Q ∨ t' v σ H Q) :=
  ⟨fun pins s σ H v u Q I r q => q.elim (h.run pins s σ H v u Q I r) (h'.run pins s σ H v u Q I r)⟩
theorem dg_tup {es : List Expr} {k : Nat} {c : Gxs} {n : Nat} {ts : List Nat} (t : Tie X C) (h : DGs X C es c ts) (hn : (assignEach es X.env).length = n := by rfl) (hst : (assignEach es X.env).findIdx? (·.1) = none := by rfl) : DG X C (.Tuple es k pos) (gTu n c) ts := by
  refine pg_imp (pg_or (pg_tup t.calm h hn hst) (pg_lst t.calm h hn hst)) fun v σ H Q ⟨ρ, w, S, d, ρ', E, r, e, q⟩ => ?_
  unfold gTu at e
  split at e
  · split at e
    · rename_i hl
      cases r with
      | tup s r =>
        rw [t.K] at s
        exact .inl ⟨_, _, rfl, s, by rw [r.length]; exact beq_iff_eq.mp hl, ρ, w, S, _, ρ', E, r, e, q⟩
    · cases e
  · split at e
    · rename_i hl
      cases r with
      | lst s h r => exact .inr ⟨_, _, rfl, .inl h, by rw [r.length]; exact beq_iff_eq.mp hl, ρ, w, S, _, ρ', E, r, e, q⟩
    · cases e
  · cases e
/-- target = e, the target no single name -/
def sAsg (f : Ex) (b : Gx) : Sx := fun ρ w => ofR (f ρ w) fun p => match p.1 with
  | .bw _ => .err
  | r => match b r.d ρ with
    | some ρ' => .nx ρ' p.2
    | none => .err
theorem go_asg {f : Ex} {b : Gx} {ts : List Nat} : ∀ (σ : L2.St) (H : Hp) (D : Ends), sT C W (sAsg f b) D σ H → tAsg (eT C W f) (gT C b ts) D σ H := by
  intro σ H D hq
  obtain ⟨ρ, w, S, E, q⟩ := sT_to hq
  refine eT_of E E.rf ((OutOk.ofR E q).imp fun p hp v H1 p1 r1 => ?_)
  obtain ⟨r, w1⟩ := p
  have main : ∀ (nb : ∀ d, r ≠ .bw d), OutOk C W D (match b r.d ρ with | some ρ' => Out.nx ρ' w1 | none => .err) → gT C b ts v σ H1 D.nx := fun nb hp => by
    cases e : b r.d ρ with
    | none => rw [e] at hp; exact hp.elim
    | some ρ' =>
      rw [e] at hp
      exact ⟨ρ, w1, S, r.d, ρ', E.go p1, r1.rp E nb, e, fun σ' E' _ => hp σ' H1 S E'⟩
  cases r with
  | fz d => exact main (fun _ z => nomatch z) hp
  | ow d => exact main (fun _ z => nomatch z) hp
  | bw d => exact hp.elim
theorem ds_asg {tg e : Expr} {f : Ex} {b : Gx} {ts : List Nat} (he : DE X C W e f) (hg : DG X C tg b ts) (hs : swapsWithSole [tg] e pos.line X.env = pure false := by rfl) (hw : swappedStores [tg] e X.env = pure none := by rfl)
    (h1 : (assignEach [tg] X.env).map (·.2) = [assign tg X.env] := by rfl) : DS X C W (.Assign [tg] e pos) (sAsg f b) := ps_imp (ps_asg he hg hs hw h1) go_asg
/-- a, b = e1, e2 with plain names: no pair is made -/
def sPar (i j : Nat) (f : Ax) : Sx := fun ρ w => ofR (f ρ w) fun p => match p.1 with
  | [r1, r2] => match put i ρ r1 with
    | some ρ1 => match put j ρ1 r2 with
      | some ρ2 => .nx ρ2 p.2
      | none => .err
    | none => .err
  | _ => .err

/-! ### what is walked -/
abbrev Ix := DEnv → List Int → Res (List D × List Int)
/-- J yields the things ds; src: what must stand still -/
def ItD (C : Cn) (J : It) (ds : List D) (src : List (V × D)) : Prop := ∀ (S : Addr → Prop) (H : Hp), (∀ a, H a = none → S a) → (∀ v d, (v, d) ∈ src → Rp C.P C.w C.K H S v d) →
  (∀ i, i < ds.length → J.go i H ∧ ∀ x H', J.yld i H x H' → Ext H H' ∧ ∃ d, ds[i]? = some d ∧ Rp C.P C.w C.K H' S x d) ∧ ∀ i, ds.length ≤ i → J.stop i H
def iT (C : Cn) (W : WX) (f : Ix) : TI := fun σ H R => ∃ ρ w S, EnvOk C ρ w S σ H ∧ Good C W σ H (f ρ w) fun p => ∀ J H' src, Pst C H H' p.2 → ItD C J p.1 src → (∀ v d, (v, d) ∈ src → Rp C.P C.w C.K H' S v d) → R J H'
abbrev DI (X : Cx) (C : Cn) (W : WX) (tg iter : Expr) (f : Ix) : Prop := PI X tg iter (iT C W f)
theorem pi_imp {tg e : Expr} {t t' : TI} (h : PI X tg e t) (i : ∀ σ H R, t' σ H R → t σ H R) : PI X tg e t' := ⟨fun pins s σ H R I q => h.run pins s σ H R I (i σ H R q)⟩
theorem pi_or {tg e : Expr} {t t' : TI} (h : PI X tg e t) (h' : PI X tg e t') : PI X tg e (fun σ H R => t σ H R ∨ t' σ H R) := ⟨fun pins s σ H R I q => q.elim (h.run pins s σ H R I) (h'.run pins s σ H R I)⟩
theorem itD_list {a : Addr} {ds : List D} : ItD C (Itl C.K a) ds [(.ref a, .list ds)] := by
  intro S H sN hs
  have r := hs _ _ (List.mem_singleton.mpr rfl)
  cases r with
  | lst s h r =>
    rename_i vs
    have sq : SqL C.K H a vs := .inl h
    refine ⟨fun i hi => ?_, fun i hi => ⟨vs, sq, by rw [r.length]; exact hi⟩⟩
    have hv : i < vs.length := by rw [r.length]; exact hi
    refine ⟨⟨vs, vs[i], sq, List.getElem?_eq_getElem hv⟩, fun x H' y => ?_⟩
    obtain ⟨rfl, y⟩ := y
    obtain ⟨d, e, q⟩ := r.get (y vs sq)
    exact ⟨.refl, d, e, q⟩
theorem itD_tup {a : Addr} {ds : List D} : ItD C (Itt C.K a) ds [(.ref a, .tuple ds)] := by
  intro S H sN hs
  have r := hs _ _ (List.mem_singleton.mpr rfl)
  cases r with
  | tup s r =>
    rename_i vs
    refine ⟨fun i hi => ?_, fun i hi => ⟨vs, s, by rw [r.length]; exact hi⟩⟩
    have hv : i < vs.length := by rw [r.length]; exact hi
    refine ⟨⟨vs, vs[i], s, List.getElem?_eq_getElem hv⟩, fun x H' y => ?_⟩
    obtain ⟨rfl, y⟩ := y
    obtain ⟨d, e, q⟩ := r.get (y vs s)
    exact ⟨.refl, d, e, q⟩
def rngD (lo : Int) : Nat → List D
  | 0 => []
  | n + 1 => .int lo :: rngD (lo + 1) n
theorem rngD_length : ∀ (lo : Int) (n : Nat), (rngD lo n).length = n
  | _, 0 => rfl
  | lo, n + 1 => by unfold rngD; rw [List.length_cons, rngD_length]
theorem rngD_get : ∀ (lo : Int) (n i : Nat), i < n → (rngD lo n)[i]? = some (.int (lo + i))
  | _, 0, _, h => absurd h (Nat.not_lt_zero _)
  | lo, n + 1, 0, _ => by unfold rngD; simp
  | lo, n + 1, i + 1, h => by
    unfold rngD
    rw [List.getElem?_cons_succ, rngD_get (lo + 1) n i (by omega)]
    congr 2; push_cast; omega
theorem itD_rng {lo : Int} {n : Nat} : ItD C (Itr lo n) (rngD lo n) [] := by
  intro S H sN hs
  refine ⟨fun i hi => ?_, fun i hi => by rw [rngD_length] at hi; exact hi⟩
  rw [rngD_length] at hi
  refine ⟨hi, fun x H' y => ?_⟩
  obtain ⟨rfl, rfl⟩ := y
  exact ⟨.refl, _, rngD_get lo n i hi, .int _⟩
/-- a list or a tuple walked -/
def iSeq (f : Ex) : Ix := fun ρ w => (f ρ w).bind fun p => match p.1 with
  | .bw _ => .err
  | r => match r.d with
    | .list ds => .ok (ds, p.2)
    | .tuple ds => .ok (ds, p.2)
    | _ => .err
theorem di_list {tg e : Expr} {f : Ex} (t : Tie X C) (he : DE X C W e f) : DI X C W tg e (iSeq f) := by
  have pl := pi_list (tg := tg) he
  have pt := pi_tup (tg := tg) he
  refine ⟨fun pins s σ H R I hq => ?_⟩
  obtain ⟨ρ, w, S, E, q⟩ := hq
  unfold iSeq at q
  -- which of both it is tells the value
  have q := q.bind
  cases e1 : f ρ w with
  | err => rw [e1] at q; exact q.elim
  | exc c d =>
    rw [e1] at q
    exact pl.run pins s σ H R I (eT_of E E.rf (by rw [e1]; exact q))
  | ok p =>
    obtain ⟨r, w1⟩ := p
    rw [e1] at q
    have nb : ∀ d, r ≠ .bw d := fun d z => by subst z; exact q
    have q : Good C W σ H (match r.d with | .list ds => Res.ok (ds, w1) | .tuple ds => .ok (ds, w1) | _ => .err) fun p => ∀ J H' src, Pst C H H' p.2 → ItD C J p.1 src → (∀ v d, (v, d) ∈ src → Rp C.P C.w C.K H' S v d) → R J H' := by
      revert q
      cases r with
      | fz d => exact fun q => q
      | ow d => exact fun q => q
      | bw d => exact absurd rfl (nb d)
    cases e2 : r.d with
    | list ds =>
      rw [e2] at q
      refine pl.run pins s σ H R I (eT_of E E.rf (by
        rw [e1]
        intro v H1 p1 r1
        have rr := r1.rp E nb
        rw [e2] at rr
        obtain ⟨a, vs, rfl, ra, pa⟩ := Lt.list (C := C) (.inl rr)
        refine ⟨a, rfl, ⟨vs, .inl ra⟩, ?_⟩
        rw [← t.K]
        exact q _ H1 _ p1 itD_list fun v d m => by cases List.mem_singleton.mp m; exact rr))
    | tuple ds =>
      rw [e2] at q
      refine pt.run pins s σ H R I (eT_of E E.rf (by
        rw [e1]
        intro v H1 p1 r1
        have rr := r1.rp E nb
        rw [e2] at rr
        obtain ⟨a, vs, rfl, ra, pa⟩ := Lt.tuple (C := C) (.inl rr)
        refine ⟨a, rfl, ⟨vs, by rw [← t.K]; exact ra⟩, ?_⟩
        rw [← t.K]
        exact q _ H1 _ p1 itD_tup fun v d m => by cases List.mem_singleton.mp m; exact rr))
    | none => rw [e2] at q; exact q.elim
    | bool b => rw [e2] at q; exact q.elim
    | int b => rw [e2] at q; exact q.elim
    | str b => rw [e2] at q; exact q.elim
    | dict b => rw [e2] at q; exact q.elim
def rngOk (i : Int) : Bool := decide (-(2 ^ 62) ≤ i) && decide (i < 2 ^ 62)
def iRg1 (f : Ax) : Ix := fun ρ w => (f ρ w).bind fun p => match p.1.map RV.d with
  | [.int j] => if rngOk j then .ok (rngD 0 j.toNat, p.2) else .err
  | _ => .err
def iRg2 (f : Ax) : Ix := fun ρ w => (f ρ w).bind fun p => match p.1.map RV.d with
  | [.int i, .int j] => if rngOk i && rngOk j then .ok (rngD i (j - i).toNat, p.2) else .err
  | _ => .err
theorem di_rng1 {tg a : Expr} {f : Ax} {p pos : Pos} (hg : Gl X "range") (hm : X.mg "range" = none) (ha : DA X C W [a] f) (hs : starEach [a] X.env = [(false, eval a X.env)] := by rfl) : DI X C W tg (.Call (.Name "range" p) [a] [] pos) (iRg1 f) := by
  refine pi_imp (pi_range1 hg hm ha hs) fun σ H R hq => ?_
  obtain ⟨ρ, w, S, E, q⟩ := hq
  unfold iRg1 at q
  refine aT_of E E.rf (q.bind.imp fun p hp vs H1 p1 r1 => ?_)
  have l := r1.lts (ρ := ρ) (w := w) (σ := σ)
  revert hp
  split
  · rename_i j hj
    rw [hj] at l
    intro hp
    obtain ⟨x, rfl, lx⟩ := l.one
    have e := lx.int
    subst e
    split at hp
    · rename_i hc
      have hc := Bool.and_eq_true_iff.mp hc
      refine ⟨_, rfl, of_decide_eq_true hc.1, of_decide_eq_true hc.2, hp _ H1 [] p1 itD_rng fun v d m => by cases m⟩
    · exact hp.elim
  · exact fun hp => hp.elim
theorem di_rng2 {tg a b : Expr} {f : Ax} {p pos : Pos} (hg : Gl X "range") (hm : X.mg "range" = none) (ha : DA X C W [a, b] f) (hs : starEach [a, b] X.env = [(false, eval a X.env), (false, eval b X.env)] := by rfl) (hs2 : starEach [b] X.env = [(false, eval b X.env)] := by rfl) : DI X C W tg (.Call (.Name "range" p) [a, b] [] pos) (iRg2 f) := by
  refine pi_imp (pi_range2 hg hm ha hs hs2) fun σ H R hq => ?_
  obtain ⟨ρ, w, S, E, q⟩ := hq
  unfold iRg2 at q
  refine aT_of E E.rf (q.bind.imp fun p hp vs H1 p1 r1 => ?_)
  have l := r1.lts (ρ := ρ) (w := w) (σ := σ)
  revert hp
  split
  · rename_i i j hj
    rw [hj] at l
    intro hp
    obtain ⟨x, y, rfl, lx, ly⟩ := l.two
    have e := lx.int
    subst e
    have e := ly.int
    subst e
    split at hp
    · rename_i hc
      have hc := Bool.and_eq_true_iff.mp hc
      have h1 := Bool.and_eq_true_iff.mp hc.1
      have h2 := Bool.and_eq_true_iff.mp hc.2
      refine ⟨_, _, rfl, ⟨of_decide_eq_true h1.1, of_decide_eq_true h1.2, of_decide_eq_true h2.1, of_decide_eq_true h2.2⟩, hp _ H1 [] p1 itD_rng fun v d m => by cases m⟩
    · exact hp.elim
  · exact fun hp => hp.elim

/-! ### for -/
def loopL (b : Gx) (g : Sx) : List D → Sx
  | [], ρ, w => .nx ρ w
  | d :: ds, ρ, w => match b d ρ with
    | none => .err
    | some ρ1 => match g ρ1 w with
      | .nx ρ' w' => loopL b g ds ρ' w'
      | .ct ρ' w' => loopL b g ds ρ' w'
      | .bk ρ' w' => .nx ρ' w'
      | o => o
def sFor (f : Ix) (b : Gx) (g : Sx) : Sx := fun ρ w => ofR (f ρ w) fun p => loopL b g p.1 ρ p.2
theorem ds_for {tg iter : Expr} {body : List Stmt} {f : Ix} {b : Gx} {g : Sx} {ts : List Nat} (hp : PassesOwn (model X.prog X.w) X.A X.env X.xe) (t : Tie X C) (hi : DI X C W tg iter f) (hg : ∀ l, DG X (C.hide l) tg b ts) (hb : ∀ l, DSs X (C.hide l) W body g) (hs : ∀ x, foldedSetIterable iter X.env x = pure x := by intro _; rfl) :
    DS X C W (.For tg iter body [] pos) (sFor f b g) := by
  refine ps_imp (ps_for (g := fun v σ H Q => ∃ l, gT (C.hide l) b ts v σ H Q) (tb := fun D σ H => ∃ l, sT (C.hide l) W g D σ H) hp t.calm hi ⟨fun pins s σ H v u Q I r ⟨l, q⟩ => (hg l).run pins s σ H v u Q I r q⟩ ⟨fun pins s σ H D I ⟨l, q⟩ => (hb l).run pins s σ H D I q⟩ hs) fun σ H D hq => ?_
  obtain ⟨ρ, w, S, E, q⟩ := sT_to hq
  refine ⟨ρ, w, S, E, (OutOk.ofR E q).imp fun p hp J H1 src p1 it hsrc => ?_⟩
  obtain ⟨ds, w1⟩ := p
  refine ⟨fun i m σ H => m + i = ds.length ∧ ∃ ρ w S, EnvOk (C.hide src) ρ w S σ H ∧ OutOk C W D (loopL b g (ds.drop i) ρ w), ⟨ds.length, rfl, ρ, w1, S, (E.go p1).hide hsrc, hp⟩, ?_⟩
  intro i m σ H ⟨hm, ρ, w, S, E, q⟩
  obtain ⟨i1, i2⟩ := it S H E.sN fun v d m => E.hi v d (List.mem_append.mpr (.inl m))
  cases m with
  | zero =>
    refine .inl ⟨i2 i (by show ds.length ≤ i; omega), ?_⟩
    rw [List.drop_eq_nil_of_le (by omega)] at q
    exact q σ H S E.show
  | succ m =>
    have hi : i < ds.length := by omega
    obtain ⟨go, yl⟩ := i1 i hi
    refine .inr ⟨go, fun σ H => m + (i + 1) = ds.length ∧ ∃ ρ w S, EnvOk (C.hide src) ρ w S σ H ∧ OutOk C W D (loopL b g (ds.drop (i + 1)) ρ w), fun σ' H' z => ⟨m, Nat.lt_succ_self m, z⟩, fun x H' y => ?_⟩
    obtain ⟨ex, d, ed, rd⟩ := yl x H' y
    have E' := E.go (ex.pst E)
    rw [List.drop_eq_getElem_cons hi] at q
    have ed' : ds[i] = d := by rw [List.getElem?_eq_getElem hi] at ed; exact Option.some.inj ed
    rw [ed'] at q
    unfold loopL at q
    cases eb : b d ρ with
    | none => rw [eb] at q; exact q.elim
    | some ρ1 =>
      rw [eb] at q
      refine ⟨src, ρ, w, S, d, ρ1, E', rd, eb, fun σ1 E1 _ => ⟨src, sT_of E1 ?_⟩⟩
      revert q
      simp only
      cases g ρ1 w with
      | nx ρ' w' => exact fun q σ' H' S' E2 => ⟨by omega, ρ', w', S', E2, q⟩
      | ct ρ' w' => exact fun q σ' H' S' E2 => ⟨by omega, ρ', w', S', E2, q⟩
      | bk ρ' w' => exact fun q σ' H' S' E2 => q σ' H' S' E2.show
      | rt r w' => exact fun q v H' σ1 H1 ρ1 w1 S1 E2 p2 r2 => q v H' σ1 H1 ρ1 w1 S1 E2.show ⟨p2.g, p2.st, p2.tb⟩ r2
      | exc c d => exact fun q σ' H' da ρ1 w1 S1 E2 hp => q σ' H' da ρ1 w1 S1 E2.show hp
      | err => exact fun q => q

/-! ### while -/
def whileN (t : Tx) (g : Sx) : Nat → Sx
  | 0, _, _ => .err
  | n + 1, ρ, w => ofR (t ρ w) fun p => if p.1 then (match g ρ p.2 with
      | .nx ρ' w' => whileN t g n ρ' w'
      | .ct ρ' w' => whileN t g n ρ' w'
      | .bk ρ' w' => .nx ρ' w'
      | o => o) else .nx ρ p.2
/-- so many turns at most -/
def lid : Nat := 1000000000
def sWhile (t : Tx) (g : Sx) : Sx := fun ρ w => whileN t g lid ρ w
theorem ds_while {c : Expr} {body : List Stmt} {tf : Tx} {g : Sx} (hp : PassesOwn (model X.prog X.w) X.A X.env X.xe) (hc : DT X C W c tf) (hb : DSs X C W body g) : DS X C W (.While c body [] pos) (sWhile tf g) := by
  refine ps_imp (ps_while hp hc hb) fun σ H D hq => ?_
  obtain ⟨ρ, w, S, E, q⟩ := sT_to hq
  refine ⟨fun m σ H => ∃ ρ w S, EnvOk C ρ w S σ H ∧ OutOk C W D (whileN tf g m ρ w), ⟨lid, ρ, w, S, E, q⟩, ?_⟩
  intro m σ H ⟨ρ, w, S, E, q⟩
  cases m with
  | zero => exact q.elim
  | succ m =>
    unfold whileN at q
    refine tT_of E E.rf ((OutOk.ofR E q).imp fun p hp H1 p1 => ?_)
    obtain ⟨k, w1⟩ := p
    cases k with
    | false => exact hp σ H1 S (E.go p1)
    | true =>
      refine ⟨fun σ H => ∃ ρ w S, EnvOk C ρ w S σ H ∧ OutOk C W D (whileN tf g m ρ w), fun σ' H' z => ⟨m, Nat.lt_succ_self m, z⟩, sT_of (E.go p1) ?_⟩
      revert hp
      simp only [if_true]
      cases g ρ w1 with
      | nx ρ' w' => exact fun q σ' H' S' E2 => ⟨ρ', w', S', E2, q⟩
      | ct ρ' w' => exact fun q σ' H' S' E2 => ⟨ρ', w', S', E2, q⟩
      | bk ρ' w' => exact fun q => q
      | rt r w' => exact fun q => q
      | exc c d => exact fun q => q
      | err => exact fun q => q
end
end DL
namespace DL
open PySem PySem.Spec PyProof.Rows L2

/-! ### things that change: a list, a dict of one's own -/
theorem ext_code {c : Addr} {q : Str} {P : Program} {w : World} {a : Addr} {xs : List (NestedKey × Addr × V)} : LamX.CodeO c q ≠ DN P w a xs := by
  intro e
  -- a heap with a code object at c would be one with a dict
  unfold LamX.CodeO DN at e
  have e1 := HO.ext.inj e
  let ob : Obj := { cls := .none, data := .fields #[.none, .str q 0] }
  let h : Heap := ⟨(List.replicate (c + 1) ob).toArray, {}⟩
  have at_ : ∀ b o, h.get? b = some o → o = ob := fun b o hb => by
    have hb : (match (List.replicate (c + 1) ob).toArray[b]? with | some ⟨_, _, .freed, _⟩ => none | o => o) = some o := hb
    rw [List.getElem?_toArray, List.getElem?_replicate] at hb
    split at hb
    · cases hb
    · split at hb
      · exact (Option.some.inj hb).symm
      · cases hb
  have hc : h.get? c = some ob := by
    show (match (List.replicate (c + 1) ob).toArray[c]? with | some ⟨_, _, .freed, _⟩ => none | o => o) = some ob
    rw [List.getElem?_toArray, List.getElem?_replicate, if_pos (Nat.lt_succ_self c)]
  have l : DNφ P w a xs h := by
    rw [← e1]
    exact ⟨ob, _, 0, hc, rfl, rfl⟩
  obtain ⟨o, es, ep, ys, ho, _, hd, _⟩ := l
  rw [at_ a o ho] at hd
  cases hd
theorem tabs_upd {T : List NdefX.NTab} {H : Hp} {p : Addr} {o o' : HO} (h : NdefX.TabsN T H) (hp : H p = some o) (ho : (∃ xs, o = .lst xs) ∨ ∃ P w xs, o = DN P w p xs) : NdefX.TabsN T (upd H p o') := by
  have nt : ∀ b ps, H b = some (.tbl ps) → b ≠ p := fun b ps e z => by
    subst z
    rw [hp] at e
    rcases ho with ⟨xs, rfl⟩ | ⟨P, w, xs, rfl⟩
    · cases e
    · exact DN_tbl ps (Option.some.inj e)
  have nc : ∀ b q, H b = some (LamX.CodeO b q) → b ≠ p := fun b q e z => by
    subst z
    rw [hp] at e
    rcases ho with ⟨xs, rfl⟩ | ⟨P, w, xs, rfl⟩
    · unfold LamX.CodeO at e; cases e
    · exact ext_code (Option.some.inj e).symm
  intro t ht
  obtain ⟨ps, h1, h2, h3⟩ := h t ht
  refine ⟨ps, by rw [upd_ne (nt _ _ h1)]; exact h1, h2, fun pos cv hc => ?_⟩
  obtain ⟨c, e1, e2⟩ := h3 pos cv hc
  exact ⟨c, e1, by rw [upd_ne (nc _ _ e2)]; exact e2⟩
/-- what is not p's stays when p turns -/
theorem kept_upd {S : Addr → Prop} {H : Hp} {p : Addr} {o o' : HO} (hS : ¬ S p) (hp : H p = some o) (ho : (∃ xs, o = .lst xs) ∨ ∃ P w xs, o = DN P w p xs) : Kept S H (upd H p o') := by
  have nt : ∀ b vs, Rd H b (.tup vs) → b ≠ p := fun b vs e z => by
    subst z
    rcases e with e | ⟨ob, e⟩ <;> rw [hp] at e
    · rcases ho with ⟨xs, rfl⟩ | ⟨P, w, xs, rfl⟩
      · cases e
      · unfold DN at e; cases e
    · rcases ho with ⟨xs, rfl⟩ | ⟨P, w, xs, rfl⟩
      · cases e
      · unfold DN at e; cases e
  have rd : ∀ b u, b ≠ p → Rd H b u → Rd (upd H p o') b u := fun b u ne h => h.elim (fun h => .inl (by rw [upd_ne ne]; exact h)) fun ⟨ob, h⟩ => .inr ⟨ob, by rw [upd_ne ne]; exact h⟩
  exact ⟨fun a vs h => rd _ _ (nt a vs h) h, fun a vs s h => rd _ _ (fun z => hS (z ▸ s)) h, fun P w a xs s h => rd _ _ (fun z => hS (z ▸ s)) h⟩

section
variable {C : Cn} {ρ : DEnv} {w w' : List Int} {S : Addr → Prop} {σ : L2.St} {H H' : Hp} {p : Addr} {o o' : HO}
/-- p is none of the names' own -/
def Free (ρ : DEnv) (σ : L2.St) (p : Addr) : Prop := ∀ (i : Nat) (d : D), ρ[i]? = some (some (.ow d)) → σ[i]? ≠ some (some (.ref p))
/-- a new thing that no name holds -/
theorem EnvOk.lay (E : EnvOk C ρ w S σ H) (hp : H p = none) : EnvOk C ρ w (fun a => S a ∧ a ≠ p) σ (upd H p o) ∧ Free ρ σ p := by
  have x := (Ext.new (o := o) hp)
  have k := x.kept (S := fun a => S a ∧ a ≠ p)
  refine ⟨⟨E.len, fun i e h => ?_, E.apart, fun a h => ?_, fun a h => E.sB a h.1, fun q e => x.keep _ _ (E.st q e), fun q e z => E.sW q e z.1, fun a u h n q => ?_, fun a h => E.gn a (x.nn a h), E.tb.ext x.keep, E.sl, fun v d m => ((E.hi v d m).avoid hp).mono k fun _ z => z⟩, fun i d h z => ?_⟩
  · obtain ⟨v, h1, h2⟩ := E.val i e h
    refine ⟨v, h1, ?_⟩
    cases e with
    | fz d => exact (Rp.avoid hp h2).mono k fun _ z => z
    | ow d =>
      obtain ⟨q, e, ow, n, s, z⟩ := h2
      refine ⟨q, e, ?_, n, fun y => s y.1, z⟩
      cases ow with
      | lst e r => exact .lst (x.keep _ _ e) ((r.avoid hp).mono k fun _ z => z)
      | dct e r => exact .dct (x.keep _ _ e) ((r.avoid hp).mono k fun _ z => z)
    | fn _ => exact h2
  · by_cases e : a = p
    · subst e; rw [upd_same] at h; cases h
    · rw [upd_ne e] at h; exact ⟨E.sN a h, e⟩
  · obtain ⟨a1, a2⟩ := E.gk a u h n q
    exact ⟨fun l => x.keep _ _ (a1 l), fun l => let ⟨ob, z⟩ := a2 l; ⟨ob, x.keep _ _ z⟩⟩
  · obtain ⟨v, h1, q, e, ow, _⟩ := E.val i _ h
    rw [z] at h1; cases h1; cases e
    exact ow.ne hp
/-- .. is turned -/
theorem EnvOk.turn (E : EnvOk C ρ w S σ H) (hf : Free ρ σ p) (hS : ¬ S p) (h0 : C.H0 p = none) (hw : C.pw ≠ some p) (hp : H p = some o) (ho : (∃ xs, o = .lst xs) ∨ ∃ P w xs, o = DN P w p xs) : EnvOk C ρ w S σ (upd H p o') := by
  have k := kept_upd (o' := o') hS hp ho
  have ne0 : ∀ a u, C.H0 a = some u → a ≠ p := fun a u h z => by rw [z, h0] at h; cases h
  refine ⟨E.len, fun i e h => ?_, E.apart, fun a h => ?_, E.sB, fun q e => ?_, E.sW, fun a u h n q => ?_, fun a h => ?_, tabs_upd E.tb hp ho, E.sl, fun v d m => (E.hi v d m).mono k fun _ z => z⟩
  · obtain ⟨v, h1, h2⟩ := E.val i e h
    refine ⟨v, h1, ?_⟩
    cases e with
    | fz d => exact Rp.mono k (fun _ z => z) h2
    | ow d =>
      obtain ⟨q, e, ow, n, s, z⟩ := h2
      have qp : q ≠ p := fun y => hf i d h (by rw [h1, e, y])
      refine ⟨q, e, ?_, n, s, z⟩
      cases ow with
      | lst e r => exact .lst (by rw [upd_ne qp]; exact e) (r.mono k fun _ z => z)
      | dct e r => exact .dct (by rw [upd_ne qp]; exact e) (r.mono k fun _ z => z)
    | fn _ => exact h2
  · by_cases e : a = p
    · subst e; rw [upd_same] at h; cases h
    · rw [upd_ne e] at h; exact E.sN a h
  · have qp : q ≠ p := fun z => hw (by rw [← z]; exact e)
    rw [upd_ne qp]; exact E.st q e
  · rw [upd_ne (ne0 a u h)]
    exact E.gk a u h n q
  · by_cases e : a = p
    · subst e; exact h0
    · rw [upd_ne e] at h; exact E.gn a h
/-- the slots of a block's own names -/
def wipeE (ρ : DEnv) : List Nat → DEnv
  | [] => ρ
  | v :: vs => (wipeE ρ vs).set v none
theorem wipeE_get {ρ : DEnv} {i : Nat} {e : EV} : ∀ {vs : List Nat}, (wipeE ρ vs)[i]? = some (some e) → ρ[i]? = some (some e) ∧ i ∉ vs
  | [], h => ⟨h, by simp⟩
  | v :: vs, h => by
    unfold wipeE at h
    rcases get_set h with ⟨_, z⟩ | ⟨hi, h⟩
    · cases z
    · obtain ⟨h1, h2⟩ := wipeE_get h
      exact ⟨h1, by simp [hi, h2]⟩
theorem wipeE_out {ρ : DEnv} {i : Nat} : ∀ {vs : List Nat}, i ∉ vs → (wipeE ρ vs)[i]? = ρ[i]?
  | [], _ => rfl
  | v :: vs, h => by
    unfold wipeE
    rw [List.getElem?_set_ne (fun z => h (by simp [z])), wipeE_out (fun z => h (List.mem_cons_of_mem _ z))]
theorem wipe_out {σ : L2.St} {i : Nat} : ∀ {vs : List Nat}, i ∉ vs → (wipe σ vs)[i]? = σ[i]?
  | [], _ => rfl
  | v :: vs, h => by
    unfold wipe
    rw [List.getElem?_set_ne (fun z => h (by simp [z])), wipe_out (fun z => h (List.mem_cons_of_mem _ z))]
theorem wipeE_length (ρ : DEnv) : ∀ vs : List Nat, (wipeE ρ vs).length = ρ.length
  | [] => rfl
  | v :: vs => by unfold wipeE; rw [List.length_set, wipeE_length ρ vs]
theorem EnvOk.wiped {vs : List Nat} (E : EnvOk C ρ w S σ H) (hv : C.pw = none ∨ C.pi ∉ vs) : EnvOk C (wipeE ρ vs) w S (wipe σ vs) H where
  len := by rw [wipe_length, wipeE_length]; exact E.len
  val := fun i e h => by
    obtain ⟨h1, h2⟩ := wipeE_get h
    rw [wipe_out h2]
    exact E.val i e h1
  apart := fun i j d e p h1 h2 s1 s2 => by
    obtain ⟨h1, n1⟩ := wipeE_get h1
    obtain ⟨h2, n2⟩ := wipeE_get h2
    rw [wipe_out n1] at s1
    rw [wipe_out n2] at s2
    exact E.apart i j d e p h1 h2 s1 s2
  sN := E.sN
  sB := E.sB
  st := E.st
  sW := E.sW
  gk := E.gk
  gn := E.gn
  tb := E.tb
  sl := fun p e => by
    have n : C.pi ∉ vs := hv.elim (fun z => by rw [z] at e; cases e) id
    rw [wipe_out n, wipeE_out n]
    exact E.sl p e
  hi := E.hi
/-- what differs in the wiped places alone is wiped to the same -/
theorem wipe_but {σ σ' : L2.St} {vs : List Nat} (h : But vs (wipe σ vs) σ') : wipe σ' vs = wipe σ vs := by
  have at_ : ∀ (τ : L2.St) (j : Nat) (us : List Nat), j ∈ us → j < τ.length → (wipe τ us)[j]? = some none := by
    intro τ j us
    induction us with
    | nil => intro h; cases h
    | cons u us ih =>
      intro h hj
      unfold wipe
      by_cases e : u = j
      · subst e
        rw [List.getElem?_set_self (by rw [wipe_length]; exact hj)]
      · rw [List.getElem?_set_ne e]
        exact ih ((List.mem_cons.mp h).resolve_left (Ne.symm e)) hj
  have hl : σ'.length = σ.length := h.1.trans (wipe_length σ vs)
  apply List.ext_getElem?
  intro j
  by_cases hj : j ∈ vs
  · by_cases hlt : j < σ.length
    · rw [at_ σ' j vs hj (by omega), at_ σ j vs hj hlt]
    · rw [List.getElem?_eq_none (by rw [wipe_length]; omega), List.getElem?_eq_none (by rw [wipe_length]; omega)]
  · rw [wipe_out hj, h.2 j hj]
end

/-! ### list comprehensions -/
/-- the tests of a clause -/
abbrev DPs (X : Cx) (C : Cn) (W : WX) (ifs : List Expr) (t : Tx) : Prop := PTs X ifs (tT C W t)
theorem pts_imp {X : Cx} {e : List Expr} {t t' : TT} (h : PTs X e t) (i : ∀ σ H Q, t' σ H Q → t σ H Q) : PTs X e t' := ⟨fun pins s σ H Q I q => h.run pins s σ H Q I (i σ H Q q)⟩
def tTrue : Tx := fun _ w => .ok (true, w)
theorem dp_nil {X : Cx} {C : Cn} {W : WX} : DPs X C W [] tTrue := pts_imp pts_nil fun σ H Q hq => by
  obtain ⟨ρ, w, S, E, h⟩ := tT_to hq
  exact h H E.rf
theorem dp_one {X : Cx} {C : Cn} {W : WX} {c : Expr} {t : Tx} (h : DT X C W c t) : DPs X C W [c] t := pts_one h
/-- the items of a comprehension: the env ahead of each turn is ρ -/
def lcL (b : Gx) (t : Tx) (e : Ex) : List D → DEnv → List Int → Res (List D × List Int)
  | [], _, w => .ok ([], w)
  | d :: ds, ρ, w => match b d ρ with
    | none => .err
    | some ρ1 => (t ρ1 w).bind fun p => if p.1 then (e ρ1 p.2).bind fun q => match q.1 with
        | .bw _ => .err
        | r => (lcL b t e ds ρ q.2).bind fun z => .ok (r.d :: z.1, z.2)
      else lcL b t e ds ρ p.2
/-- a block lets nothing out -/
def noX {α : Type} (R : Res α) : Res α := match R with
  | .ok a => .ok a
  | _ => .err
def eLc (vs : List Nat) (f : Ix) (b : Gx) (t : Tx) (e : Ex) : Ex := fun ρ w => (f ρ w).bind fun p => (noX (lcL b t e p.1 (wipeE ρ vs) p.2)).bind fun z => if bz z.1.length then .ok (.ow (.list z.1), z.2) else .err
/-- no exception leaves a block -/
abbrev W0 : WX := fun _ _ _ _ => False
theorem bind_ok {α β : Type} {R : Res α} {f : α → Res β} {b : β} (h : R.bind f = .ok b) : ∃ a, R = .ok a ∧ f a = .ok b := by
  cases R with
  | ok a => exact ⟨a, rfl, h⟩
  | exc c d => cases h
  | err => cases h
/-- the items behind acc end well -/
def FinL (C : Cn) (H : Hp) (S : Addr → Prop) (Q : VK) (R : Res (List D × List Int)) (acc : List D) : Prop := ∃ zs w', R = .ok (zs, w') ∧ (acc ++ zs).length ≤ sizeLine ∧ ∀ v H', Pst C H H' w' → RvOk C H H' S v (.ow (.list (acc ++ zs))) → Q v H'
/-- the places of a block's own names -/
abbrev ownS (own : List (Str × Nat)) : List Nat := own.map fun p => p.2
section
variable {X : Cx} {C : Cn} {W : WX}
theorem de_lc {elt tg iter : Expr} {ifs : List Expr} {scope : Scope} {own : List (Str × Nat)} {pos : Pos} {f : Ix} {b : Gx} {tf : Tx} {ef : Ex} {ts : List Nat} (t : Tie X C) (hN : X.N.Nodup) (hv : C.pw = none ∨ C.pi ∉ ownS own) (hts : ∀ j ∈ ts, j ∈ ownS own) (hi : DI X C W tg iter f) (ok : BlkOk X.N X.env.scope scope own)
    (hg : ∀ (s : Shared) (H : Hp) (A : Addr) (cl : List (Str × Addr)) (fp : List Addr), DG (X.blk s H scope (compEnvC scope cl A X.env) fp) C tg b ts) (ht : ∀ (s : Shared) (H : Hp) (A : Addr) (cl : List (Str × Addr)) (fp : List Addr), DPs (X.blk s H scope (compEnvC scope cl A X.env) fp) C W0 ifs tf)
    (he : ∀ (s : Shared) (H : Hp) (A : Addr) (cl : List (Str × Addr)) (fp : List Addr), DE (X.blk s H scope (compEnvC scope cl A X.env) fp) C W0 elt ef) (hs : ∀ x, foldedSetIterable iter X.env x = pure x := by intro _; rfl) :
    DE X C W (.ListComp elt [⟨tg, iter, ifs, 0⟩] scope pos) (eLc (ownS own) f b tf ef) := by
  refine pe_imp (pe_lc t.calm hN hi ok hg ht he hs) fun σ H Q hq => ?_
  obtain ⟨ρ, w, S, E, q⟩ := eT_to hq
  unfold eLc at q
  refine ⟨ρ, w, S, E, q.bind.imp fun p hp J H1 src p1 it hsrc Dn hn => ?_⟩
  obtain ⟨ds, w1⟩ := p
  have E1 := E.go p1
  have hH : H Dn = none := p1.g.nn _ hn
  have h0 : C.H0 Dn = none := E1.gn Dn hn
  have hw : C.pw ≠ some Dn := fun z => by have := E1.st Dn z; rw [hn] at this; cases this
  obtain ⟨E2, fr⟩ := (E1.wiped hv).lay (o := .lst []) hn
  have fin0 : FinL C H S Q (lcL b tf ef ds (wipeE ρ (ownS own)) w1) [] := by
    revert hp
    show Good C W σ H ((noX (lcL b tf ef ds (wipeE ρ (ownS own)) w1)).bind _) _ → _
    cases lcL b tf ef ds (wipeE ρ (ownS own)) w1 with
    | ok z =>
      obtain ⟨zs, w2⟩ := z
      intro hp
      have hp : Good C W σ H (if bz zs.length = true then Res.ok (RV.ow (.list zs), w2) else .err) fun p => ∀ v H', Pst C H H' p.2 → RvOk C H H' S v p.1 → Q v H' := hp
      split at hp
      · rename_i hz
        exact ⟨zs, w2, rfl, of_decide_eq_true hz, hp⟩
      · exact hp.elim
    | exc c d => exact fun h => h.elim
    | err => exact fun h => h.elim
  refine ⟨fun i m Hc => m + i = ds.length ∧ ∃ wc acc accD, EnvOk C (wipeE ρ (ownS own)) wc (fun a => S a ∧ a ≠ Dn) (wipe σ (ownS own)) Hc ∧ Hc Dn = some (.lst acc) ∧ Rps C.P C.w C.K Hc (fun a => S a ∧ a ≠ Dn) acc accD ∧
      Grow C.pw H Hc ∧ (∀ v d, (v, d) ∈ src → Rp C.P C.w C.K Hc (fun a => S a ∧ a ≠ Dn) v d) ∧ FinL C H S Q (lcL b tf ef (ds.drop i) (wipeE ρ (ownS own)) wc) accD,
    ⟨ds.length, rfl, w1, [], [], E2, upd_same, .nil, p1.g.trans (Grow.new hn), fun v d m => ((hsrc v d m).avoid hn).mono (Ext.new hn).kept fun _ z => z, fin0⟩, ?_⟩
  intro i m Hc ⟨hm, wc, acc, accD, Ec, hD, ra, gr, hs', fin⟩
  obtain ⟨i1, i2⟩ := it _ Hc Ec.sN hs'
  cases m with
  | zero =>
    refine .inl ⟨i2 i (by show ds.length ≤ i; omega), ?_⟩
    rw [List.drop_eq_nil_of_le (by omega)] at fin
    obtain ⟨zs, w', e, _, fin⟩ := fin
    cases e
    rw [List.append_nil] at fin
    exact fin _ Hc ⟨gr, Ec.st, Ec.tb⟩ ⟨Dn, rfl, .lst hD ra, hH⟩
  | succ m =>
    have hi : i < ds.length := by omega
    obtain ⟨go, yl⟩ := i1 i hi
    rw [List.drop_eq_getElem_cons hi] at fin
    obtain ⟨zs0, w0, fin, fl⟩ := fin
    unfold lcL at fin
    refine .inr ⟨go, _, fun H' z => ⟨m, Nat.lt_succ_self m, z⟩, fun x H' y => ?_⟩
    obtain ⟨ex, d, ed, rd⟩ := yl x H' y
    have px := ex.pst Ec
    have Ey := Ec.go px
    have ed' : ds[i] = d := by rw [List.getElem?_eq_getElem hi] at ed; exact Option.some.inj ed
    rw [ed'] at fin
    cases eb : b d (wipeE ρ (ownS own)) with
    | none => rw [eb] at fin; cases fin
    | some ρ1 =>
      rw [eb] at fin
      obtain ⟨⟨k, wt⟩, et, fin⟩ := bind_ok fin
      refine ⟨_, wc, _, d, ρ1, Ey, rd, eb, fun σ2 Es bt => ⟨wipe_but ⟨bt.1, fun j hj => bt.2 j fun z => hj (hts j z)⟩, ?_⟩⟩
      -- a turn's end at H4: as it was, the new item behind
      have keepOn : ∀ (H4 : Hp) (w4 : List Int), Pst C Hc H4 w4 → H4 Dn = some (.lst acc) ∧ EnvOk C (wipeE ρ (ownS own)) w4 (fun a => S a ∧ a ≠ Dn) (wipe σ (ownS own)) H4 := fun H4 w4 p4 =>
        ⟨p4.g.keep _ _ hD (fun _ z => nomatch z) hw, Ec.go p4⟩
      refine tT_of Es Es.rf (by
          rw [et]
          intro H3 p3
          have pc3 := px.trans p3
          cases k with
          | false =>
            obtain ⟨hD3, E3⟩ := keepOn H3 wt pc3
            exact ⟨by omega, wt, acc, accD, E3, hD3, ra.mono (Ec.kept pc3.g) (fun _ z => z), gr.trans pc3.g, fun v d m => (hs' v d m).mono (Ec.kept pc3.g) fun _ z => z, zs0, w0, fin, fl⟩
          | true =>
            have Es3 := Es.go p3
            obtain ⟨⟨r, we⟩, ee, fin⟩ := bind_ok fin
            refine eT_of Es3 Es3.rf (by
                rw [ee]
                intro v H4 p4 r4
                have pc4 := pc3.trans p4
                obtain ⟨hD4, E4⟩ := keepOn H4 we pc4
                have nb : ∀ d, r ≠ .bw d := fun d z => by subst z; cases fin
                have rv := r4.rp Es3 nb
                have fin : ((lcL b tf ef (ds.drop (i + 1)) (wipeE ρ (ownS own)) we).bind fun z => Res.ok (r.d :: z.1, z.2)) = .ok (zs0, w0) := by
                  revert fin
                  cases r with
                  | fz d => exact fun f => f
                  | ow d => exact fun f => f
                  | bw d => exact absurd rfl (nb d)
                obtain ⟨⟨zs, wz⟩, ez, fin⟩ := bind_ok fin
                cases fin
                have e : accD ++ r.d :: zs = accD ++ [r.d] ++ zs := by simp
                have fin2 : accD.length < sizeLine ∧ FinL C H S Q (lcL b tf ef (ds.drop (i + 1)) (wipeE ρ (ownS own)) we) (accD ++ [r.d]) := by
                  refine ⟨?_, zs, wz, ez, ?_, ?_⟩
                  · have hz := fl.1
                    rw [List.length_append, List.length_cons] at hz
                    omega
                  · rw [← e]; exact fl.1
                  · rw [← e]; exact fl.2
                have ku := kept_upd (S := fun a => S a ∧ a ≠ Dn) (o' := .lst (acc ++ [v])) (fun z => z.2 rfl) hD4 (.inl ⟨_, rfl⟩)
                refine ⟨acc, hD4, by rw [ra.length]; exact fin2.1, by omega, we, acc ++ [v], accD ++ [r.d], E4.turn fr (fun z => z.2 rfl) h0 hw hD4 (.inl ⟨_, rfl⟩), upd_same, ?_, ?_, ?_, fin2.2⟩
                · exact ((ra.mono (Ec.kept pc4.g) fun _ z => z).append (.cons rv .nil)).mono ku fun _ z => z
                · refine ⟨fun a o h n q => ?_, fun a h => ?_⟩
                  · rw [upd_ne (fun z => by rw [z, hH] at h; cases h)]
                    exact (gr.trans pc4.g).keep a o h n q
                  · by_cases z : a = Dn
                    · rw [z]; exact hH
                    · rw [upd_ne z] at h; exact (gr.trans pc4.g).nn a h
                · exact fun v d m => ((hs' v d m).mono (Ec.kept pc4.g) fun _ z => z).mono ku fun _ z => z))
end
end DL
namespace DL
open PySem PySem.Spec PyProof.Rows L2

section
variable {C : Cn} {ρ : DEnv} {w w' : List Int} {S : Addr → Prop} {σ : L2.St} {H H' : Hp} {p : Addr} {o o' : HO} {i : Nat} {d d' : D}
/-- a name's own thing is turned -/
theorem EnvOk.mut (E : EnvOk C ρ w S σ H) (hρ : ρ[i]? = some (some (.ow d))) (hσ : σ[i]? = some (some (.ref p))) (hp : H p = some o) (ho : (∃ xs, o = .lst xs) ∨ ∃ P w xs, o = DN P w p xs) (new : Own C.P C.w C.K (upd H p o') S p d') :
    EnvOk C (ρ.set i (some (.ow d'))) w S σ (upd H p o') := by
  obtain ⟨v, hv, q, e, ow, h0, hS, hw⟩ := E.val i _ hρ
  rw [hσ] at hv
  cases hv
  cases e
  have k := kept_upd (o' := o') hS hp ho
  have ne0 : ∀ a u, C.H0 a = some u → a ≠ p := fun a u h z => by rw [z, h0] at h; cases h
  refine ⟨by rw [List.length_set]; exact E.len, fun j e h => ?_, fun j k d e q h1 h2 s1 s2 => ?_, fun a h => ?_, E.sB, fun q e => ?_, E.sW, fun a u h n q => ?_, fun a h => ?_, tabs_upd E.tb hp ho, fun q e => ?_, fun v d m => (E.hi v d m).mono k fun _ z => z⟩
  · rcases get_set h with ⟨rfl, h2⟩ | ⟨hj, h2⟩
    · cases h2
      exact ⟨_, hσ, p, rfl, new, h0, hS, hw⟩
    · obtain ⟨v, h1, h3⟩ := E.val j e h2
      refine ⟨v, h1, ?_⟩
      cases e with
      | fz d => exact Rp.mono k (fun _ z => z) h3
      | ow d =>
        obtain ⟨q, e, ow, n, s, z⟩ := h3
        have qp : q ≠ p := fun y => hj (E.apart j i _ _ p h2 hρ (by rw [h1, e, y]) hσ)
        refine ⟨q, e, ?_, n, s, z⟩
        cases ow with
        | lst e r => exact .lst (by rw [upd_ne qp]; exact e) (r.mono k fun _ z => z)
        | dct e r => exact .dct (by rw [upd_ne qp]; exact e) (r.mono k fun _ z => z)
      | fn _ => exact h3
  · have old : ∀ (j : Nat) (d : D), (ρ.set i (some (.ow d')))[j]? = some (some (.ow d)) → ∃ d2, ρ[j]? = some (some (EV.ow d2)) := fun j d h => by
      rcases get_set h with ⟨rfl, _⟩ | ⟨_, h⟩
      · exact ⟨_, hρ⟩
      · exact ⟨_, h⟩
    obtain ⟨_, g1⟩ := old j d h1
    obtain ⟨_, g2⟩ := old k e h2
    exact E.apart j k _ _ q g1 g2 s1 s2
  · by_cases e : a = p
    · subst e; rw [upd_same] at h; cases h
    · rw [upd_ne e] at h; exact E.sN a h
  · have qp : q ≠ p := fun z => hw (by rw [← z]; exact e)
    rw [upd_ne qp]; exact E.st q e
  · rw [upd_ne (ne0 a u h)]
    exact E.gk a u h n q
  · by_cases e : a = p
    · subst e; exact h0
    · rw [upd_ne e] at h; exact E.gn a h
  · obtain ⟨a, b⟩ := E.sl q e
    have hne : i ≠ C.pi := fun z => by rw [← z, hρ] at b; cases b
    exact ⟨a, by rw [List.getElem?_set_ne hne]; exact b⟩
/-- the state's list is turned -/
theorem EnvOk.stUp (E : EnvOk C ρ w S σ H) (hp : C.pw = some p) : EnvOk C ρ w' S σ (upd H p (.lst (w'.map V.int))) := by
  have hl : H p = some (.lst (w.map V.int)) := E.st p hp
  have hS : ¬ S p := E.sW p hp
  have ho : (∃ xs, HO.lst (w.map V.int) = .lst xs) ∨ ∃ P w' xs, HO.lst (w.map V.int) = DN P w' p xs := .inl ⟨_, rfl⟩
  have k := kept_upd (o' := .lst (w'.map V.int)) hS hl ho
  refine ⟨E.len, fun j e h => ?_, E.apart, fun a h => ?_, E.sB, fun q e => ?_, E.sW, fun a u h n q => ?_, fun a h => ?_, tabs_upd E.tb hl ho, E.sl, fun v d m => (E.hi v d m).mono k fun _ z => z⟩
  · obtain ⟨v, h1, h3⟩ := E.val j e h
    refine ⟨v, h1, ?_⟩
    cases e with
    | fz d => exact Rp.mono k (fun _ z => z) h3
    | ow d =>
      obtain ⟨q, e, ow, n, s, z⟩ := h3
      have qp : q ≠ p := fun y => z (by rw [y]; exact hp)
      refine ⟨q, e, ?_, n, s, z⟩
      cases ow with
      | lst e r => exact .lst (by rw [upd_ne qp]; exact e) (r.mono k fun _ z => z)
      | dct e r => exact .dct (by rw [upd_ne qp]; exact e) (r.mono k fun _ z => z)
    | fn _ => exact h3
  · by_cases e : a = p
    · subst e; rw [upd_same] at h; cases h
    · rw [upd_ne e] at h; exact E.sN a h
  · have : q = p := by rw [hp] at e; exact (Option.some.inj e).symm
    subst this
    exact upd_same
  · have ap : a ≠ p := fun z => q (by rw [z]; exact hp)
    rw [upd_ne ap]
    exact E.gk a u h n q
  · by_cases e : a = p
    · subst e; rw [upd_same] at h; cases h
    · rw [upd_ne e] at h; exact E.gn a h
/-- a name's own thing is its own no longer -/
theorem EnvOk.freeze (E : EnvOk C ρ w S σ H) (hρ : ρ[i]? = some (some (.ow d))) : ∃ S', EnvOk C (ρ.set i (some (.fz d))) w S' σ H := by
  obtain ⟨v, hv, p, e, ow, h0, hS, hw⟩ := E.val i _ hρ
  subst e
  refine ⟨fun a => S a ∨ a = p, by rw [List.length_set]; exact E.len, fun j e h => ?_, fun j k d e q h1 h2 s1 s2 => ?_, fun a h => .inl (E.sN a h), fun a h => ?_, E.st, fun q e h => ?_, E.gk, E.gn, E.tb, fun q e => ?_, fun v d m => (E.hi v d m).mono .refl fun _ z => .inl z⟩
  · rcases get_set h with ⟨rfl, h2⟩ | ⟨hj, h2⟩
    · cases h2
      exact ⟨_, hv, ow.rp (fun _ z => .inl z) (.inr rfl)⟩
    · obtain ⟨v, h1, h3⟩ := E.val j e h2
      refine ⟨v, h1, ?_⟩
      cases e with
      | fz d => exact Rp.mono .refl (fun _ z => .inl z) h3
      | ow d =>
        obtain ⟨q, e, ow, n, s, z⟩ := h3
        refine ⟨q, e, ow.mono fun _ z => .inl z, n, fun y => y.elim s fun y => ?_, z⟩
        exact hj (E.apart j i _ _ p h2 hρ (by rw [h1, e, y]) hv)
      | fn _ => exact h3
  · rcases get_set h1 with ⟨rfl, z⟩ | ⟨hj, g1⟩
    · cases z
    rcases get_set h2 with ⟨rfl, z⟩ | ⟨hk, g2⟩
    · cases z
    exact E.apart j k _ _ q g1 g2 s1 s2
  · rcases h with h | rfl
    · exact E.sB a h
    · exact .inr h0
  · rcases h with h | rfl
    · exact E.sW q e h
    · exact hw e
  · obtain ⟨a, b⟩ := E.sl q e
    have hne : i ≠ C.pi := fun z => by rw [← z, hρ] at b; cases b
    exact ⟨a, by rw [List.getElem?_set_ne hne]; exact b⟩
end

section
variable {X : Cx} {C : Cn} {W : WX} {pos : Pos}
/-- what was a name's own is handed about from here on -/
def sFrz (i : Nat) (g : Sx) : Sx := fun ρ w => match ρ[i]? with
  | some (some (.ow d)) => g (ρ.set i (some (.fz d))) w
  | _ => g ρ w
theorem ds_frz {i : Nat} {st : List Stmt} {g : Sx} (h : DSs X C W st g) : DSs X C W st (sFrz i g) := pss_imp h fun σ H D hq => by
  obtain ⟨ρ, w, S, E, q⟩ := sT_to hq
  unfold sFrz at q
  split at q
  · rename_i e
    obtain ⟨S', E'⟩ := E.freeze e
    exact sT_of E' q
  · exact sT_of E q
/-! the state's list -/
def eStG (k : Nat) : Ex := fun _ w => match w[k]? with
  | some z => .ok (.fz (.int z), w)
  | none => .err
theorem de_stG {y : Str} {i k : Nat} {k' : Int} {py pk : Pos} {j : Tok} (hp : ∃ p, C.pw = some p) (hk : k' = (k : Int)) (hi : C.pi = i) (hN : X.N[i]? = some y) (hv : Vis X.env.scope y) (hs : PlainIx (.Constant (.int k') j pk) := by exact fun _ _ => rfl) (hd : (y == ("__debug__" : Str)) = false := by decide) (hcd : (y == ("__classdict__" : Str)) = false := by decide) :
    DE X C W (.Subscript (.Name y py) (.Constant (.int k') j pk) pos) (eStG k) := by
  subst hk
  refine pe_imp (pe_ix ix_list (pe_var hN hv hd hcd) pe_int hs) fun σ H Q hq => ?_
  obtain ⟨ρ, w, S, E, q⟩ := eT_to hq
  obtain ⟨p, hp⟩ := hp
  unfold eStG at q
  cases e : w[k]? with
  | none => rw [e] at q; exact q.elim
  | some z =>
    rw [e] at q
    refine ⟨.ref p, by rw [← hi]; exact (E.sl p hp).1, p, w.map V.int, k, .int z, rfl, rfl, .of (E.st p hp), atI_nat (by rw [List.getElem?_map, e]; rfl), q _ H E.rf (.int _)⟩
def sStS (k : Nat) (f : Ex) : Sx := fun ρ w => ofR (f ρ w) fun p => match p.1.d with
  | .int z => if k < p.2.length then .nx ρ (p.2.set k z) else .err
  | _ => .err
theorem ixN_nat {n k : Nat} (h : k < n) : ixN n (k : Int) = some k := by
  have e := atI_nat (xs := List.range n) (j := k) (v := k) (by rw [List.getElem?_range h])
  unfold atI at e
  rw [List.length_range] at e
  cases q : ixN n (k : Int) with
  | none => rw [q] at e; cases e
  | some j =>
    rw [q] at e
    have e : (List.range n)[j]? = some k := e
    have hj : j < n := by
      have := (List.getElem?_eq_some_iff.mp e).1
      rwa [List.length_range] at this
    rw [List.getElem?_range hj] at e
    exact e
/-- the place k of the state's list as a target -/
theorem go_stS {y : Str} {i k : Nat} {pw : Addr} {Q : L2.St → Hp → Prop} {ρ : DEnv} {w : List Int} {S : Addr → Prop} {σ : L2.St} {H : Hp} {z : Int} (hi : C.pi = i) (hp : C.pw = some pw) (E : EnvOk C ρ w S σ H) (hk : k < w.length) (q : ∀ H', EnvOk C ρ (w.set k z) S σ H' → Kept S H H' → Q σ H') : gSub (tVar i) (tC (.int k)) rSetL (.int z) σ H Q := by
  refine ⟨.ref pw, by rw [← hi]; exact (E.sl pw hp).1, pw, w.map V.int, k, k, rfl, rfl, E.st pw hp, ixN_nat (by rw [List.length_map]; exact hk), ?_⟩
  have := E.stUp (w' := w.set k z) hp
  rw [List.map_set] at this
  exact q _ this (kept_upd (E.sW pw hp) (E.st pw hp) (.inl ⟨_, rfl⟩))
theorem ds_stS {y : Str} {i k : Nat} {k' : Int} {py pk ps' : Pos} {j : Tok} {e : Expr} {f : Ex} (hp : ∃ p, C.pw = some p) (hk : k' = (k : Int)) (hi : C.pi = i) (hN : X.N[i]? = some y) (hv : Vis X.env.scope y) (he : DE X C W e f) (hd : (y == ("__debug__" : Str)) = false := by decide) (hcd : (y == ("__classdict__" : Str)) = false := by decide)
    (ha : ∀ v, assign (.Subscript (.Name y py) (.Constant (.int k') j pk) ps') X.env v = (do
      let ov ← holding [v] (eval (.Name y py) X.env)
      let iv ← holding [v, ov] (eval (.Constant (.int k') j pk) X.env)
      standAt ps'
      holding [v, ov, iv] (setItem ov iv v)
      release [v, ov, iv] []) := by intro _; rfl)
    (hs : swapsWithSole [.Subscript (.Name y py) (.Constant (.int k') j pk) ps'] e pos.line X.env = pure false := by rfl) (hw : swappedStores [.Subscript (.Name y py) (.Constant (.int k') j pk) ps'] e X.env = pure none := by rfl)
    (h1 : (assignEach [.Subscript (.Name y py) (.Constant (.int k') j pk) ps'] X.env).map (·.2) = [assign (.Subscript (.Name y py) (.Constant (.int k') j pk) ps') X.env] := by rfl) :
    DS X C W (.Assign [.Subscript (.Name y py) (.Constant (.int k') j pk) ps'] e pos) (sStS k f) := by
  subst hk
  obtain ⟨p, hp⟩ := hp
  refine ps_imp (ps_asg he (pg_sub (pe_var hN hv hd hcd) pe_int set_list ha) hs hw h1) fun σ H D hq => ?_
  obtain ⟨ρ, w, S, E, q⟩ := sT_to hq
  refine eT_of E E.rf ((OutOk.ofR E q).imp fun z hz v H1 p1 r1 => ?_)
  revert hz
  obtain ⟨r, w1⟩ := z
  have l := r1.lt (ρ := ρ) (w := w) (σ := σ)
  cases e : r.d with
  | int z =>
    rw [e] at l
    have ev := l.int
    subst ev
    intro hz
    simp only [e] at hz
    split at hz
    · rename_i hk
      exact go_stS (y := y) hi hp (E.go p1) hk fun H' E' _ => hz σ H' S E'
    · exact hz.elim
  | _ => intro hz; simp only [e] at hz; exact hz.elim
/-- well[k], name = e -/
def sStT (k i2 : Nat) (f : Ex) : Sx := fun ρ w => ofR (f ρ w) fun p => match p.1 with
  | .fz (.tuple [.int z, d]) => if k < p.2.length then .nx (ρ.set i2 (some (.fz d))) (p.2.set k z) else .err
  | _ => .err
theorem ds_stT {y x2 : Str} {i k i2 kt : Nat} {k' : Int} {py pk ps' p2 pt : Pos} {j : Tok} {e : Expr} {f : Ex} (t : Tie X C) (hp : ∃ p, C.pw = some p) (hk : k' = (k : Int)) (hi : C.pi = i) (hN : X.N[i]? = some y) (hv : Vis X.env.scope y) (he : DE X C W e f)
    (h2 : C.pw = none ∨ i2 ≠ C.pi) (hN' : X.N.Nodup) (hx : X.N[i2]? = some x2) (hl : Loc X.env.scope x2) (hf : X.fn x2 = true ∨ X.env.scope.names.lookup x2 = some .local := by first | exact .inl rfl | exact .inr rfl)
    (hd : (y == ("__debug__" : Str)) = false := by decide) (hcd : (y == ("__classdict__" : Str)) = false := by decide)
    (ha : ∀ v, assign (.Subscript (.Name y py) (.Constant (.int k') j pk) ps') X.env v = (do
      let ov ← holding [v] (eval (.Name y py) X.env)
      let iv ← holding [v, ov] (eval (.Constant (.int k') j pk) X.env)
      standAt ps'
      holding [v, ov, iv] (setItem ov iv v)
      release [v, ov, iv] []) := by intro _; rfl)
    (hn : (assignEach [.Subscript (.Name y py) (.Constant (.int k') j pk) ps', .Name x2 p2] X.env).length = 2 := by rfl) (hst : (assignEach [.Subscript (.Name y py) (.Constant (.int k') j pk) ps', .Name x2 p2] X.env).findIdx? (·.1) = none := by rfl)
    (hc1 : (assignEach [.Subscript (.Name y py) (.Constant (.int k') j pk) ps', .Name x2 p2] X.env).map (·.2) = assign (.Subscript (.Name y py) (.Constant (.int k') j pk) ps') X.env :: (assignEach [.Name x2 p2] X.env).map (·.2) := by rfl)
    (hc2 : (assignEach [.Name x2 p2] X.env).map (·.2) = assign (.Name x2 p2) X.env :: (assignEach [] X.env).map (·.2) := by rfl)
    (hs : swapsWithSole [.Tuple [.Subscript (.Name y py) (.Constant (.int k') j pk) ps', .Name x2 p2] kt pt] e pos.line X.env = pure false := by rfl) (hw : swappedStores [.Tuple [.Subscript (.Name y py) (.Constant (.int k') j pk) ps', .Name x2 p2] kt pt] e X.env = pure none := by rfl)
    (h1 : (assignEach [.Tuple [.Subscript (.Name y py) (.Constant (.int k') j pk) ps', .Name x2 p2] kt pt] X.env).map (·.2) = [assign (.Tuple [.Subscript (.Name y py) (.Constant (.int k') j pk) ps', .Name x2 p2] kt pt) X.env] := by rfl) :
    DS X C W (.Assign [.Tuple [.Subscript (.Name y py) (.Constant (.int k') j pk) ps', .Name x2 p2] kt pt] e pos) (sStT k i2 f) := by
  subst hk
  obtain ⟨p, hp⟩ := hp
  refine ps_imp (ps_asg he (pg_tup t.calm (pgs_cons (pg_sub (pe_var hN hv hd hcd) pe_int set_list ha) (pgs_cons (pg_name hN' hx hl hf) pgs_nil hc2) hc1) hn hst) hs hw h1) fun σ H D hq => ?_
  obtain ⟨ρ, w, S, E, q⟩ := sT_to hq
  refine eT_of E E.rf ((OutOk.ofR E q).imp fun z hz v H1 p1 r1 => ?_)
  revert hz
  obtain ⟨r, w1⟩ := z
  simp only
  split
  · rename_i z d
    intro hz
    cases r1 with
    | tup sq rs =>
      cases rs with
      | cons r0 rs =>
        cases rs with
        | cons r2 rs =>
          cases rs
          cases r0
          rw [t.K] at sq
          split at hz
          · rename_i hk
            refine ⟨_, _, rfl, sq, rfl, _, _, rfl, ?_⟩
            refine go_stS (y := y) hi hp (E.go p1) hk fun H' E' kp => ?_
            exact ⟨_, [], rfl, rfl, hz _ H' S (E'.setF h2 (r2.mono kp fun _ z => z))⟩
          · exact hz.elim
  · exact fun hz => hz.elim
/-! xs.append(e), xs a name with a list of its own -/
def sApp (i : Nat) (f : Ex) : Sx := fun ρ w => match ρ[i]? with
  | some (some (.ow (.list ds))) => ofR (f ρ w) fun p => match p.1 with
    | .bw _ => .err
    | r => if ds.length < sizeLine then .nx (ρ.set i (some (.ow (.list (ds ++ [r.d]))))) p.2 else .err
  | _ => .err
theorem ds_app {y : Str} {i : Nat} {py pa pc : Pos} {e : Expr} {f : Ex} (t : Tie X C) (hN : X.N[i]? = some y) (hv : Vis X.env.scope y) (he : DE X C W e f) (hd : (y == ("__debug__" : Str)) = false := by decide) (hcd : (y == ("__classdict__" : Str)) = false := by decide)
    (hs1 : starEach [e] X.env = (false, eval e X.env) :: starEach [] X.env := by rfl) (hline : (pa.endLine == pc.line) = true := by rfl)
    (hbase : attributeBase (.Name y py) "append" X.env (eval (.Name y py) X.env) = eval (.Name y py) X.env := by rfl)
    (hfew : ((backTo pc (starEach [e] X.env)).all (fun x => !x.1) && (backToKw pc (keywordEach [] X.env)).all (fun x => x.1.isSome)
      && decide ([e].length + ([] : List Keyword).length + (if ([] : List Keyword).isEmpty then 0 else 1) < 30)) = true := by rfl)
    (hs : swapsWith (.Call (.Attribute (.Name y py) "append" pa) [e] [] pc) none pos.line X.env = pure false := by rfl) :
    DS X C W (.Expr (.Call (.Attribute (.Name y py) "append" pa) [e] [] pc) pos) (sApp i f) := by
  refine ps_imp (ps_expr (pe_bm PySem.F.plainAttrs_list PySem.F.slot_list_append PySem.F.type_list_append mt_append (pe_var hN hv hd hcd) (pa_cons he pa_nil hs1) hbase hfew hline hs1) hs) fun σ H D hq => ?_
  obtain ⟨ρ, w, S, E, q⟩ := sT_to hq
  unfold sApp at q
  split at q
  · rename_i ds e2
    obtain ⟨v, hv', p, ev, ow, h0, hS, hw⟩ := E.val i _ e2
    subst ev
    cases ow with
    | @lst vs _ hp rs =>
      refine ⟨_, hv', .inl ⟨rfl, vs, .of hp⟩, eT_of E E.rf ((OutOk.ofR E q).imp fun z hz u H1 p1 r1 => ?_)⟩
      obtain ⟨r, w1⟩ := z
      have main : (∀ d, r ≠ .bw d) → OutOk C W D (if ds.length < sizeLine then .nx (ρ.set i (some (.ow (.list (ds ++ [r.d]))))) w1 else .err) → rAppend (.ref p) [u] H1 fun _ H' => D.nx σ H' := fun nb hz => by
        split at hz
        · rename_i hl
          have hp1 := p1.g.keep _ _ hp (fun _ z => nomatch z) hw
          have E1 := E.go p1
          have k := kept_upd (o' := .lst (vs ++ [u])) hS hp1 (.inl ⟨_, rfl⟩)
          refine ⟨p, vs, u, rfl, rfl, hp1, by rw [rs.length]; exact hl, ?_⟩
          refine hz σ _ S (E1.mut e2 hv' hp1 (.inl ⟨_, rfl⟩) (.lst upd_same ?_))
          exact ((rs.mono (E.kept p1.g) fun _ z => z).append (.cons (r1.rp E nb) .nil)).mono k fun _ z => z
        · exact hz.elim
      cases r with
      | bw d => exact hz.elim
      | fz d => exact main (fun _ z => nomatch z) hz
      | ow d => exact main (fun _ z => nomatch z) hz
  · exact q.elim
end
end DL
namespace DL
open PySem PySem.Spec PyProof.Rows L2

section
variable {X : Cx} {C : Cn} {W : WX}
/-! ### a op b op' c -/
theorem go_chain {F G : D → D → Option RV} {f g h : Ex} : ∀ (σ : L2.St) (H : Hp) (Q : VK), eT C W (eChain F G f g h) σ H Q → tChain (op2 C F) (op2 C G) (eT C W f) (eT C W g) (eT C W h) σ H Q := by
  intro σ H Q hq
  obtain ⟨ρ, w, S, E, hq⟩ := eT_to hq
  unfold eChain at hq
  refine eT_of E E.rf (hq.bind.imp fun p hp v H1 p1 r1 => ?_)
  have E1 := E.go p1
  refine eT_of E1 p1 (hp.bind.imp fun q hq u H2 p2 r2 => ?_)
  have E2 := E1.go p2
  refine ⟨S, _, _, E2.sN, (RvOk.grow E E1 p2.g r1).lt (ρ := ρ) (w := w) (σ := σ), r2.lt (ρ := ρ) (w := w) (σ := σ), ?_⟩
  refine opQ_of E2 (p1.g.trans p2.g) (hq.bind.imp fun z hz v' H3 p3 r3 => ?_)
  have p03 := (p1.trans p2).trans p3
  revert hz
  have l3 := r3.lt (ρ := ρ) (w := w) (σ := σ)
  cases e : z.1.d with
  | bool b =>
    rw [e] at l3
    cases b with
    | true =>
      intro hz
      simp only [e] at hz
      refine ⟨true, l3.bool, ?_⟩
      simp only [if_true]
      have E3 := E2.go p3
      refine eT_of E3 p03 (hz.bind.imp fun y hy v4 H4 p4 r4 => ?_)
      have E4 := E3.go p4
      refine ⟨S, _, _, E4.sN, (RvOk.grow E1 E2 (p3.g.trans p4.g) r2).lt (ρ := ρ) (w := w) (σ := σ), r4.lt (ρ := ρ) (w := w) (σ := σ), ?_⟩
      exact opQ_of E4 (p03.g.trans p4.g) (hy.imp fun z hz v' H' p5 r5 => hz v' H' (p03.trans (p4.trans p5)) r5)
    | false =>
      intro hz
      simp only [e] at hz
      refine ⟨false, l3.bool, ?_⟩
      simp only [Bool.false_eq_true, if_false]
      exact hz _ _ p03 (.bl _)
  | _ => intro hz; simp only [e] at hz; exact hz.elim
theorem de_chain {op op' : CmpOp} {F G : D → D → Option RV} {f g h : Ex} {a b c : Expr} {pos : Pos} (ho : OpR X (compareOp op) (op2 C F)) (ho' : OpR X (compareOp op') (op2 C G)) (ha : DE X C W a f) (hb : DE X C W b g) (hc : DE X C W c h)
    (hm : lastMarks [op, op'] [b, c] = false := by with_unfolding_all rfl) : DE X C W (.Compare a [op, op'] [b, c] pos) (eChain F G f g h) := pe_imp (pe_chain ho ho' ha hb hc hm) go_chain
theorem dt_chain {op op' : CmpOp} {F G : D → D → Option RV} {f g h : Ex} {a b c : Expr} {pos : Pos} (ho : OpR X (compareOp op) (op2 C F)) (ho' : OpR X (compareOp op') (op2 C G)) (ha : DE X C W a f) (hb : DE X C W b g) (hc : DE X C W c h)
    (hm : lastMarks [op, op'] [b, c] = false := by with_unfolding_all rfl) : DT X C W (.Compare a [op, op'] [b, c] pos) (asB (eChain F G f g h)) :=
  pt_imp (pt_chain ho ho' ha hb hc hm) fun σ H Q hq => go_chain σ H _ (go_asB σ H Q hq)

/-! ### isinstance(x, T) -/
def tyName : D → String
  | .none => "NoneType"
  | .bool _ => "bool"
  | .int _ => "int"
  | .str _ => "str"
  | .list _ => "list"
  | .tuple _ => "tuple"
  | .dict _ => "dict"
/-- the answer for a built-in type -/
def isT (T : String) (d : D) : Option Bool := match d with
  | .dict _ => none
  | d => kitB (tyName d) T
def eIsi (T : String) (f : Ex) : Ex := fun ρ w => (f ρ w).bind fun p => match isT T p.1.d with
  | some b => .ok (.fz (.bool b), p.2)
  | none => .err
theorem Lt.ty {H : Hp} {S : Addr → Prop} {v : V} {d : D} (t : Tie X C) (l : Lt C H S v d) (nd : ∀ k, d ≠ .dict k) : TyX X.K H v (.type (tyName d)) := by
  cases d with
  | none => rw [l.none]; exact .base .non
  | bool b => rw [l.bool]; exact .base (.bl _)
  | int b => rw [l.int]; exact .base (.int _)
  | str b => rw [l.str]; exact .base (.str _)
  | list ds =>
    obtain ⟨a, vs, rfl, ra, _⟩ := l.list
    rcases ra with ra | ⟨o, ra⟩
    · exact .base (.lst ra)
    · exact .base (.frz ra)
  | tuple ds =>
    obtain ⟨a, vs, rfl, ra, _⟩ := l.tuple
    rw [t.K] at ra
    rcases ra with (ra | ⟨o, ra⟩) | ⟨o, its, n, lk, c, _⟩
    · exact .base (.tup ra)
    · exact .fTuple ra
    · exact .kTuple lk c
  | dict k => exact absurd rfl (nd k)
theorem de_isi {T : String} {x : Str} {e : Expr} {f : Ex} {p py pos : Pos} (t : Tie X C) (hg : Gl X "isinstance") (hm : X.mg "isinstance" = none) (hgT : Gl X x) (hmT : X.mg x = none) (hT : bootBuiltins x = some (.type T)) (he : DE X C W e f)
    (hv : bootBuiltins "isinstance" = some (.builtin "isinstance") := by decide +kernel) (hnT : x ≠ "__name__" := by decide) (hdT : (x == ("__debug__" : Str)) = false := by decide)
    (he2 : starEach [e, .Name x py] X.env = (false, eval e X.env) :: starEach [.Name x py] X.env := by rfl) (he3 : starEach [.Name x py] X.env = (false, eval (.Name x py) X.env) :: starEach [] X.env := by rfl) (hpl : (backTo pos (starEach [.Name x py] X.env)).any (·.1) = false := by rfl) :
    DE X C W (.Call (.Name "isinstance" p) [e, .Name x py] [] pos) (eIsi T f) := by
  refine pe_imp (pe_callB call_isi hg hm hv (pa_cons he (pa_cons (pe_bltn (v := .ty T) hgT hmT hT rfl hnT hdT) pa_nil he3) he2) (by decide) (by decide) he2 hpl) fun σ H Q hq => ?_
  obtain ⟨ρ, w, S, E, hq⟩ := eT_to hq
  unfold eIsi at hq
  refine eT_of E E.rf (hq.bind.imp fun z hz v H1 p1 r1 => ?_)
  have l := r1.lt (ρ := ρ) (w := w) (σ := σ)
  revert hz
  cases e : isT T z.1.d with
  | none => exact fun hz => hz.elim
  | some b =>
    intro hz
    have nd : ∀ k, z.1.d ≠ .dict k := fun k y => by rw [y] at e; cases e
    refine ⟨v, .ty T, .type (tyName z.1.d), .type T, b, rfl, .ty T, l.ty t nd, kit_ty ?_, hz _ _ p1 (.bl _)⟩
    unfold isT at e
    revert e nd
    cases z.1.d with
    | dict k => exact fun _ nd => absurd rfl (nd k)
    | _ => exact fun e _ => e

/-! ### sorted, repr -/
def alikes (ds : List D) : Bool := ds.all fun a => ds.all fun b => PySem.W.alike a b
def allTup (ds : List D) : Bool := ds.all fun d => match d with
  | .tuple (_ :: _) => true
  | _ => false
def noneTup (ds : List D) : Bool := ds.all fun d => match d with
  | .tuple _ => false
  | .none => false
  | _ => true
def srtD (ds : List D) : List D := ds.mergeSort (PySem.W.dataLe false id)
def fSorted : List D → Option RV
  | [.list ds] => if flatDs ds && decide (PyData.depthAll ds ≤ 60) && alikes ds && (allTup ds || noneTup ds) then some (.ow (.list (srtD ds))) else none
  | _ => none
theorem each_of {H : Hp} {S : Addr → Prop} : ∀ {vs : List V} {its : List Value} {ds : List D}, Rps C.P C.w C.K H S vs ds → Vals vs its → PySem.W.EachIs (fun u d => ∃ v, RelV v u ∧ Rp C.P C.w C.K H S v d) its ds
  | _, _, _, .nil, .nil => .nil
  | _, _, _, .cons h r, .cons q s => .cons ⟨_, q, h⟩ (each_of r s)
theorem of_each {H : Hp} {S : Addr → Prop} : ∀ {its : List Value} {ds : List D}, PySem.W.EachIs (fun u d => ∃ v, RelV v u ∧ Rp C.P C.w C.K H S v d) its ds → ∃ vs, Vals vs its ∧ Rps C.P C.w C.K H S vs ds
  | _, _, .nil => ⟨[], .nil, .nil⟩
  | _, _, .cons ⟨v, q, h⟩ r => by
    obtain ⟨vs, a, b⟩ := of_each r
    exact ⟨v :: vs, .cons q a, .cons h b⟩
theorem depth_mem : ∀ {ds : List D} {d : D}, d ∈ ds → d.depth ≤ PyData.depthAll ds := by
  intro ds
  induction ds with
  | nil => intro d h; cases h
  | cons a l ih =>
    intro d h
    unfold PyData.depthAll
    rcases List.mem_cons.mp h with rfl | h
    · exact Nat.le_max_left _ _
    · exact Nat.le_trans (ih h) (Nat.le_max_right _ _)
theorem flat_mem : ∀ {ds : List D} {d : D}, flatDs ds = true → d ∈ ds → flatD d = true := by
  intro ds
  induction ds with
  | nil => intro d _ h; cases h
  | cons a l ih =>
    intro d f h
    unfold flatDs at f
    have f := Bool.and_eq_true_iff.mp f
    rcases List.mem_cons.mp h with rfl | h
    · exact f.1
    · exact ih f.2 h
theorem call_sorted' (t : Tie X C) : CallR X (.builtin "sorted") (opN C fSorted) := by
  intro pins s σ H xs us Q I r q
  obtain ⟨S, ds, sN, l, q⟩ := q
  have hroom := t.room
  revert q
  unfold fSorted
  split
  · rename_i ds
    intro q
    obtain ⟨x, rfl, lx⟩ := l.one
    obtain ⟨a, vs, rfl, ra, pa⟩ := lx.list
    obtain ⟨hc, q⟩ := ite_some q
    have h1 := Bool.and_eq_true_iff.mp hc
    have h2 := Bool.and_eq_true_iff.mp h1.1
    have h3 := Bool.and_eq_true_iff.mp h2.1
    have hd := of_decide_eq_true h3.2
    obtain ⟨its, n, rv, hl, hz⟩ := rd_list I ra
    rw [Vals.ref1 r]
    have e1 := each_of pa rv
    have eR : ∀ {its : List Value} {ds' : List D}, (∀ d ∈ ds', flatD d = true) → PySem.W.EachIs (fun u d => ∃ v, RelV v u ∧ Rp C.P C.w C.K H S v d) its ds' → PySem.W.EachIs (fun v b => ∃ as, Reads s.heap v (id b) as) its ds' := by
      intro its ds' hf e
      induction e with
      | nil => exact .nil
      | cons h _ ih =>
        obtain ⟨v, q, r⟩ := h
        exact .cons (Lt.reads t I (.inl r) (hf _ List.mem_cons_self) q) (ih fun d m => hf d (List.mem_cons_of_mem _ m))
    refine PySem.W.sorted_data (enc := id) (R := fun u d => ∃ v, RelV v u ∧ Rp C.P C.w C.K H S v d) (bs := ds) (vs := its) ⟨_, hl, rfl, n, rfl⟩ e1 (eR (fun d m => flat_mem h3.1 m) e1) ?_ ?_ (by rw [← pa.length]; exact hz) ?_ ?_
    · intro a ha b hb
      rw [List.map_id] at ha hb
      exact List.all_eq_true.mp (List.all_eq_true.mp h2.2 a ha) b hb
    · rw [List.map_id]
      rcases Bool.or_eq_true_iff.mp h1.2 with h | h
      · refine .inl fun d m => ?_
        have := List.all_eq_true.mp h d m
        revert this
        cases d with
        | tuple l =>
          cases l with
          | cons x r => exact fun _ => ⟨x, r, rfl⟩
          | nil => intro z; cases z
        | _ => intro z; cases z
      · refine .inr fun d m => ?_
        have := List.all_eq_true.mp h d m
        revert this
        cases d with
        | tuple l => intro z; cases z
        | none => intro z; cases z
        | bool b => exact fun _ => ⟨fun z => (nomatch z), fun _ z => (nomatch z)⟩
        | int b => exact fun _ => ⟨fun z => (nomatch z), fun _ z => (nomatch z)⟩
        | str b => exact fun _ => ⟨fun z => (nomatch z), fun _ z => (nomatch z)⟩
        | list b => exact fun _ => ⟨fun z => (nomatch z), fun _ z => (nomatch z)⟩
        | dict b => exact fun _ => ⟨fun z => (nomatch z), fun _ z => (nomatch z)⟩
    · intro d m
      have := depth_mem m
      show X.A.units + 2 + d.depth < cLine
      omega
    · intro out hlen eo
      obtain ⟨vs', a, b⟩ := of_each eo
      obtain ⟨ep, he'⟩ := PyProof.Rows.sortedAll_at s.heap its out.toArray
      have hz' : vs'.length ≤ sizeLine := by rw [a.length, hlen, ← pa.length]; exact hz
      exact ⟨.ref _, upd H (s.heap.objs.size + 1) (.lst vs'), I.laid (t' := s.toks) (fun _ _ => PyProof.Rows.sortedAll_old) (Nat.le_succ _) ⟨hz', out, ep, a, he'⟩, rfl, opQ_lst q rfl b _ (I.hok.fresh (Nat.le_succ _))⟩
  · exact fun q => q.elim
def fRepr : List D → Option RV
  | [.list ds] => if flatDs ds && (PyData.list ds).showable && decide ((PyData.list ds).depth ≤ 60) && bz (PyData.list ds).shown.length then some (.fz (.str (PyData.list ds).shown)) else none
  | [.tuple ds] => if flatDs ds && (PyData.tuple ds).showable && decide ((PyData.tuple ds).depth ≤ 60) && bz (PyData.tuple ds).shown.length then some (.fz (.str (PyData.tuple ds).shown)) else none
  | _ => none
mutual
theorem flat_noDict : ∀ d : D, flatD d = true → d.hasDict = false
  | .none, _ => by unfold PyData.hasDict; rfl
  | .bool _, _ => by unfold PyData.hasDict; rfl
  | .int _, _ => by unfold PyData.hasDict; rfl
  | .str _, _ => by unfold PyData.hasDict; rfl
  | .list ds, h => by unfold PyData.hasDict; unfold flatD at h; exact flat_noDicts ds h
  | .tuple ds, h => by unfold PyData.hasDict; unfold flatD at h; exact flat_noDicts ds h
  | .dict _, h => by unfold flatD at h; cases h
theorem flat_noDicts : ∀ ds : List D, flatDs ds = true → PyData.hasDictAll ds = false
  | [], _ => by unfold PyData.hasDictAll; rfl
  | d :: ds, h => by
    unfold flatDs at h
    have h := Bool.and_eq_true_iff.mp h
    unfold PyData.hasDictAll
    rw [flat_noDict d h.1, flat_noDicts ds h.2]; rfl
end
theorem repr_go (t : Tie X C) {pins : List (Addr × Obj)} {s : Shared} {σ : L2.St} {H : Hp} {us : List Value} {Q : VK} {S : Addr → Prop} {d : D} {a : Addr} (I : Inv X pins σ H s) (r : Vals [.ref a] us) (l : Lt C H S (.ref a) d) (hf : flatD d = true) (h1 : d.showable = true) (h2 : d.depth ≤ 60) (h3 : d.shown.length ≤ sizeLine) (q : Q (.str d.shown) H) :
    wpAny (model X.prog X.w) X.A (call (.builtin "repr") us) (EP X pins σ Q) X.xe s := by
  have hroom := t.room
  rw [Vals.ref1 r]
  obtain ⟨as, rd⟩ := l.reads t I hf (show RelV (.ref a) (.ref a) from rfl)
  refine repr_of_reads' rd h1 (fun z => by rw [flat_noDict d hf] at z; cases z) t.gd (by omega) (fun _ _ e => e) (fun h' u tk hk => ⟨.str d.shown, H, I.kept hk, ⟨u, rfl⟩, q⟩) h3
theorem call_repr' (t : Tie X C) : CallR X (.builtin "repr") (opN C fRepr) := by
  intro pins s σ H xs us Q I r q
  obtain ⟨S, ds, sN, l, q⟩ := q
  revert q
  unfold fRepr
  split
  · rename_i ds
    intro q
    obtain ⟨x, rfl, lx⟩ := l.one
    obtain ⟨a, vs, rfl, ra, pa⟩ := lx.list
    obtain ⟨hc, q⟩ := ite_some q
    have g1 := Bool.and_eq_true_iff.mp hc
    have g2 := Bool.and_eq_true_iff.mp g1.1
    have g3 := Bool.and_eq_true_iff.mp g2.1
    exact repr_go t I r lx (by unfold flatD; exact g3.1) g3.2 (of_decide_eq_true g2.2) (of_decide_eq_true g1.2) (opQ_val q rfl fun _ _ _ _ _ => .str _)
  · rename_i ds
    intro q
    obtain ⟨x, rfl, lx⟩ := l.one
    obtain ⟨a, vs, rfl, ra, pa⟩ := lx.tuple
    obtain ⟨hc, q⟩ := ite_some q
    have g1 := Bool.and_eq_true_iff.mp hc
    have g2 := Bool.and_eq_true_iff.mp g1.1
    have g3 := Bool.and_eq_true_iff.mp g2.1
    exact repr_go t I r lx (by unfold flatD; exact g3.1) g3.2 (of_decide_eq_true g2.2) (of_decide_eq_true g1.2) (opQ_val q rfl fun _ _ _ _ _ => .str _)
  · exact fun q => q.elim
end

/-! ### f(a=.., b=..) -/
/-- the items at the places perm -/
def pick {α : Type} (perm : List Nat) (l : List α) : List α := perm.filterMap fun j => l[j]?
/-- keywords ks, bound to the parameters: the j-th parameter's is the perm[j]-th keyword's -/
def KB (fd : FuncData) (ps ks : List Str) (perm : List Nat) : Prop := ∀ (s : Shared) (us : List Value), us.length = ks.length → BindsTo s fd ⟨[], ks.zip us⟩ (ps.zip (pick perm us))
theorem kb_of {K : PySem.W.Frag} {x qual : Str} {params : Arguments} {body : List Stmt} {scope : Scope} {kws : List (Str × V)} {f : Addr} {fd : FuncData} {ps ks : List Str} {perm : List Nat} (F : FunD K x qual params body scope [] kws f fd)
    (h : ∀ (kV doc pm : Value) (an : Option Addr) (cdv ct : Value) (us : List Value), us.length = ks.length → bindArgs (PySem.W.fnOf x qual params body scope .none kV doc pm an cdv ct) ⟨[], ks.zip us⟩ = pure (ps.zip (pick perm us))) : KB fd ps ks perm := by
  obtain ⟨oc, od, dV, kV, doc, pm, an, cdv, ct, osl, rfl, lk, hcd, hD, hK⟩ := F.ex
  rcases hD with ⟨_, rfl⟩ | ⟨e, _⟩
  · exact fun s us hl => .of_eq (h kV doc pm an cdv ct us hl)
  · exact absurd rfl e
section
variable {X : Cx} {G : Pg} {C : Cn} {W : WX} {k kc : Nat} {f : Addr} {fd : FuncData} {ps ks : List Str} {perm : List Nat} {F : FSem}
abbrev DK (X : Cx) (C : Cn) (W : WX) (kws : List Keyword) (f : Ax) : Prop := PK X kws (aT C W f)
theorem pk_imp {kws : List Keyword} {t t' : TA} (h : PK X kws t) (i : ∀ σ H Q, t' σ H Q → t σ H Q) : PK X kws t' := ⟨fun pos pins s σ H Q I q => h.run pos pins s σ H Q I (i σ H Q q)⟩
theorem go_cons {f : Ex} {af : Ax} : ∀ (σ : L2.St) (H : Hp) (Q : List V → Hp → Prop), aT C W (aCons f af) σ H Q → tCons (eT C W f) (aT C W af) σ H Q := by
  intro σ H Q hq
  obtain ⟨ρ, w, S, E, hq⟩ := aT_to hq
  unfold aCons at hq
  refine eT_of E E.rf (hq.bind.imp fun p hp v H1 p1 r1 => ?_)
  refine aT_of (E.go p1) p1 (hp.bind.imp fun q hq vs H2 p2 r2 => hq _ _ (p1.trans p2) (.cons (RvOk.grow E (E.go p1) p2.g r1) ?_))
  clear hq hp
  have back : ∀ {vs : List V} {rs : List RV}, RvsOk C H1 H2 S vs rs → RvsOk C H H2 S vs rs := by
    intro vs rs r
    induction r with
    | nil => exact .nil
    | cons h _ ih => exact .cons (h.back p1.g) ih
  exact back r2
theorem dk_nil : DK X C W [] aNil := pk_imp pk_nil fun σ H Q hq => by
  obtain ⟨ρ, w, S, E, hq⟩ := aT_to hq
  exact hq [] H E.rf .nil
theorem dk_cons {nm : Option Str} {e : Expr} {kpos : Pos} {kws : List Keyword} {f : Ex} {af : Ax} (ha : DE X C W e f) (hr : DK X C W kws af) : DK X C W (⟨nm, e, kpos⟩ :: kws) (aCons f af) := pk_imp (pk_cons ha hr) go_cons
theorem RvsOk.pick {S : Addr → Prop} {H H' : Hp} : ∀ (perm : List Nat) {vs : List V} {rs : List RV}, RvsOk C H H' S vs rs → RvsOk C H H' S (pick perm vs) (pick perm rs) := by
  intro perm vs rs r
  have at_ : ∀ (j : Nat), (vs[j]? = none ∧ rs[j]? = none) ∨ ∃ v x, vs[j]? = some v ∧ rs[j]? = some x ∧ RvOk C H H' S v x := by
    induction r with
    | nil => intro j; exact .inl ⟨by simp, by simp⟩
    | cons h _ ih =>
      intro j
      cases j with
      | zero => exact .inr ⟨_, _, rfl, rfl, h⟩
      | succ j => simpa using ih j
  induction perm with
  | nil => exact .nil
  | cons j perm ih =>
    unfold DL.pick at ih ⊢
    rcases at_ j with ⟨a, b⟩ | ⟨v, x, a, b, h⟩
    · rw [List.filterMap_cons, List.filterMap_cons, a, b]; exact ih
    · rw [List.filterMap_cons, List.filterMap_cons, a, b]; exact .cons h ih
theorem vals_pick : ∀ (perm : List Nat) {vs : List V} {us : List Value}, Vals vs us → Vals (pick perm vs) (pick perm us) := by
  intro perm vs us r
  have at_ : ∀ (j : Nat), (vs[j]? = none ∧ us[j]? = none) ∨ ∃ v x, vs[j]? = some v ∧ us[j]? = some x ∧ RelV v x := by
    induction r with
    | nil => intro j; exact .inl ⟨by simp, by simp⟩
    | cons h _ ih =>
      intro j
      cases j with
      | zero => exact .inr ⟨_, _, rfl, rfl, h⟩
      | succ j => simpa using ih j
  induction perm with
  | nil => exact .nil
  | cons j perm ih =>
    unfold DL.pick at ih ⊢
    rcases at_ j with ⟨a, b⟩ | ⟨v, x, a, b, h⟩
    · rw [List.filterMap_cons, List.filterMap_cons, a, b]; exact ih
    · rw [List.filterMap_cons, List.filterMap_cons, a, b]; exact .cons h ih
def eFnK (n m : Nat) (perm : List Nat) (F : FSem) (f : Ax) : Ex := fun ρ w => (f ρ w).bind fun p => if p.1.length == m && (pick perm p.1).length == n then outR (pick perm p.1) (F [] ((pick perm p.1).map frz) []) p.2 else .err
theorem de_fnK {x : Str} {p pos : Pos} {kws : List Keyword} {af : Ax} (o : Own1 X G C) (tk : Takes X W) (Fn : FnD G k kc f fd ps false F) (hr : Room k X.A) (hg : Gl X x) (hm : X.mg x = some (.ref f)) (hk : PySem.W.keepIn X.K (.ref f) = true) (hb : KB fd ps ks perm) (ha : DK X C W kws af)
    (hall : (backToKw pos (keywordEach kws X.env)).all (·.1.isSome) = true := by rfl) (hks : (backToKw pos (keywordEach kws X.env)).filterMap (·.1) = ks := by rfl)
    (hdb : (x == ("__debug__" : Str)) = false := by decide) (hpl : ((backTo pos (starEach [] X.env)).any (·.1) || (backToKw pos (keywordEach kws X.env)).any (·.1.isNone)) = false := by rfl) : DE X C W (.Call (.Name x p) [] kws pos) (eFnK ps.length ks.length perm F af) := by
  refine ⟨fun pins s σ H Q I h => ?_⟩
  obtain ⟨ρ, w, S, E, h⟩ := eT_to h
  unfold eFnK at h
  refine wpAny_Call_Name_kw (ld_glob I hg hm ?_ hdb)
  refine PySem.W.callWith_KW0 (h₀ := X.base) I.ok.mod.kin hk hall (thn (ha.run pos pins s σ H (fun vs H1 => ∃ rs w1, Pst C H H1 w1 ∧ RvsOk C H H1 S vs rs ∧ Good C W σ H (if rs.length == ks.length && (pick perm rs).length == ps.length then outR (pick perm rs) (F [] ((pick perm rs).map frz) []) w1 else .err) fun p => ∀ v H', Pst C H H' p.2 → RvOk C H H' S v p.1 → Q v H') I (aT_of E E.rf (h.bind.imp fun q hq vs H1 p1 r1 => ⟨_, _, p1, r1, hq⟩))) fun us s1 ⟨vs, H1, I1, r, rs, w1, p1, r1, q⟩ => ⟨I1.kIn, ?_⟩) hpl
  split at q
  · rename_i hl
    have hl := Bool.and_eq_true_iff.mp hl
    rw [hks]
    have hb' := hb s1 us (by rw [← r.length, r1.length]; exact beq_iff_eq.mp hl.1)
    exact run_fnD o tk Fn hr E p1 I1 (r1.pick perm) hb' (beq_iff_eq.mp hl.2) (vals_pick perm r) q
  · exact q.elim
end
end DL
namespace DL
open PySem PySem.Spec PyProof.Rows L2
/-! ### the law's door: the script stands, the tables are empty -/
def doorH (a : Addr) (o : Obj) (zs : List Int) (ts : List Addr) : Hp := fun b => if b = a then some (.frz o (.lst (zs.map V.int))) else if b ∈ ts then some (.tbl #[]) else none
theorem doorH_at {a : Addr} {o : Obj} {zs : List Int} {ts : List Addr} : doorH a o zs ts a = some (.frz o (.lst (zs.map V.int))) := if_pos rfl
theorem doorH_tab {a b : Addr} {o : Obj} {zs : List Int} {ts : List Addr} (h : b ∈ ts) (n : b ≠ a) : doorH a o zs ts b = some (.tbl #[]) := (if_neg n).trans (if_pos h)
theorem doorH_out {a b : Addr} {o : Obj} {zs : List Int} {ts : List Addr} (h : b ∉ ts) (n : b ≠ a) : doorH a o zs ts b = none := (if_neg n).trans (if_neg h)
theorem doorH_cases (a : Addr) (o : Obj) (zs : List Int) (ts : List Addr) (b : Addr) : b = a ∨ (b ≠ a ∧ b ∈ ts) ∨ (b ≠ a ∧ b ∉ ts) := by
  by_cases e : b = a
  · exact .inl e
  · by_cases m : b ∈ ts
    · exact .inr (.inl ⟨e, m⟩)
    · exact .inr (.inr ⟨e, m⟩)
theorem rps_int {P : Program} {w : World} {K : PySem.W.Frag} {H : Hp} {S : Addr → Prop} : ∀ zs : List Int, Rps P w K H S (zs.map V.int) (zs.map PyData.int)
  | [] => .nil
  | z :: zs => .cons (.int z) (rps_int zs)
/-- the door: a law by its promise -/
theorem law_door {P : Program} {w : World} {K : PySem.W.Frag} {mg mb : Str → Option Value} {T : List NdefX.NTab} {cls : Nat → Value} {pay : Nat → Option Addr → D → Hp → Prop} {k kc : Nat} {fa a : Addr} {cs : List (Addr × Addr)} {fd : FuncData} {x : Str} {φ : FSem} {s1 : Shared} {us : List Value} {zs : List Int} {w' : List Int}
    (inK : K.In s1.heap) (gl : s1.heap.Ns mainGlobals mg) (bl : s1.heap.Ns builtinsNs mb) (boot : ∀ y : Str, y ≠ "__name__" → mb y = bootBuiltins y) (lim : s1.heap.NoLimit) (gens : s1.gens = #[])
    (tabs : ∀ p ∈ cs, s1.heap.get? p.2 = some { cls := .none, data := .fields #[] }) (outK : ∀ p ∈ cs, K.lookup p.2 = none) (heads : ∀ p ∈ cs, PySem.W.CodeHd s1.heap p.1 p.2)
    (main : ∃ (m : Addr) (om : Obj), mg "__builtins__" = some (.ref m) ∧ m ≠ builtinsNs ∧ s1.heap.get? m = some om ∧ om.cls = .type "module" ∧ om.dict = some builtinsNs ∧ om.data = .plain)
    (scr : s1.heap.get? a = some { cls := .type "list", data := .seq us.toArray }) (numb : IntsAre us zs) (few : zs.length ≤ sizeLine) (room : Room k callerA) (aK : K.lookup a = none)
    (hT : ∀ q ∈ T, q.1 ∈ cs.map fun p => p.2)
    (keeps : ∀ base : Heap, K.In base → base.Ns mainGlobals mg → (∀ p ∈ cs, LamX.TabB base mg p.1 p.2) → FnD ⟨P, w, K, mg, base, T, cls, pay⟩ k kc fa fd [x] false φ)
    (binds : ∀ (s : Shared) (u : Value), BindsTo s fd ⟨[u], []⟩ [(x, u)])
    (law : φ [] [.fz (.list (zs.map PyData.int))] [] = .ok (.fz (.bool true), w')) :
    codeAny (model P w) callerA (.call (.ref fa) ⟨[.ref a], []⟩) (fun r s2 => r = .ok (.ret (.bool true)) ∧ OldK s1.heap s2.heap ∧ s2.os = s1.os ∧ AllBare s2.gens) s1 := by
  have rv := L2.vals_ints numb
  have tabA : ∀ b : Addr, (b ∈ cs.map fun p => p.2) → s1.heap.get? b = some { cls := .none, data := .fields #[] } := by
    intro b m
    obtain ⟨p, hp, rfl⟩ := List.mem_map.mp m
    exact tabs p hp
  have neA : ∀ b : Addr, (b ∈ cs.map fun p => p.2) → b ≠ a := by
    intro b m e
    have z := tabA b m
    rw [e, scr] at z
    have z2 := congrArg Obj.data (Option.some.inj z)
    cases z2
  have tabK : ∀ b : Addr, (b ∈ cs.map fun p => p.2) → K.lookup b = none := by
    intro b m
    obtain ⟨p, hp, rfl⟩ := List.mem_map.mp m
    exact outK p hp
  let ob : Obj := { cls := .type "list", data := .seq us.toArray }
  let H : Hp := doorH a ob zs (cs.map fun p => p.2)
  have look : ∀ b, b = a ∨ (b ≠ a ∧ b ∈ cs.map fun p => p.2) ∨ (b ≠ a ∧ b ∉ cs.map fun p => p.2) := doorH_cases a ob zs _
  have Ha : H a = some (.frz ob (.lst (zs.map V.int))) := doorH_at
  have Ht : ∀ b, (b ∈ cs.map fun p => p.2) → H b = some (.tbl #[]) := fun b m => doorH_tab m (neA b m)
  -- what is no list and no table is not told of
  have plain : ∀ {b : Addr} {o : Obj}, s1.heap.get? b = some o → (∀ l n, o.data ≠ .seq l n) → o.data ≠ .fields #[] → H b = none := by
    intro b o e n1 n2
    rcases look b with rfl | ⟨_, m⟩ | ⟨n, m⟩
    · rw [scr] at e
      cases e
      exact absurd rfl (n1 _ _)
    · rw [tabA b m] at e
      cases e
      exact absurd rfl n2
    · exact doorH_out m n
  have still : ∀ {b : Addr} {o : Obj}, s1.heap.get? b = some o → H b = none → (hidT s1.heap H).get? b = some o := fun e n => hidT_get e n
  have nsD : ∀ {b : Addr} {m : Str → Option Value}, s1.heap.Ns b m → (hidT s1.heap H).Ns b m := by
    rintro b m ⟨o, es, ep, e, d, r⟩
    refine ⟨o, es, ep, still e (plain e (fun l n z => ?_) fun z => ?_), d, r⟩ <;> (rw [d] at z; cases z)
  have inB : K.In (hidT s1.heap H) := by
    intro b o e
    refine still (inK b o e) ?_
    rcases look b with rfl | ⟨_, m⟩ | ⟨n, m⟩
    · rw [aK] at e; cases e
    · rw [tabK b m] at e; cases e
    · exact doorH_out m n
  have hok : HOk P w H s1.heap := by
    intro b u z
    rcases look b with rfl | ⟨_, m⟩ | ⟨n, m⟩
    · rw [Ha] at z
      cases z
      exact ⟨scr, by rw [List.length_map]; exact few, us, _, rv, scr⟩
    · rw [Ht b m] at z
      cases z
      exact tabA b m
    · rw [show H b = none from doorH_out m n] at z
      cases z
  have modl : L2.Mod K mg (hidT s1.heap H) := ⟨inB, nsD gl, ⟨mb, nsD bl, boot⟩, let ⟨c, l1, l2⟩ := lim; ⟨c, nsD l1, l2⟩⟩
  have tb : ∀ p ∈ cs, LamX.TabB (hidT s1.heap H) mg p.1 p.2 := by
    intro p hp
    refine ⟨?_, ?_, fun z => ?_⟩
    · obtain ⟨o, l, file, tf, fl, tg, inF, tx, tt, e, r1, r2, r3, rest⟩ := heads p hp
      refine ⟨o, l, file, tf, fl, tg, inF, tx, tt, still e (plain e (fun _ _ z => ?_) fun z => ?_), r1, r2, r3, rest⟩
      · rw [r2] at z; cases z
      · rw [r2] at z
        cases z
        simp at r3
    · obtain ⟨m, om, g1, g2, g3, g4, g5, g6⟩ := main
      refine ⟨m, om, g1, g2, fun q => ?_, fun q => ?_, still g3 (plain g3 (fun _ _ z => ?_) fun z => ?_), g4, g5, g6⟩
      · obtain ⟨o, es, ep, e, d, _⟩ := gl
        rw [q, e] at g3
        cases g3
        rw [d] at g6; cases g6
      · rw [q, tabs p hp] at g3
        cases g3
        cases g6
      · rw [g6] at z; cases z
      · rw [g6] at z; cases z
    · obtain ⟨o, es, ep, e, d, _⟩ := gl
      rw [z, tabs p hp] at e
      cases e
      cases d
  have start : Env0 P w K mg (hidT s1.heap H) callerA [] s1 H := ⟨rfl, modl, fun b o e => of_hidT e, Nat.le_of_eq (hidT_size _ _), trivial, fun b m => absurd (show b ∈ ([] : List Addr) from m) (by simp), hok, .of_eq gens⟩
  have goes := (keeps _ inB (nsD gl) tb).run callerA [] s1 H ⟨[.ref a], []⟩ [.ref a] [.ref a] (fun v _ => v = .bl true) (fun _ _ _ => False) room rfl start (binds s1 (.ref a)) rfl (.cons rfl .nil)
    ⟨fun _ => True, [.fz (.list (zs.map PyData.int))], [], none, [], [], [.ref a], ⟨rfl, rfl⟩, (fun p e => nomatch e), .dat (.lst trivial (.inr ⟨ob, Ha⟩) (rps_int zs)) .nil, .nil, (fun q hq => .nil (Ht _ (hT q hq))), by
      rw [law]
      intro v H' _ _ _ r
      cases r
      rfl⟩
  refine codeAny_mono goes fun r s2 h => ?_
  cases r with
  | error e =>
    obtain ⟨_, _, _, _, _, _, _, _, _, _, _, _, z⟩ := (show L2.CX P w [] H s1 (fun _ _ _ => False) e s2 from h)
    exact z.elim
  | ok fl =>
    cases fl with
    | next => exact False.elim h
    | brk => exact False.elim h
    | cont => exact False.elim h
    | ret u =>
      obtain ⟨v, H', os, bare, un, hok2, r, q⟩ := h
      have q : v = .bl true := q
      subst q
      obtain rfl : u = Value.bool true := r
      have grown : ∀ b, (b ∈ cs.map fun p => p.2) → ∃ more : Array Value, s2.heap.get? b = some { cls := .none, data := .fields more } := by
        intro b m
        obtain ⟨more, z⟩ := un.tbls b #[] (Ht b m)
        exact ⟨_, hok2 b _ z⟩
      have stays : ∀ b o, (b ∉ cs.map fun p => p.2) → s1.heap.get? b = some o → s2.heap.get? b = some o := by
        intro b o nm e
        rcases look b with rfl | ⟨_, m⟩ | ⟨n, m⟩
        · have z := un.frzs b ob _ Ha
          rw [scr] at e
          cases e
          exact (hok2 b _ z).1
        · exact absurd m nm
        · exact un.keep b o e (doorH_out m n) (fun z => absurd (show b ∈ ([] : List Addr) from z) (by simp)) (by simp)
      refine ⟨rfl, ⟨fun b o e => ?_, fun b o e => ?_⟩, os, bare⟩
      · by_cases m : b ∈ cs.map fun p => p.2
        · obtain ⟨more, z⟩ := grown b m
          obtain ⟨p, hp, rfl⟩ := List.mem_map.mp m
          have e' := tabs p hp
          rw [e'] at e
          cases e
          exact .inr (.inl ⟨((heads p hp).tab e').isCodeTable, rfl, #[], more, rfl, by rw [Array.empty_append]; exact z⟩)
        · exact .inl (stays b o m e)
      · by_cases m : b ∈ cs.map fun p => p.2
        · obtain ⟨more, z⟩ := grown b m
          exact ⟨_, z⟩
        · exact ⟨o, stays b o m e⟩
end DL
namespace DL
open PySem PySem.Spec PyProof.Rows L2
section
variable {X : Cx} {G : Pg} {C : Cn} {W : WX} {k kc : Nat} {f : Addr} {fd : FuncData} {ps : List Str} {F : FSem}
/-- f(a new list of numbers): it is f's state -/
def eFnF (F : FSem) (f : Ax) : Ex := fun ρ w => (f ρ w).bind fun p => match p.1 with
  | [.ow (.list ds)] => (match intsD ds with
    | some w0 => outR [] (F [] [] w0) p.2
    | none => .err)
  | _ => .err
theorem de_fnF {x q : Str} {p pos : Pos} {e : Expr} {af : Ax} (o : Own1 X G C) (tk : Takes X W) (Fn : FnD G k kc f fd [q] true F) (hr : Room k X.A) (hg : Gl X x) (hm : X.mg x = some (.ref f)) (hk : PySem.W.keepIn X.K (.ref f) = true) (hb : Binds X.K fd [q] []) (ha : DA X C W [e] af)
    (hdb : (x == ("__debug__" : Str)) = false := by decide) (he : starEach [e] X.env = (false, eval e X.env) :: starEach [] X.env := by rfl) (hpl : (backTo pos (starEach ([] : List Expr) X.env)).any (·.1) = false := by rfl) : DE X C W (.Call (.Name x p) [e] [] pos) (eFnF F af) := by
  refine ⟨fun pins s σ H Q I h => ?_⟩
  obtain ⟨ρ, w, S, E, h⟩ := eT_to h
  unfold eFnF at h
  have hP : C.P = G.P := o.t.P.trans o.P.symm
  have hw : C.w = G.w := o.t.w.trans o.w.symm
  have hK : C.K = G.K := o.t.K.trans o.K.symm
  refine wpAny_Call_Name_kw (ld_glob I hg hm ?_ hdb)
  refine PySem.W.callWith_K (h₀ := X.base) I.ok.mod.kin hk (thn (ha.run pos pins s σ H (fun vs H1 => ∃ rs w1, Pst C H H1 w1 ∧ RvsOk C H H1 S vs rs ∧ Good C W σ H (match rs with
    | [.ow (.list ds)] => (match intsD ds with
      | some w0 => outR [] (F [] [] w0) w1
      | none => .err)
    | _ => .err) fun p => ∀ v H', Pst C H H' p.2 → RvOk C H H' S v p.1 → Q v H') I (aT_of E E.rf (h.bind.imp fun q hq vs H1 p1 r1 => ⟨_, _, p1, r1, hq⟩))) fun us s1 ⟨vs, H1, I1, r, rs, w1, p1, r1, q⟩ => ⟨I1.kIn, ?_⟩) he hpl
  split at q
  · rename_i ds
    split at q
    · rename_i w0 hw0
      obtain ⟨_, _⟩ | ⟨h1, h2⟩ := r1
      cases h2
      obtain ⟨a, rfl, own, na⟩ := h1
      cases own with
      | lst at1 rps =>
        rename_i zs
        have hz := rps_ints hw0 rps
        subst hz
        have hb' := hb s1 us I1.kIn (by rw [List.append_nil, ← r.length]; rfl)
        rw [List.append_nil] at hb'
        have ne : ∀ b u, H b = some u → b ≠ a := fun b u e z => by rw [z, na] at e; cases e
        have grow : ∀ H', Grow (some a) H1 H' → Grow C.pw H H' := fun H' g => ⟨fun b u e n m => g.keep b u (p1.g.keep b u e n m) n (fun z => ne b u e (Option.some.inj z).symm), fun b z => p1.g.nn b (g.nn b z)⟩
        have stays : ∀ H', Grow (some a) H1 H' → StOk C w1 H' := fun H' g b e => by
          have hs := E.st b e
          exact g.keep _ _ (p1.st b e) (fun _ z => nomatch z) (fun z => ne b _ hs (Option.some.inj z).symm)
        refine run_core o tk Fn hr I1 hb' rfl r ⟨fun _ => False, [], w0, some a, [], [], [], ⟨a, rfl, rfl⟩, fun b e => ?_, .nil, .nil, by rw [← o.T]; exact p1.tb, ?_⟩
        · cases e
          exact ⟨at1, id⟩
        have q := q.ret
        revert q
        cases F [] [] w0 with
        | ok z =>
          obtain ⟨r', w'⟩ := z
          intro ⟨_, q⟩ v H' g st tb ret
          refine q v H' ⟨grow H' g, stays H' g, by rw [o.T]; exact tb⟩ ?_
          exact (ret_rv (S := S) hP hw hK ret (.inl fun b z => z.elim False.elim fun z => E.sN b (p1.g.nn b z))).back p1.g
        | exc c d =>
          intro q H' da w' g st tb hp'
          have := q H' da w1 (grow H' g) (stays H' g) (by rw [o.T]; exact tb) (by rw [o.pay]; exact hp')
          rw [o.cls] at this
          exact this
        | err => exact fun h => h
    · exact q.elim
  · exact q.elim
end
end DL
namespace DL
open PySem PySem.Spec PyProof.Rows L2
/-! ### a def's body: what every step of it asks -/
def visB (sc : Scope) (x : Str) : Bool := match sc.names.lookup x with
  | some .local => true
  | some .cell => true
  | some .free => true
  | _ => false
theorem vis_of {sc : Scope} {x : Str} (h : visB sc x = true) : Vis sc x := by
  unfold visB at h
  split at h
  · rename_i e; exact .inl e
  · rename_i e; exact .inr (.inl e)
  · rename_i e; exact .inr (.inr e)
  · cases h
def locB (sc : Scope) (x : Str) : Bool := match sc.names.lookup x with
  | some .local => true
  | some .cell => true
  | _ => false
theorem loc_of {sc : Scope} {x : Str} (h : locB sc x = true) : Loc sc x := by
  unfold locB at h
  split at h
  · rename_i e; exact .inl e
  · rename_i e; exact .inr e
  · cases h
def nameOk (x : Str) : Bool := !(x == ("__debug__" : Str)) && !(x == ("__classdict__" : Str))
def namesOk (N : List Str) : Bool := N.all nameOk
theorem namesOk_at {N : List Str} {i : Nat} {x : Str} (h : namesOk N = true) (e : N[i]? = some x) : (x == ("__debug__" : Str)) = false ∧ (x == ("__classdict__" : Str)) = false := by
  have h1 := List.all_eq_true.mp h x (List.mem_of_getElem? e)
  unfold nameOk at h1
  have h2 := Bool.and_eq_true_iff.mp h1
  exact ⟨by simpa using h2.1, by simpa using h2.2⟩
structure Wk (G : Pg) (k : Nat) (X : Cx) (C : Cn) (W : WX) : Prop where
  o : Own1 X G C
  tk : Takes X W
  hr : Room k X.A
  nm : namesOk X.N = true
  nd : X.N.Nodup
  pi : C.pi = 0
section
variable {G : Pg} {k : Nat} {X : Cx} {C : Cn} {W : WX}
theorem Wk.t (h : Wk G k X C W) : Tie X C := h.o.t
theorem Wk.hide (h : Wk G k X C W) {l : List (V × D)} : Wk G k X (C.hide l) W :=
  ⟨⟨⟨h.o.t.P, h.o.t.w, h.o.t.K, h.o.t.calm, h.o.t.room, h.o.t.gd⟩, h.o.P, h.o.w, h.o.K, h.o.mg, h.o.base, h.o.T, h.o.cls, h.o.pay⟩, h.tk, h.hr, h.nm, h.nd, h.pi⟩
theorem Wk.blk (h : Wk G k X C W) {s : Shared} {H : Hp} {scope : Scope} {env : Env} {fp : List Addr} : Wk G k (X.blk s H scope env fp) C W0 :=
  ⟨⟨⟨h.o.t.P, h.o.t.w, h.o.t.K, h.o.t.calm, h.o.t.room, h.o.t.gd⟩, h.o.P, h.o.w, h.o.K, h.o.mg, h.o.base, h.o.T, h.o.cls, h.o.pay⟩, LamX.takes0, h.hr, h.nm, h.nd, h.pi⟩
/-- at a def's entry -/
theorem wk_def {N : List Str} {qual : Str} {scope : Scope} {f : Addr} {cdv : Value} {A : Around} {outer : List Env} {s : Shared} {H : Hp} {E : XK} {S0 : Addr → Prop} {pw : Option Addr} {fns : List Addr}
    (hr : Room k (A.deeper (envOfC qual scope s.heap.objs.size f cdv))) (hg : A.guards = some []) (hn : namesOk N = true) (nd : N.Nodup) :
    Wk G k (cxOf (L2.CX G.P G.w) G.P G.w G.K G.mg G.base N qual scope f cdv A outer s H E) (cnOf G H S0 pw fns) (fun cls d _ H => E cls d H) :=
  ⟨⟨⟨rfl, rfl, rfl, rfl, by have := hr.un; show (A.deeper (envOfC qual scope s.heap.objs.size f cdv)).units + 70 < _; omega, hg⟩, rfl, rfl, rfl, rfl, rfl, rfl, rfl, rfl⟩, takes_of rfl rfl rfl rfl, hr, hn, nd, rfl⟩
/-! ### the rules, shorter -/
theorem dv {i : Nat} {x : Str} {pos : Pos} (h : Wk G k X C W) (hN : X.N[i]? = some x) (hv : visB X.env.scope x = true) : DE X C W (.Name x pos) (eVar i) := de_var hN (vis_of hv) (namesOk_at h.nm hN).1 (namesOk_at h.nm hN).2
theorem dgn {i : Nat} {x : Str} {pos : Pos} (h : Wk G k X C W) (hi : C.pw = none ∨ i ≠ 0) (hN : X.N[i]? = some x) (hl : locB X.env.scope x = true) (hf : X.fn x = true ∨ X.env.scope.names.lookup x = some .local := by first | exact .inl rfl | exact .inr rfl) : DG X C (.Name x pos) (gNm i) [i] :=
  dg_name (by rw [h.pi]; exact hi) h.nd hN (loc_of hl) hf
theorem dsSet {i : Nat} {x : Str} {e : Expr} {f : Ex} {pos pos' : Pos} (h : Wk G k X C W) (hi : C.pw = none ∨ i ≠ 0) (hN : X.N[i]? = some x) (hl : locB X.env.scope x = true) (he : DE X C W e f) (hs : swapsWith e (some (.Name x pos')) pos.line X.env = pure false := by rfl) (hf : X.fn x = true ∨ X.env.scope.names.lookup x = some .local := by first | exact .inl rfl | exact .inr rfl) :
    DS X C W (.Assign [.Name x pos'] e pos) (sSet i f) := ds_set (by rw [h.pi]; exact hi) h.nd hN (loc_of hl) he hs hf
theorem deStG {y : Str} {m : Nat} {k' : Int} {pos py pk : Pos} {j : Tok} (h : Wk G k X C W) (hp : ∃ p, C.pw = some p) (hk : k' = (m : Int)) (hN : X.N[0]? = some y) (hv : visB X.env.scope y = true) : DE X C W (.Subscript (.Name y py) (.Constant (.int k') j pk) pos) (eStG m) :=
  de_stG hp hk h.pi hN (vis_of hv) (by exact fun _ _ => rfl) (namesOk_at h.nm hN).1 (namesOk_at h.nm hN).2
theorem deFn {kc j : Nat} {f : Addr} {fd : FuncData} {ps : List Str} {F : FSem} {x : Str} {p pos : Pos} {e : Expr} {es : List Expr} {af : Ax} (h : Wk G k X C W) (Fn : FnD G j kc f fd ps false F) (hj : Nat.ble j k = true) (hg : Gl X x) (hm : X.mg x = some (.ref f)) (hk : PySem.W.keepIn X.K (.ref f) = true) (hb : Binds X.K fd ps []) (ha : DA X C W (e :: es) af)
    (hdb : (x == ("__debug__" : Str)) = false := by decide) (he : starEach (e :: es) X.env = (false, eval e X.env) :: starEach es X.env := by rfl) (hpl : (backTo pos (starEach es X.env)).any (·.1) = false := by rfl) : DE X C W (.Call (.Name x p) (e :: es) [] pos) (eFn ps.length F af) :=
  de_fn h.o h.tk (Fn.mono (Nat.le_of_ble_eq_true hj)) h.hr hg hm hk hb ha hdb he hpl
theorem deFnS {kc j : Nat} {f : Addr} {fd : FuncData} {ps : List Str} {F : FSem} {x y : Str} {p pos py : Pos} {es : List Expr} {af : Ax} (h : Wk G k X C W) (hp : ∃ p, C.pw = some p) (Fn : FnD G j kc f fd ps true F) (hj : Nat.ble j k = true) (hg : Gl X x) (hm : X.mg x = some (.ref f)) (hk : PySem.W.keepIn X.K (.ref f) = true) (hb : Binds X.K fd ps []) (hN : X.N[0]? = some y) (hv : visB X.env.scope y = true) (ha : DA X C W es af)
    (hdb : (x == ("__debug__" : Str)) = false := by decide)
    (he : starEach (.Name y py :: es) X.env = (false, eval (.Name y py) X.env) :: starEach es X.env := by rfl) (hpl : (backTo pos (starEach es X.env)).any (·.1) = false := by rfl) : DE X C W (.Call (.Name x p) (.Name y py :: es) [] pos) (eFnS ps.length F af) :=
  de_fnS h.o h.tk hp (Fn.mono (Nat.le_of_ble_eq_true hj)) h.hr hg hm hk hb h.pi hN (vis_of hv) ha hdb (namesOk_at h.nm hN).1 (namesOk_at h.nm hN).2 he hpl
theorem deFnF {kc j : Nat} {f : Addr} {fd : FuncData} {F : FSem} {x q : Str} {p pos : Pos} {e : Expr} {af : Ax} (h : Wk G k X C W) (Fn : FnD G j kc f fd [q] true F) (hj : Nat.ble j k = true) (hg : Gl X x) (hm : X.mg x = some (.ref f)) (hk : PySem.W.keepIn X.K (.ref f) = true) (hb : Binds X.K fd [q] []) (ha : DA X C W [e] af)
    (hdb : (x == ("__debug__" : Str)) = false := by decide) (he : starEach [e] X.env = (false, eval e X.env) :: starEach [] X.env := by rfl) (hpl : (backTo pos (starEach ([] : List Expr) X.env)).any (·.1) = false := by rfl) : DE X C W (.Call (.Name x p) [e] [] pos) (eFnF F af) :=
  de_fnF h.o h.tk (Fn.mono (Nat.le_of_ble_eq_true hj)) h.hr hg hm hk hb ha hdb he hpl
theorem deFnK {kc j : Nat} {f : Addr} {fd : FuncData} {ps ks : List Str} {perm : List Nat} {F : FSem} {x : Str} {p pos : Pos} {kws : List Keyword} {af : Ax} (h : Wk G k X C W) (Fn : FnD G j kc f fd ps false F) (hj : Nat.ble j k = true) (hg : Gl X x) (hm : X.mg x = some (.ref f)) (hk : PySem.W.keepIn X.K (.ref f) = true) (hb : KB fd ps ks perm) (ha : DK X C W kws af)
    (hall : (backToKw pos (keywordEach kws X.env)).all (·.1.isSome) = true := by rfl) (hks : (backToKw pos (keywordEach kws X.env)).filterMap (·.1) = ks := by rfl)
    (hdb : (x == ("__debug__" : Str)) = false := by decide) (hpl : ((backTo pos (starEach [] X.env)).any (·.1) || (backToKw pos (keywordEach kws X.env)).any (·.1.isNone)) = false := by rfl) : DE X C W (.Call (.Name x p) [] kws pos) (eFnK ps.length ks.length perm F af) :=
  de_fnK h.o h.tk (Fn.mono (Nat.le_of_ble_eq_true hj)) h.hr hg hm hk hb ha hall hks hdb hpl
theorem b_len : bootBuiltins "len" = some (.builtin "len") := by decide +kernel
theorem b_abs : bootBuiltins "abs" = some (.builtin "abs") := by decide +kernel
theorem b_int : bootBuiltins "int" = some (.type "int") := by decide +kernel
theorem b_bool : bootBuiltins "bool" = some (.type "bool") := by decide +kernel
theorem b_str : bootBuiltins "str" = some (.type "str") := by decide +kernel
theorem b_dict : bootBuiltins "dict" = some (.type "dict") := by decide +kernel
theorem b_set : bootBuiltins "set" = some (.type "set") := by decide +kernel
theorem b_divmod : bootBuiltins "divmod" = some (.builtin "divmod") := by decide +kernel
theorem b_tuple : bootBuiltins "tuple" = some (.type "tuple") := by decide +kernel
theorem b_list : bootBuiltins "list" = some (.type "list") := by decide +kernel
theorem b_all : bootBuiltins "all" = some (.builtin "all") := by decide +kernel
theorem b_any : bootBuiltins "any" = some (.builtin "any") := by decide +kernel
theorem b_sum : bootBuiltins "sum" = some (.builtin "sum") := by decide +kernel
theorem b_max : bootBuiltins "max" = some (.builtin "max") := by decide +kernel
theorem b_min : bootBuiltins "min" = some (.builtin "min") := by decide +kernel
theorem b_sorted : bootBuiltins "sorted" = some (.builtin "sorted") := by decide +kernel
theorem b_repr : bootBuiltins "repr" = some (.builtin "repr") := by decide +kernel
end
end DL
namespace DL
open PySem PySem.Spec PyProof.Rows L2
section
variable {G : Pg} {k : Nat} {X : Cx} {C : Cn} {W : WX}
theorem ne_pi (h : Wk G k X C W) {i : Nat} (hi : i ≠ 0) : i ≠ C.pi := by rw [h.pi]; exact hi
def sBad : Sx := fun _ _ => .err
def sBrk : Sx := fun ρ w => .bk ρ w
def sCnt : Sx := fun ρ w => .ct ρ w
theorem deGI {x : Str} {i : Int} {pos : Pos} (hg : Gl X x) (hm : ∃ t, X.mg x = some (.int i t)) (hd : (x == ("__debug__" : Str)) = false := by decide) : DE X C W (.Name x pos) (eC (.int i)) := let ⟨_, e⟩ := hm; de_globI hg e hd
theorem deGS {x : Str} {i : Str} {pos : Pos} (hg : Gl X x) (hm : ∃ t, X.mg x = some (.str i t)) (hd : (x == ("__debug__" : Str)) = false := by decide) : DE X C W (.Name x pos) (eC (.str i)) := let ⟨_, e⟩ := hm; de_globS hg e hd
/-! ### a, b = e, f: side by side -/
def sPar2 (i j : Nat) (f : Ax) : Sx := fun ρ w => ofR (f ρ w) fun p => match p.1 with
  | [r, q] => if noBw [r, q] then .nx ((ρ.set i (some (.fz r.d))).set j (some (.fz q.d))) p.2 else .err
  | _ => .err
def sPar3 (i j l : Nat) (f : Ax) : Sx := fun ρ w => ofR (f ρ w) fun p => match p.1 with
  | [r, q, z] => if noBw [r, q, z] then .nx (((ρ.set i (some (.fz r.d))).set j (some (.fz q.d))).set l (some (.fz z.d))) p.2 else .err
  | _ => .err
theorem dsPar2 {i j : Nat} {x y : Str} {a b : Expr} {f : Ax} {px py pt pos : Pos} {kt k2 pt2} (h : Wk G k X C W) (hi : C.pw = none ∨ i ≠ 0) (hj : C.pw = none ∨ j ≠ 0) (nx : X.N[i]? = some x) (ny : X.N[j]? = some y) (hij : i ≠ j) (lx : X.env.scope.names.lookup x = some .local) (ly : X.env.scope.names.lookup y = some .local) (ha : DA X C W [a, b] f)
    (hw : swappedStores [.Tuple [.Name x px, .Name y py] kt pt] (.Tuple [a, b] k2 pt2) X.env = pure (some [x, y]) := by rfl) (hs : swapsWithSole [.Tuple [.Name x px, .Name y py] kt pt] (.Tuple [a, b] k2 pt2) pos.line X.env = pure false := by rfl) :
    DS X C W (.Assign [.Tuple [.Name x px, .Name y py] kt pt] (.Tuple [a, b] k2 pt2) pos) (sPar2 i j f) := by
  refine ps_imp (ps_par h.t.calm h.nd nx ny hij lx ly ha hw hs) fun σ H D hq => ?_
  obtain ⟨ρ, w, S, E, q⟩ := sT_to hq
  unfold sPar2 at q
  refine aT_of E E.rf ((OutOk.ofR E q).imp fun p hp vs H' p1 r1 => ?_)
  obtain ⟨rs, w1⟩ := p
  dsimp only at hp r1 p1
  split at hp
  · rename_i r q
    split at hp
    · rename_i nb
      cases r1.rps E nb with
      | cons ra rest =>
        cases rest with
        | cons rb rest =>
          cases rest
          exact ⟨_, _, rfl, hp _ _ _ (((E.go p1).setF (by rw [h.pi]; exact hi) ra).setF (by rw [h.pi]; exact hj) rb)⟩
    · exact hp.elim
  · exact hp.elim
theorem dsPar3 {i j l : Nat} {x y z : Str} {a b c : Expr} {f : Ax} {px py pz pt pos : Pos} {kt k2 pt2} (h : Wk G k X C W) (hi : C.pw = none ∨ i ≠ 0) (hj : C.pw = none ∨ j ≠ 0) (hl : C.pw = none ∨ l ≠ 0) (nx : X.N[i]? = some x) (ny : X.N[j]? = some y) (nz : X.N[l]? = some z) (hij : i ≠ j) (hil : i ≠ l) (hjl : j ≠ l) (lx : X.env.scope.names.lookup x = some .local) (ly : X.env.scope.names.lookup y = some .local) (lz : X.env.scope.names.lookup z = some .local) (ha : DA X C W [a, b, c] f)
    (hw : swappedStores [.Tuple [.Name x px, .Name y py, .Name z pz] kt pt] (.Tuple [a, b, c] k2 pt2) X.env = pure (some [x, y, z]) := by rfl) (hs : swapsWithSole [.Tuple [.Name x px, .Name y py, .Name z pz] kt pt] (.Tuple [a, b, c] k2 pt2) pos.line X.env = pure false := by rfl) :
    DS X C W (.Assign [.Tuple [.Name x px, .Name y py, .Name z pz] kt pt] (.Tuple [a, b, c] k2 pt2) pos) (sPar3 i j l f) := by
  refine ps_imp (ps_par3 h.t.calm h.nd nx ny nz hij hil hjl lx ly lz ha hw hs) fun σ H D hq => ?_
  obtain ⟨ρ, w, S, E, q⟩ := sT_to hq
  unfold sPar3 at q
  refine aT_of E E.rf ((OutOk.ofR E q).imp fun p hp vs H' p1 r1 => ?_)
  obtain ⟨rs, w1⟩ := p
  dsimp only at hp r1 p1
  split at hp
  · rename_i r q z
    split at hp
    · rename_i nb
      cases r1.rps E nb with
      | cons ra rest =>
        cases rest with
        | cons rb rest =>
          cases rest with
          | cons rc rest =>
            cases rest
            exact ⟨_, _, _, rfl, hp _ _ _ ((((E.go p1).setF (by rw [h.pi]; exact hi) ra).setF (by rw [h.pi]; exact hj) rb).setF (by rw [h.pi]; exact hl) rc)⟩
    · exact hp.elim
  · exact hp.elim
/-! ### -x -/
def fNeg : D → Option RV
  | .int i => some (.fz (.int (-i)))
  | _ => none
theorem un_neg' : UnR X (unaryOp .USub) (op1 C fNeg) := by
  intro pins s σ H x v Q I rx h
  obtain ⟨S, d, hS, l, q⟩ := h
  cases d with
  | int i =>
    obtain rfl := l.int
    refine un_neg pins s σ H _ v Q I rx ⟨i, rfl, ?_⟩
    exact q _ _ .refl (.int _)
  | _ => exact q.elim
/-! ### a block -/
def blkB (N : List Str) (sc scope : Scope) (own : List (Str × Nat)) : Bool :=
  (match scope.kind with | .function => true | _ => false) && (scope.names.all fun y => decide (scope.names.lookup y.1 = some y.2)) && (own.all fun p => decide (N[p.2]? = some p.1)) &&
    (scope.names.all fun y => !decide (y.2 = .free) || (decide (sc.names.lookup y.1 = some .cell) || decide (sc.names.lookup y.1 = some .free))) &&
    (scope.names.all fun y => !(decide (y.2 = .local) || decide (y.2 = .cell)) || ((own.any fun p => decide (p.1 = y.1)) || !decide (y.1 ∈ N)))
theorem blk_of {N : List Str} {sc scope : Scope} {own : List (Str × Nat)} (h : blkB N sc scope own = true) : BlkOk N sc scope own := by
  unfold blkB at h
  simp only [Bool.and_eq_true] at h
  obtain ⟨⟨⟨⟨h1, h2⟩, h3⟩, h4⟩, h5⟩ := h
  refine ⟨?_, fun y hy => of_decide_eq_true (List.all_eq_true.mp h2 y hy), fun p hp => of_decide_eq_true (List.all_eq_true.mp h3 p hp), fun y hy e => ?_, fun y hy e => ?_⟩
  · revert h1
    cases scope.kind <;> intro h1 <;> first | rfl | cases h1
  · have := List.all_eq_true.mp h4 y hy
    simp only [e, decide_true, Bool.not_true, Bool.false_or, Bool.or_eq_true, decide_eq_true_eq] at this
    exact this
  · have := List.all_eq_true.mp h5 y hy
    have e2 : (decide (y.2 = .local) || decide (y.2 = .cell)) = true := by rcases e with e | e <;> simp [e]
    simp only [e2, Bool.not_true, Bool.false_or, Bool.or_eq_true, List.any_eq_true, decide_eq_true_eq, Bool.not_eq_true', decide_eq_false_iff_not] at this
    rcases this with ⟨p, hp, z⟩ | z
    · exact .inl (List.mem_map.mpr ⟨p, hp, z⟩)
    · exact .inr z
theorem deLc {elt tg iter : Expr} {ifs : List Expr} {scope : Scope} {own : List (Str × Nat)} {pos : Pos} {f : Ix} {b : Gx} {tf : Tx} {ef : Ex} {ts : List Nat} (h : Wk G k X C W) (hv : C.pw = none ∨ (ownS own).contains 0 = false) (hts : ∀ j ∈ ts, j ∈ ownS own) (hi : DI X C W tg iter f) (ok : blkB X.N X.env.scope scope own = true)
    (hg : ∀ (s : Shared) (H : Hp) (A : Addr) (cl : List (Str × Addr)) (fp : List Addr), DG (X.blk s H scope (compEnvC scope cl A X.env) fp) C tg b ts) (ht : ∀ (s : Shared) (H : Hp) (A : Addr) (cl : List (Str × Addr)) (fp : List Addr), DPs (X.blk s H scope (compEnvC scope cl A X.env) fp) C W0 ifs tf)
    (he : ∀ (s : Shared) (H : Hp) (A : Addr) (cl : List (Str × Addr)) (fp : List Addr), DE (X.blk s H scope (compEnvC scope cl A X.env) fp) C W0 elt ef) (hs : ∀ x, foldedSetIterable iter X.env x = pure x := by intro _; rfl) :
    DE X C W (.ListComp elt [⟨tg, iter, ifs, 0⟩] scope pos) (eLc (ownS own) f b tf ef) :=
  de_lc h.t h.nd (hv.imp id fun z m => by
    rw [h.pi] at m
    have := List.contains_iff_mem.mpr m
    rw [z] at this; cases this) hts hi (blk_of ok) hg ht he hs
end
end DL
namespace DL
open PySem PySem.Spec PyProof.Rows L2
/-! ### reckoning: the combinators as rewriting -/
theorem bindC {α β : Type} {r r' : Res α} {f : α → Res β} (h : r = r') : r.bind f = r'.bind f := by rw [h]
theorem bind1 {α β : Type} {a : α} {f : α → Res β} : (Res.ok a).bind f = f a := rfl
theorem ofRC {α : Type} {r r' : Res α} {k : α → Out} (h : r = r') : ofR r k = ofR r' k := by rw [h]
theorem ofR1 {α : Type} {a : α} {k : α → Out} : ofR (Res.ok a) k = k a := rfl
def Out.seq (o : Out) (h : Sx) : Out := match o with
  | .nx ρ w => h ρ w
  | o => o
theorem seqC {o o' : Out} {h : Sx} (e : o = o') : o.seq h = o'.seq h := by rw [e]
theorem seq_nx {ρ : DEnv} {w : List Int} {h : Sx} : (Out.nx ρ w).seq h = h ρ w := rfl
theorem seq_rt {r : RV} {w : List Int} {h : Sx} : (Out.rt r w).seq h = .rt r w := rfl
theorem seq_ct {r : DEnv} {w : List Int} {h : Sx} : (Out.ct r w).seq h = .ct r w := rfl
theorem seq_bk {r : DEnv} {w : List Int} {h : Sx} : (Out.bk r w).seq h = .bk r w := rfl
theorem seq_exc {c : Nat} {d : D} {h : Sx} : (Out.exc c d).seq h = .exc c d := rfl
def Out.fin (o : Out) : Res (RV × List Int) := match o with
  | .nx _ w => .ok (.fz .none, w)
  | .rt r w => .ok (given r, w)
  | .exc c d => .exc c d
  | _ => .err
theorem fin_nx {ρ : DEnv} {w : List Int} : (Out.nx ρ w).fin = .ok (.fz .none, w) := rfl
theorem fin_rt {r : RV} {w : List Int} : (Out.rt r w).fin = .ok (given r, w) := rfl
theorem given_fz {d : D} : given (.fz d) = .fz d := rfl
theorem given_ow {d : D} : given (.ow d) = .ow d := rfl
theorem given_bw {d : D} : given (.bw d) = .ow d := rfl
theorem run1 {n : Nat} {st : Bool} {g : List CSem → Sx} {Φ : List CSem} {args : List EV} {w : List Int} : runB n st g Φ args w = (g Φ (env0 n st args) w).fin := by
  unfold runB Out.fin
  cases g Φ (env0 n st args) w <;> rfl
/-! what stands behind a step -/
abbrev RW2 : Type := RV × List Int
def kOp2 (F : D → D → Option RV) (d : D) (q : RW2) : Res RW2 := lift (F d q.1.d) q.2
def kOp1 (F : D → D → Option RV) (g : Ex) (ρ : DEnv) (p : RW2) : Res RW2 := (g ρ p.2).bind (kOp2 F p.1.d)
def kUn (U : D → Option RV) (p : RW2) : Res RW2 := lift (U p.1.d) p.2
def kCall (B : List D → Option RV) (p : List RV × List Int) : Res RW2 := lift (B (p.1.map RV.d)) p.2
def toB (d : D) (w : List Int) : Res (Bool × List Int) := match d with
  | .bool b => .ok (b, w)
  | _ => .err
def kB (p : RW2) : Res (Bool × List Int) := toB p.1.d p.2
def kAnd (tg : Tx) (ρ : DEnv) (p : Bool × List Int) : Res (Bool × List Int) := if p.1 then tg ρ p.2 else .ok (false, p.2)
def kOr (tg : Tx) (ρ : DEnv) (p : Bool × List Int) : Res (Bool × List Int) := if p.1 then .ok (true, p.2) else tg ρ p.2
def kNot (p : Bool × List Int) : Res (Bool × List Int) := .ok (!p.1, p.2)
def kEAnd (g : Ex) (ρ : DEnv) (p : Bool × List Int) : Res RW2 := if p.1 then g ρ p.2 else .ok (.fz (.bool false), p.2)
def kEOr (g : Ex) (ρ : DEnv) (p : Bool × List Int) : Res RW2 := if p.1 then .ok (.fz (.bool true), p.2) else g ρ p.2
def kENot (p : Bool × List Int) : Res RW2 := .ok (.fz (.bool (!p.1)), p.2)
def kIf (f g : Ex) (ρ : DEnv) (p : Bool × List Int) : Res RW2 := if p.1 then f ρ p.2 else g ρ p.2
def chn (G : D → D → Option RV) (h : Ex) (ρ : DEnv) (q : D) (z : D) (w : List Int) : Res RW2 := match z with
  | .bool true => (h ρ w).bind (kOp2 G q)
  | .bool false => .ok (.fz (.bool false), w)
  | _ => .err
def kC3 (G : D → D → Option RV) (h : Ex) (ρ : DEnv) (e : D) (z : RW2) : Res RW2 := chn G h ρ e z.1.d z.2
def kC2 (F G : D → D → Option RV) (h : Ex) (ρ : DEnv) (d : D) (q : RW2) : Res RW2 := (lift (F d q.1.d) q.2).bind (kC3 G h ρ q.1.d)
def kC1 (F G : D → D → Option RV) (g h : Ex) (ρ : DEnv) (p : RW2) : Res RW2 := (g ρ p.2).bind (kC2 F G h ρ p.1.d)
def kCons2 (a : RV) (q : List RV × List Int) : Res (List RV × List Int) := .ok (a :: q.1, q.2)
def kCons1 (af : Ax) (ρ : DEnv) (p : RW2) : Res (List RV × List Int) := (af ρ p.2).bind (kCons2 p.1)
def kTup (p : List RV × List Int) : Res RW2 := if noBw p.1 && decide (p.1.length ≤ sizeLine) then .ok (.fz (.tuple (p.1.map RV.d)), p.2) else .err
def kLst (p : List RV × List Int) : Res RW2 := if noBw p.1 && decide (p.1.length ≤ sizeLine) then .ok (.ow (.list (p.1.map RV.d)), p.2) else .err
def kFn (n : Nat) (G : FSem) (p : List RV × List Int) : Res RW2 := if p.1.length == n then outR p.1 (G [] (p.1.map frz) []) p.2 else .err
def kFnS (n : Nat) (G : FSem) (p : List RV × List Int) : Res RW2 := if p.1.length + 1 == n then outS p.1 (G [] (p.1.map frz) p.2) else .err
def kFnK (n m : Nat) (perm : List Nat) (G : FSem) (p : List RV × List Int) : Res RW2 := if p.1.length == m && (pick perm p.1).length == n then outR (pick perm p.1) (G [] ((pick perm p.1).map frz) []) p.2 else .err
def isiR (o : Option Bool) (w : List Int) : Res RW2 := match o with
  | some b => .ok (.fz (.bool b), w)
  | none => .err
def kIsi (T : String) (p : RW2) : Res RW2 := isiR (isT T p.1.d) p.2
def kSl3 (d : D) (l : Option Int) (h : Option Int × List Int) : Res RW2 := lift (fSl d l h.1) h.2
def kSl2 (hi : Bx) (ρ : DEnv) (d : D) (l : Option Int × List Int) : Res RW2 := (hi ρ l.2).bind (kSl3 d l.1)
def kSl1 (lo hi : Bx) (ρ : DEnv) (p : RW2) : Res RW2 := (lo ρ p.2).bind (kSl2 hi ρ p.1.d)
def toI (d : D) (w : List Int) : Res (Option Int × List Int) := match d with
  | .int i => .ok (some i, w)
  | _ => .err
def kI (p : RW2) : Res (Option Int × List Int) := toI p.1.d p.2
def nxO (o : Option DEnv) (w : List Int) : Out := match o with
  | some ρ => .nx ρ w
  | none => .err
def asgO (b : Gx) (ρ : DEnv) (r : RV) (w : List Int) : Out := match r with
  | .bw _ => .err
  | r => nxO (b r.d ρ) w
def stO (k : Nat) (ρ : DEnv) (d : D) (w : List Int) : Out := match d with
  | .int z => if k < w.length then .nx ρ (w.set k z) else .err
  | _ => .err
def oSx (ρ : DEnv) (p : RW2) : Out := .nx ρ p.2
def oRet (p : RW2) : Out := .rt p.1 p.2
def oIf (sg sh : Sx) (ρ : DEnv) (p : Bool × List Int) : Out := if p.1 then sg ρ p.2 else sh ρ p.2
def oSet (i : Nat) (ρ : DEnv) (p : RW2) : Out := nxO (put i ρ p.1) p.2
def oAsg (b : Gx) (ρ : DEnv) (p : RW2) : Out := asgO b ρ p.1 p.2
def par2O (i j : Nat) (ρ : DEnv) (rs : List RV) (w : List Int) : Out := match rs with
  | [r, q] => if noBw [r, q] then .nx ((ρ.set i (some (.fz r.d))).set j (some (.fz q.d))) w else .err
  | _ => .err
def par3O (i j l : Nat) (ρ : DEnv) (rs : List RV) (w : List Int) : Out := match rs with
  | [r, q, z] => if noBw [r, q, z] then .nx (((ρ.set i (some (.fz r.d))).set j (some (.fz q.d))).set l (some (.fz z.d))) w else .err
  | _ => .err
def oPar2 (i j : Nat) (ρ : DEnv) (p : List RV × List Int) : Out := par2O i j ρ p.1 p.2
def oPar3 (i j l : Nat) (ρ : DEnv) (p : List RV × List Int) : Out := par3O i j l ρ p.1 p.2
def oStS (k : Nat) (ρ : DEnv) (p : RW2) : Out := stO k ρ p.1.d p.2
def stTO (k i2 : Nat) (ρ : DEnv) (r : RV) (w : List Int) : Out := match r with
  | .fz (.tuple [.int z, d]) => if k < w.length then .nx (ρ.set i2 (some (.fz d))) (w.set k z) else .err
  | _ => .err
def oStT (k i2 : Nat) (ρ : DEnv) (p : RW2) : Out := stTO k i2 ρ p.1 p.2
def oFor (b : Gx) (g : Sx) (ρ : DEnv) (p : List D × List Int) : Out := loopL b g p.1 ρ p.2
def seqI (r : RV) (w : List Int) : Res (List D × List Int) := match r with
  | .fz (.list ds) => .ok (ds, w)
  | .fz (.tuple ds) => .ok (ds, w)
  | .ow (.list ds) => .ok (ds, w)
  | .ow (.tuple ds) => .ok (ds, w)
  | _ => .err
def kSeq (p : RW2) : Res (List D × List Int) := seqI p.1 p.2
def rg1 (l : List D) (w : List Int) : Res (List D × List Int) := match l with
  | [.int j] => if rngOk j then .ok (rngD 0 j.toNat, w) else .err
  | _ => .err
def rg2 (l : List D) (w : List Int) : Res (List D × List Int) := match l with
  | [.int i, .int j] => if rngOk i && rngOk j then .ok (rngD i (j - i).toNat, w) else .err
  | _ => .err
def kRg1 (p : List RV × List Int) : Res (List D × List Int) := rg1 (p.1.map RV.d) p.2
def kRg2 (p : List RV × List Int) : Res (List D × List Int) := rg2 (p.1.map RV.d) p.2
def mkL (z : List D × List Int) : Res RW2 := if bz z.1.length then .ok (.ow (.list z.1), z.2) else .err
def kLc (vs : List Nat) (b : Gx) (t : Tx) (e : Ex) (ρ : DEnv) (p : List D × List Int) : Res RW2 := (noX (lcL b t e p.1 (wipeE ρ vs) p.2)).bind mkL
def valD (r : RV) : Option D := match r with
  | .bw _ => none
  | r => some r.d
def kLc2 (d : D) (z : List D × List Int) : Res (List D × List Int) := .ok (d :: z.1, z.2)
def lcN (o : Option D) (k : List Int → Res (List D × List Int)) (w : List Int) : Res (List D × List Int) := match o with
  | some d => (k w).bind (kLc2 d)
  | none => .err
def kLe (k : List Int → Res (List D × List Int)) (q : RW2) : Res (List D × List Int) := lcN (valD q.1) k q.2
def kLt (e : Ex) (k : List Int → Res (List D × List Int)) (ρ : DEnv) (p : Bool × List Int) : Res (List D × List Int) := if p.1 then (e ρ p.2).bind (kLe k) else k p.2
def fnF (G : FSem) (rs : List RV) (w : List Int) : Res RW2 := match rs with
  | [.ow (.list ds)] => (match intsD ds with
    | some w0 => outR [] (G [] [] w0) w
    | none => .err)
  | _ => .err
def kFnF (G : FSem) (p : List RV × List Int) : Res RW2 := fnF G p.1 p.2
section
variable {ρ ρ' : DEnv} {w w' : List Int} {f g h : Ex} {tf tg : Tx} {af : Ax} {sg sh : Sx} {F G2 : D → D → Option RV} {U : D → Option RV} {B : List D → Option RV} {a r : RV} {rs : List RV} {G : FSem} {d e : D}
theorem e_seq : sSeq sg sh ρ w = (sg ρ w).seq sh := by
  unfold sSeq Out.seq
  cases sg ρ w <;> rfl
theorem e_var {i : Nat} : eVar i ρ w = match ρ[i]? with
  | some (some (.fz d)) => .ok (.fz d, w)
  | some (some (.ow d)) => .ok (.bw d, w)
  | _ => .err := rfl
theorem e_op : eOp F f g ρ w = (f ρ w).bind (kOp1 F g ρ) := rfl
theorem k_op1 : kOp1 F g ρ (a, w) = (g ρ w).bind (kOp2 F a.d) := rfl
theorem k_op2 : kOp2 F d (a, w) = lift (F d a.d) w := rfl
theorem e_un : eUn U f ρ w = (f ρ w).bind (kUn U) := rfl
theorem k_un : kUn U (a, w) = lift (U a.d) w := rfl
theorem e_call : eCall B af ρ w = (af ρ w).bind (kCall B) := rfl
theorem k_call : kCall B (rs, w) = lift (B (rs.map RV.d)) w := rfl
theorem e_c {d : D} : eC d ρ w = .ok (.fz d, w) := rfl
theorem lift1 {r : RV} : lift (some r) w = .ok (r, w) := rfl
theorem toB1 {b : Bool} : toB (.bool b) w = .ok (b, w) := rfl
theorem e_asB : asB f ρ w = (f ρ w).bind kB := by
  unfold asB
  refine congrArg _ (funext fun p => ?_)
  unfold kB toB
  cases p.1.d <;> rfl
theorem k_b : kB (a, w) = toB a.d w := rfl
theorem e_tand : tAnd' tf tg ρ w = (tf ρ w).bind (kAnd tg ρ) := rfl
theorem k_and {b : Bool} : kAnd tg ρ (b, w) = if b then tg ρ w else .ok (false, w) := rfl
theorem e_tor : tOr' tf tg ρ w = (tf ρ w).bind (kOr tg ρ) := rfl
theorem k_or {b : Bool} : kOr tg ρ (b, w) = if b then .ok (true, w) else tg ρ w := rfl
theorem e_tnot : tNot' tf ρ w = (tf ρ w).bind kNot := rfl
theorem k_not {b : Bool} : kNot (b, w) = .ok (!b, w) := rfl
theorem e_and : eAnd f g ρ w = (asB f ρ w).bind (kEAnd g ρ) := rfl
theorem k_eand {b : Bool} : kEAnd g ρ (b, w) = if b then g ρ w else .ok (.fz (.bool false), w) := rfl
theorem e_or : eOr f g ρ w = (asB f ρ w).bind (kEOr g ρ) := rfl
theorem k_eor {b : Bool} : kEOr g ρ (b, w) = if b then .ok (.fz (.bool true), w) else g ρ w := rfl
theorem e_not : eNot f ρ w = (asB f ρ w).bind kENot := rfl
theorem k_enot {b : Bool} : kENot (b, w) = .ok (.fz (.bool (!b)), w) := rfl
theorem e_if : eIf tf f g ρ w = (tf ρ w).bind (kIf f g ρ) := rfl
theorem k_if {b : Bool} : kIf f g ρ (b, w) = if b then f ρ w else g ρ w := rfl
theorem chn1 {q : D} {b : Bool} : chn G2 h ρ q (.bool b) w = if b then (h ρ w).bind (kOp2 G2 q) else .ok (.fz (.bool false), w) := by cases b <;> rfl
theorem e_chain : eChain F G2 f g h ρ w = (f ρ w).bind (kC1 F G2 g h ρ) := by
  unfold eChain
  refine congrArg _ (funext fun p => congrArg _ (funext fun q => congrArg _ (funext fun z => ?_)))
  unfold kC3 chn
  cases z.1.d <;> first | rfl | (rename_i b; cases b <;> rfl)
theorem k_c1 : kC1 F G2 g h ρ (a, w) = (g ρ w).bind (kC2 F G2 h ρ a.d) := rfl
theorem k_c2 : kC2 F G2 h ρ d (a, w) = (lift (F d a.d) w).bind (kC3 G2 h ρ a.d) := rfl
theorem k_c3 : kC3 G2 h ρ d (a, w) = chn G2 h ρ d a.d w := rfl
theorem e_nil : aNil ρ w = .ok ([], w) := rfl
theorem e_cons : aCons f af ρ w = (f ρ w).bind (kCons1 af ρ) := rfl
theorem k_cons1 : kCons1 af ρ (a, w) = (af ρ w).bind (kCons2 a) := rfl
theorem k_cons2 : kCons2 a (rs, w) = .ok (a :: rs, w) := rfl
theorem e_tup : eTup af ρ w = (af ρ w).bind kTup := rfl
theorem k_tup : kTup (rs, w) = if noBw rs && decide (rs.length ≤ sizeLine) then .ok (.fz (.tuple (rs.map RV.d)), w) else .err := rfl
theorem e_lst : eLst af ρ w = (af ρ w).bind kLst := rfl
theorem k_lst : kLst (rs, w) = if noBw rs && decide (rs.length ≤ sizeLine) then .ok (.ow (.list (rs.map RV.d)), w) else .err := rfl
theorem e_fn {n : Nat} : eFn n G af ρ w = (af ρ w).bind (kFn n G) := rfl
theorem k_fn {n : Nat} : kFn n G (rs, w) = if rs.length == n then outR rs (G [] (rs.map frz) []) w else .err := rfl
theorem e_fnS {n : Nat} : eFnS n G af ρ w = (af ρ w).bind (kFnS n G) := rfl
theorem k_fnS {n : Nat} : kFnS n G (rs, w) = if rs.length + 1 == n then outS rs (G [] (rs.map frz) w) else .err := rfl
theorem e_fnK {n m : Nat} {perm : List Nat} : eFnK n m perm G af ρ w = (af ρ w).bind (kFnK n m perm G) := rfl
theorem k_fnK {n m : Nat} {perm : List Nat} : kFnK n m perm G (rs, w) = if rs.length == m && (pick perm rs).length == n then outR (pick perm rs) (G [] ((pick perm rs).map frz) []) w else .err := rfl
theorem isiR1 {b : Bool} : isiR (some b) w = .ok (.fz (.bool b), w) := rfl
theorem e_isi {T : String} : eIsi T f ρ w = (f ρ w).bind (kIsi T) := by
  unfold eIsi
  refine congrArg _ (funext fun p => ?_)
  unfold kIsi isiR
  cases isT T p.1.d <;> rfl
theorem k_isi {T : String} : kIsi T (a, w) = isiR (isT T a.d) w := rfl
theorem outR1 {r : RV} : outR rs (.ok (r, w')) w = if noBw rs || indep r then .ok (r, w) else .err := rfl
theorem outS1 {r : RV} : outS rs (.ok (r, w')) = if noBw rs || indep r then .ok (r, w') else .err := rfl
theorem e_stG {k : Nat} : eStG k ρ w = match w[k]? with
  | some z => .ok (.fz (.int z), w)
  | none => .err := rfl
theorem e_sl {lo hi : Bx} : eSl f lo hi ρ w = (f ρ w).bind (kSl1 lo hi ρ) := rfl
theorem k_sl1 {lo hi : Bx} : kSl1 lo hi ρ (a, w) = (lo ρ w).bind (kSl2 hi ρ a.d) := rfl
theorem k_sl2 {hi : Bx} {l : Option Int} : kSl2 hi ρ d (l, w) = (hi ρ w).bind (kSl3 d l) := rfl
theorem k_sl3 {l m : Option Int} : kSl3 d l (m, w) = lift (fSl d l m) w := rfl
theorem b_no : bNo ρ w = .ok (none, w) := rfl
theorem toI1 {i : Int} : toI (.int i) w = .ok (some i, w) := rfl
theorem b_so : bSo f ρ w = (f ρ w).bind kI := by
  unfold bSo
  refine congrArg _ (funext fun p => ?_)
  unfold kI toI
  cases p.1.d <;> rfl
theorem k_i : kI (a, w) = toI a.d w := rfl
/-! statements -/
theorem e_no : sNo ρ w = .nx ρ w := rfl
theorem e_brk : sBrk ρ w = .bk ρ w := rfl
theorem e_cnt : sCnt ρ w = .ct ρ w := rfl
theorem e_sx : sExpr f ρ w = ofR (f ρ w) (oSx ρ) := rfl
theorem o_sx : oSx ρ (a, w) = .nx ρ w := rfl
theorem e_ret : sRet f ρ w = ofR (f ρ w) oRet := rfl
theorem o_ret : oRet (a, w) = .rt a w := rfl
theorem e_retN : sRetN ρ w = .rt (.fz .none) w := rfl
theorem e_sif : sIf tf sg sh ρ w = ofR (tf ρ w) (oIf sg sh ρ) := rfl
theorem o_if {b : Bool} : oIf sg sh ρ (b, w) = if b then sg ρ w else sh ρ w := rfl
theorem put_fz {i : Nat} {d : D} : put i ρ (.fz d) = some (ρ.set i (some (.fz d))) := rfl
theorem put_ow {i : Nat} {d : D} : put i ρ (.ow d) = some (ρ.set i (some (.ow d))) := rfl
theorem nxO1 : nxO (some ρ) w = .nx ρ w := rfl
theorem e_set {i : Nat} : sSet i f ρ w = ofR (f ρ w) (oSet i ρ) := by
  unfold sSet
  refine congrArg _ (funext fun p => ?_)
  unfold oSet nxO
  cases put i ρ p.1 <;> rfl
theorem o_set {i : Nat} : oSet i ρ (a, w) = nxO (put i ρ a) w := rfl
theorem asg_fz {b : Gx} {d : D} : asgO b ρ (.fz d) w = nxO (b d ρ) w := rfl
theorem asg_ow {b : Gx} {d : D} : asgO b ρ (.ow d) w = nxO (b d ρ) w := rfl
theorem e_asg {b : Gx} : sAsg f b ρ w = ofR (f ρ w) (oAsg b ρ) := by
  unfold sAsg
  refine congrArg _ (funext fun p => ?_)
  unfold oAsg asgO nxO
  cases p.1 <;> first | rfl | (simp only [RV.d]; rename_i d; cases b d ρ <;> rfl)
theorem o_asg {b : Gx} : oAsg b ρ (a, w) = asgO b ρ a w := rfl
theorem g_nm {i : Nat} {d : D} : gNm i d ρ = some (ρ.set i (some (.fz d))) := rfl
theorem g_nl : gNl [] ρ = some ρ := rfl
theorem g_cn {b : Gx} {c : Gxs} {d : D} {ds : List D} : gCn b c (d :: ds) ρ = (b d ρ).bind (c ds) := rfl
theorem obind1 {α β : Type} {a : α} {k : α → Option β} : (some a).bind k = k a := rfl
theorem g_tuT {n : Nat} {c : Gxs} {ds : List D} : gTu n c (.tuple ds) ρ = if ds.length == n then c ds ρ else none := rfl
theorem g_tuL {n : Nat} {c : Gxs} {ds : List D} : gTu n c (.list ds) ρ = if ds.length == n then c ds ρ else none := rfl
theorem e_par2 {i j : Nat} : sPar2 i j af ρ w = ofR (af ρ w) (oPar2 i j ρ) := by
  unfold sPar2
  refine congrArg _ (funext fun p => ?_)
  rfl
theorem o_par2 {i j : Nat} {q : RV} : oPar2 i j ρ ([r, q], w) = if noBw [r, q] then .nx ((ρ.set i (some (.fz r.d))).set j (some (.fz q.d))) w else .err := rfl
theorem e_par3 {i j l : Nat} : sPar3 i j l af ρ w = ofR (af ρ w) (oPar3 i j l ρ) := by
  unfold sPar3
  refine congrArg _ (funext fun p => ?_)
  rfl
theorem o_par3 {i j l : Nat} {q z : RV} : oPar3 i j l ρ ([r, q, z], w) = if noBw [r, q, z] then .nx (((ρ.set i (some (.fz r.d))).set j (some (.fz q.d))).set l (some (.fz z.d))) w else .err := rfl
theorem stO1 {k : Nat} {z : Int} : stO k ρ (.int z) w = if k < w.length then .nx ρ (w.set k z) else .err := rfl
theorem e_stS {k : Nat} : sStS k f ρ w = ofR (f ρ w) (oStS k ρ) := by
  unfold sStS
  refine congrArg _ (funext fun p => ?_)
  unfold oStS stO
  cases p.1.d <;> rfl
theorem o_stS {k : Nat} : oStS k ρ (a, w) = stO k ρ a.d w := rfl
theorem e_stT {k i2 : Nat} : sStT k i2 f ρ w = ofR (f ρ w) (oStT k i2 ρ) := by
  unfold sStT
  refine congrArg _ (funext fun p => ?_)
  rfl
theorem o_stT {k i2 : Nat} {z : Int} : oStT k i2 ρ (.fz (.tuple [.int z, d]), w) = if k < w.length then .nx (ρ.set i2 (some (.fz d))) (w.set k z) else .err := rfl
/-! loops -/
def loopO (b : Gx) (g : Sx) (ds : List D) (o : Out) : Out := match o with
  | .nx ρ w => loopL b g ds ρ w
  | .ct ρ w => loopL b g ds ρ w
  | .bk ρ w => .nx ρ w
  | o => o
theorem loop_nil {b : Gx} {g : Sx} : loopL b g [] ρ w = .nx ρ w := rfl
theorem loop_cons {b : Gx} {g : Sx} {d : D} {ds : List D} (h : b d ρ = some ρ') : loopL b g (d :: ds) ρ w = loopO b g ds (g ρ' w) := by
  show (match b d ρ with | none => Out.err | some ρ1 => match g ρ1 w with
      | .nx ρ' w' => loopL b g ds ρ' w'
      | .ct ρ' w' => loopL b g ds ρ' w'
      | .bk ρ' w' => .nx ρ' w'
      | o => o) = _
  rw [h]
  show (match g ρ' w with
      | .nx ρ' w' => loopL b g ds ρ' w'
      | .ct ρ' w' => loopL b g ds ρ' w'
      | .bk ρ' w' => .nx ρ' w'
      | o => o) = _
  unfold loopO
  cases g ρ' w <;> rfl
theorem e_for {f : Ix} {b : Gx} {g : Sx} : sFor f b g ρ w = ofR (f ρ w) (oFor b g ρ) := rfl
theorem o_for {b : Gx} {g : Sx} {ds : List D} : oFor b g ρ (ds, w) = loopL b g ds ρ w := rfl
theorem seqI_fl {ds : List D} : seqI (.fz (.list ds)) w = .ok (ds, w) := rfl
theorem seqI_ft {ds : List D} : seqI (.fz (.tuple ds)) w = .ok (ds, w) := rfl
theorem seqI_ol {ds : List D} : seqI (.ow (.list ds)) w = .ok (ds, w) := rfl
theorem seqI_ot {ds : List D} : seqI (.ow (.tuple ds)) w = .ok (ds, w) := rfl
theorem e_iseq : iSeq f ρ w = (f ρ w).bind kSeq := by
  unfold iSeq
  refine congrArg _ (funext fun p => ?_)
  unfold kSeq seqI
  cases p.1 <;> rename_i d <;> cases d <;> rfl
theorem k_seq : kSeq (a, w) = seqI a w := rfl
theorem rg1_1 {j : Int} : rg1 [.int j] w = if rngOk j then .ok (rngD 0 j.toNat, w) else .err := rfl
theorem e_rg1 : iRg1 af ρ w = (af ρ w).bind kRg1 := by
  unfold iRg1
  refine congrArg _ (funext fun p => ?_)
  rfl
theorem k_rg1 : kRg1 (rs, w) = rg1 (rs.map RV.d) w := rfl
theorem rg2_1 {i j : Int} : rg2 [.int i, .int j] w = if rngOk i && rngOk j then .ok (rngD i (j - i).toNat, w) else .err := rfl
theorem e_rg2 : iRg2 af ρ w = (af ρ w).bind kRg2 := by
  unfold iRg2
  refine congrArg _ (funext fun p => ?_)
  rfl
theorem k_rg2 : kRg2 (rs, w) = rg2 (rs.map RV.d) w := rfl
theorem noX1 {α : Type} {a : α} : noX (Res.ok a) = .ok a := rfl
theorem e_lc {vs : List Nat} {f : Ix} {b : Gx} {t : Tx} {e : Ex} : eLc vs f b t e ρ w = (f ρ w).bind (kLc vs b t e ρ) := rfl
theorem k_lc {vs : List Nat} {b : Gx} {t : Tx} {e : Ex} {ds : List D} : kLc vs b t e ρ (ds, w) = (noX (lcL b t e ds (wipeE ρ vs) w)).bind mkL := rfl
theorem lc_nil {b : Gx} {t : Tx} {e : Ex} : lcL b t e [] ρ w = .ok ([], w) := rfl
theorem lc_cons {b : Gx} {t : Tx} {e : Ex} {d : D} {ds : List D} (h : b d ρ = some ρ') : lcL b t e (d :: ds) ρ w = (t ρ' w).bind (kLt e (lcL b t e ds ρ) ρ') := by
  show (match b d ρ with | none => Res.err | some ρ1 => _) = _
  rw [h]
  show ((t ρ' w).bind fun p => if p.1 then (e ρ' p.2).bind fun q => match q.1 with
        | .bw _ => .err
        | r => (lcL b t e ds ρ q.2).bind fun z => .ok (r.d :: z.1, z.2)
      else lcL b t e ds ρ p.2) = _
  refine congrArg _ (funext fun p => ?_)
  unfold kLt
  split
  · rename_i hp
    refine congrArg _ (funext fun q => ?_)
    unfold kLe
    cases q.1 <;> rfl
  · rfl
theorem k_lt {e : Ex} {k : List Int → Res (List D × List Int)} {b : Bool} : kLt e k ρ (b, w) = if b then (e ρ w).bind (kLe k) else k w := rfl
theorem k_le {k : List Int → Res (List D × List Int)} : kLe k (a, w) = lcN (valD a) k w := rfl
def lcS (t : Tx) (e : Ex) (k : List Int → Res (List D × List Int)) (o : Option DEnv) (w : List Int) : Res (List D × List Int) := match o with
  | none => .err
  | some ρ1 => (t ρ1 w).bind (kLt e k ρ1)
theorem lcS1 {t : Tx} {e : Ex} {k : List Int → Res (List D × List Int)} : lcS t e k (some ρ) w = (t ρ w).bind (kLt e k ρ) := rfl
theorem lc_step {b : Gx} {t : Tx} {e : Ex} {d : D} {ds : List D} : lcL b t e (d :: ds) ρ w = lcS t e (lcL b t e ds ρ) (b d ρ) w := by
  cases h : b d ρ with
  | none =>
    show (match b d ρ with | none => Res.err | some ρ1 => _) = _
    rw [h]; rfl
  | some ρ1 => rw [lc_cons h, lcS1]
theorem lcN1 {d : D} {k : List Int → Res (List D × List Int)} : lcN (some d) k w = (k w).bind (kLc2 d) := rfl
theorem k_lc2 {ds : List D} : kLc2 d (ds, w) = .ok (d :: ds, w) := rfl
theorem val_fz {d : D} : valD (.fz d) = some d := rfl
theorem val_ow {d : D} : valD (.ow d) = some d := rfl
theorem t_true : tTrue ρ w = .ok (true, w) := rfl
theorem wipe0 : wipeE ρ [] = ρ := rfl
theorem wipe1 {v : Nat} {vs : List Nat} : wipeE ρ (v :: vs) = (wipeE ρ vs).set v none := rfl
theorem mkL1 {ds : List D} : mkL (ds, w) = if ds.length ≤ 16777216 then .ok (.ow (.list ds), w) else .err := by
  unfold mkL bz
  have e : sizeLine = 16777216 := by decide
  rw [e]
  simp only [decide_eq_true_eq]
theorem size_eq : sizeLine = 16777216 := by decide
def loopS (b : Gx) (g : Sx) (ds : List D) (o : Option DEnv) (w : List Int) : Out := match o with
  | none => .err
  | some ρ1 => loopO b g ds (g ρ1 w)
theorem loopSC {b : Gx} {g : Sx} {ds : List D} {o o' : Option DEnv} {w : List Int} (h : o = o') : loopS b g ds o w = loopS b g ds o' w := by rw [h]
theorem loopOC {b : Gx} {g : Sx} {ds : List D} {o o' : Out} (h : o = o') : loopO b g ds o = loopO b g ds o' := by rw [h]
theorem loopS1 {b : Gx} {g : Sx} {ds : List D} : loopS b g ds (some ρ) w = loopO b g ds (g ρ w) := rfl
theorem loop_step {b : Gx} {g : Sx} {d : D} {ds : List D} : loopL b g (d :: ds) ρ w = loopS b g ds (b d ρ) w := by
  cases h : b d ρ with
  | none =>
    show (match b d ρ with | none => Out.err | some ρ1 => _) = _
    rw [h]; rfl
  | some ρ1 => rw [loop_cons h, loopS1]
theorem loop_nx {b : Gx} {g : Sx} {ds : List D} : loopO b g ds (.nx ρ w) = loopL b g ds ρ w := rfl
theorem loop_ct {b : Gx} {g : Sx} {ds : List D} : loopO b g ds (.ct ρ w) = loopL b g ds ρ w := rfl
theorem loop_bk {b : Gx} {g : Sx} {ds : List D} : loopO b g ds (.bk ρ w) = .nx ρ w := rfl
theorem loop_rt {b : Gx} {g : Sx} {ds : List D} {r : RV} : loopO b g ds (.rt r w) = .rt r w := rfl
theorem loop_exc {b : Gx} {g : Sx} {ds : List D} {c : Nat} {d : D} : loopO b g ds (.exc c d) = .exc c d := rfl
/-- items one by one, the state untouched -/
theorem lc_map {b : Gx} {t : Tx} {e : Ex} (Fm : D → D) : ∀ {ds : List D}, (∀ d ∈ ds, ∃ ρ' r, b d ρ = some ρ' ∧ t ρ' w = .ok (true, w) ∧ e ρ' w = .ok (r, w) ∧ valD r = some (Fm d)) → lcL b t e ds ρ w = .ok (ds.map Fm, w)
  | [], _ => rfl
  | d :: ds, h => by
    obtain ⟨ρ', r, h1, h2, h3, h4⟩ := h d List.mem_cons_self
    rw [lc_cons h1, h2, bind1]
    rw [k_lt, if_pos rfl, h3, bind1, k_le, h4, lcN1, lc_map Fm fun d m => h d (List.mem_cons_of_mem _ m), bind1]
    rfl
theorem lc_filter {b : Gx} {t : Tx} {e : Ex} (q : D → Bool) (Fm : D → D) : ∀ {ds : List D}, (∀ d ∈ ds, ∃ ρ', b d ρ = some ρ' ∧ t ρ' w = .ok (q d, w) ∧ (q d = true → ∃ r, e ρ' w = .ok (r, w) ∧ valD r = some (Fm d))) → lcL b t e ds ρ w = .ok ((ds.filter q).map Fm, w)
  | [], _ => rfl
  | d :: ds, h => by
    obtain ⟨ρ', h1, h2, h3⟩ := h d List.mem_cons_self
    have ih := lc_filter q Fm fun d m => h d (List.mem_cons_of_mem _ m)
    rw [lc_cons h1, h2, bind1]
    cases hq : q d with
    | true =>
      obtain ⟨r, h4, h5⟩ := h3 hq
      rw [k_lt, if_pos rfl, h4, bind1, k_le, h5, lcN1, ih, bind1, List.filter_cons_of_pos hq]
      rfl
    | false =>
      rw [k_lt, if_neg (by simp), ih, List.filter_cons_of_neg (by rw [hq]; simp)]
theorem lc_mapE {α : Type} {b : Gx} {t : Tx} {e : Ex} (enc : α → D) (Fm : α → D) : ∀ {l : List α}, (∀ x ∈ l, ∃ ρ' r, b (enc x) ρ = some ρ' ∧ t ρ' w = .ok (true, w) ∧ e ρ' w = .ok (r, w) ∧ valD r = some (Fm x)) → lcL b t e (l.map enc) ρ w = .ok (l.map Fm, w)
  | [], _ => rfl
  | d :: ds, h => by
    obtain ⟨ρ', r, h1, h2, h3, h4⟩ := h d List.mem_cons_self
    rw [List.map_cons, lc_cons h1, h2, bind1]
    rw [k_lt, if_pos rfl, h3, bind1, k_le, h4, lcN1, lc_mapE enc Fm fun d m => h d (List.mem_cons_of_mem _ m), bind1]
    rfl
theorem lc_filterE {α : Type} {b : Gx} {t : Tx} {e : Ex} (enc : α → D) (q : α → Bool) (Fm : α → D) : ∀ {l : List α}, (∀ x ∈ l, ∃ ρ', b (enc x) ρ = some ρ' ∧ t ρ' w = .ok (q x, w) ∧ (q x = true → ∃ r, e ρ' w = .ok (r, w) ∧ valD r = some (Fm x))) → lcL b t e (l.map enc) ρ w = .ok ((l.filter q).map Fm, w)
  | [], _ => rfl
  | d :: ds, h => by
    obtain ⟨ρ', h1, h2, h3⟩ := h d List.mem_cons_self
    have ih := lc_filterE enc q Fm fun d m => h d (List.mem_cons_of_mem _ m)
    rw [List.map_cons, lc_cons h1, h2, bind1]
    cases hq : q d with
    | true =>
      obtain ⟨r, h4, h5⟩ := h3 hq
      rw [k_lt, if_pos rfl, h4, bind1, k_le, h5, lcN1, ih, bind1, List.filter_cons_of_pos hq]
      rfl
    | false =>
      rw [k_lt, if_neg (by simp), ih, List.filter_cons_of_neg (by rw [hq]; simp)]
/-- items that draw on: the state changes -/
theorem lc_draw {b : Gx} {e : Ex} {P : List Int → Prop} {R : D → Prop} : ∀ {ds : List D} {w : List Int}, (∀ d ∈ ds, ∀ w, P w → ∃ ρ' r w' z, b d ρ = some ρ' ∧ e ρ' w = .ok (r, w') ∧ valD r = some z ∧ R z ∧ P w') → P w → ∃ zs w', lcL b tTrue e ds ρ w = .ok (zs, w') ∧ zs.length = ds.length ∧ (∀ z ∈ zs, R z) ∧ P w'
  | [], w, _, p => ⟨[], w, rfl, rfl, by simp, p⟩
  | d :: ds, w, h, p => by
    obtain ⟨ρ', r, w1, z, h1, h2, h3, h4, p1⟩ := h d List.mem_cons_self w p
    obtain ⟨zs, w2, h5, h6, h7, p2⟩ := lc_draw (fun d m => h d (List.mem_cons_of_mem _ m)) p1
    refine ⟨z :: zs, w2, ?_, by rw [List.length_cons, List.length_cons, h6], fun y hy => ?_, p2⟩
    · rw [lc_cons h1]
      show (Res.ok (true, w)).bind _ = _
      rw [bind1]
      rw [k_lt, if_pos rfl, h2, bind1, k_le, h3, lcN1, h5, bind1]
      rfl
    · rcases List.mem_cons.mp hy with rfl | hy
      · exact h4
      · exact h7 y hy
/-- a loop through which something stays true -/
theorem loop_all {b : Gx} {g : Sx} {P : DEnv → List Int → Prop} : ∀ {ds : List D} {ρ : DEnv} {w : List Int}, (∀ d ∈ ds, ∀ ρ w, P ρ w → ∃ ρ1 ρ' w', b d ρ = some ρ1 ∧ g ρ1 w = .nx ρ' w' ∧ P ρ' w') → P ρ w → ∃ ρ' w', loopL b g ds ρ w = .nx ρ' w' ∧ P ρ' w'
  | [], ρ, w, _, p => ⟨ρ, w, rfl, p⟩
  | d :: ds, ρ, w, h, p => by
    obtain ⟨ρ1, ρ2, w2, h1, h2, p2⟩ := h d List.mem_cons_self ρ w p
    obtain ⟨ρ3, w3, h3, p3⟩ := loop_all (fun d m => h d (List.mem_cons_of_mem _ m)) p2
    exact ⟨ρ3, w3, by rw [loop_cons h1, h2]; exact h3, p3⟩
theorem e_fnF : eFnF G af ρ w = (af ρ w).bind (kFnF G) := by
  unfold eFnF
  refine congrArg _ (funext fun p => ?_)
  rfl
theorem k_fnF {ds : List D} : kFnF G ([.ow (.list ds)], w) = match intsD ds with
    | some w0 => outR [] (G [] [] w0) w
    | none => .err := rfl
theorem d_fz {d : D} : (RV.fz d).d = d := rfl
theorem d_ow {d : D} : (RV.ow d).d = d := rfl
theorem d_bw {d : D} : (RV.bw d).d = d := rfl
theorem frz_fz {d : D} : frz (.fz d) = .fz d := rfl
theorem frz_ow {d : D} : frz (.ow d) = .fz d := rfl
theorem frz_bw {d : D} : frz (.bw d) = .fz d := rfl
theorem nb_nil : noBw [] = true := rfl
theorem nb_fz {d : D} {l : List RV} : noBw (.fz d :: l) = noBw l := rfl
theorem nb_ow {d : D} {l : List RV} : noBw (.ow d :: l) = noBw l := rfl
theorem nb_bw {d : D} {l : List RV} : noBw (.bw d :: l) = false := rfl
end
end DL
namespace DL
open PySem PySem.Spec PyProof.Rows L2
/-! ### operations at numbers, texts, tuples -/
section
variable {a b c : Int} {x y : Str} {p q : Bool} {ds es : List D} {d e : D}
theorem v_add : fAdd (.int a) (.int b) = some (.fz (.int (a + b))) := rfl
theorem v_sub : fSub (.int a) (.int b) = some (.fz (.int (a - b))) := rfl
theorem v_mul (h : smallB b = true ∨ smallB a = true) : fMul (.int a) (.int b) = some (.fz (.int (a * b))) := by
  exact if_pos (show (smallB a || smallB b) = true by rcases h with h | h <;> simp [h])
theorem small_of {i : Int} (h1 : -18446744073709551616 < i) (h2 : i < 18446744073709551616) : smallB i = true := by
  unfold smallB
  have e : (2 : Int) ^ 64 = 18446744073709551616 := by decide
  rw [e]
  simp [h1, h2]
theorem v_mod (h : b ≠ 0) : fMod (.int a) (.int b) = some (.fz (.int (Int.fmod a b))) := by
  exact if_pos (show decide (b ≠ 0) = true from decide_eq_true h)
theorem v_div (h : b ≠ 0) (h2 : b.natAbs < 1073741824) : fDiv (.int a) (.int b) = some (.fz (.int (Int.fdiv a b))) := by
  exact if_pos (show (decide (b ≠ 0) && decide (b.natAbs < 1073741824)) = true by simp [h, h2])
theorem v_divmod (h : 0 < b) (h2 : b < 1073741824) : fDivmod [.int a, .int b] = some (.fz (.tuple [.int (a / b), .int (a % b)])) := by
  exact if_pos (show (decide (0 < b) && decide (b < 1073741824)) = true by simp [h, h2])
theorem v_neg : fNeg (.int a) = some (.fz (.int (-a))) := rfl
theorem v_addT (h : ds.length + es.length ≤ sizeLine) : fAdd (.tuple ds) (.tuple es) = some (.fz (.tuple (ds ++ es))) := by
  exact if_pos (decide_eq_true h)
theorem v_addL (h : ds.length + es.length ≤ sizeLine) : fAdd (.list ds) (.list es) = some (.ow (.list (ds ++ es))) := by
  exact if_pos (decide_eq_true h)
theorem v_addS (h : x.length + y.length ≤ sizeLine) : fAdd (.str x) (.str y) = some (.fz (.str (x ++ y))) := by
  exact if_pos (decide_eq_true h)
theorem ord_int : ordD (.int a) (.int b) = true := by
  unfold ordD
  simp [flatD, PySem.W.alike, PyData.depth]
theorem v_lt : fLt (.int a) (.int b) = some (.fz (.bool (decide (a < b)))) := by
  unfold fLt fOrd
  rw [if_pos ord_int, PySem.W.dataLt_int]
theorem v_gt : fGt (.int a) (.int b) = some (.fz (.bool (decide (b < a)))) := by
  unfold fGt fOrd
  rw [if_pos ord_int]
  show some (RV.fz (PyData.bool (PySem.W.dataLt (.int b) (.int a)))) = _
  rw [PySem.W.dataLt_int]
theorem v_le : fLe (.int a) (.int b) = some (.fz (.bool (decide (a ≤ b)))) := by
  unfold fLe fOrd
  rw [if_pos ord_int]
  show some (RV.fz (PyData.bool (!PySem.W.dataLt _ _))) = _
  rw [PySem.W.dataLt_int]
  congr 3
  rw [Bool.eq_iff_iff]
  simp
theorem v_ge : fGe (.int a) (.int b) = some (.fz (.bool (decide (b ≤ a)))) := by
  unfold fGe fOrd
  rw [if_pos ord_int]
  show some (RV.fz (PyData.bool (!PySem.W.dataLt _ _))) = _
  rw [PySem.W.dataLt_int]
  congr 3
  rw [Bool.eq_iff_iff]
  simp
theorem v_is : fIs d .none = some (.fz (.bool (isN d))) := rfl
theorem v_isNot : fIsNot d .none = some (.fz (.bool (!isN d))) := rfl
theorem v_eqS : fEq (.str x) (.str y) = some (.fz (.bool (decide (x = y)))) := rfl
theorem v_neS : fNe (.str x) (.str y) = some (.fz (.bool (!decide (x = y)))) := rfl
theorem cmp_int : cmpD (.int a) = true := by
  unfold cmpD SeqAt.shaped
  simp [flatD, PyData.canLay0, PyData.depth]
theorem cmp_bool : cmpD (.bool p) = true := by
  unfold cmpD SeqAt.shaped
  simp [flatD, PyData.canLay0, PyData.depth]
theorem v_eqD (h : cmpD d = true) (h2 : cmpD e = true) (h3 : strEq d e = none) : fEq d e = some (.fz (.bool (PyData.eqv d e))) := by
  unfold fEq
  rw [h3]
  simp [h, h2]
theorem v_neD (h : cmpD d = true) (h2 : cmpD e = true) (h3 : strEq d e = none) : fNe d e = some (.fz (.bool (!PyData.eqv d e))) := by
  unfold fNe
  rw [h3]
  simp [h, h2]
theorem v_eq : fEq (.int a) (.int b) = some (.fz (.bool (decide (a = b)))) := by
  rw [v_eqD cmp_int cmp_int rfl]
  rfl
theorem v_ne : fNe (.int a) (.int b) = some (.fz (.bool (!decide (a = b)))) := by
  rw [v_neD cmp_int cmp_int rfl]
  rfl
theorem v_eqB : fEq (.bool p) (.bool q) = some (.fz (.bool (p == q))) := by
  rw [v_eqD cmp_bool cmp_bool rfl]
  rfl
theorem v_neB : fNe (.bool p) (.bool q) = some (.fz (.bool (!(p == q)))) := by
  rw [v_neD cmp_bool cmp_bool rfl]
  rfl
/-! the same data: == -/
theorem v_eqR (h : cmpD d = true) : fEq d d = some (.fz (.bool true)) := by
  have r : PyData.eqv d d = true := by
    refine SeqAt.eqv_refl d ?_
    have := (Bool.and_eq_true_iff.mp h).2
    exact (Bool.and_eq_true_iff.mp this).1
  cases d with
  | str x => rw [v_eqS]; simp
  | _ => rw [v_eqD h h rfl, r]
theorem v_neR (h : cmpD d = true) : fNe d d = some (.fz (.bool false)) := by
  have r : PyData.eqv d d = true := by
    refine SeqAt.eqv_refl d ?_
    have := (Bool.and_eq_true_iff.mp h).2
    exact (Bool.and_eq_true_iff.mp this).1
  cases d with
  | str x => rw [v_neS]; simp
  | _ => rw [v_neD h h rfl, r]; rfl
/-! places -/
theorem v_ixT {i : Int} : fIx (.tuple ds) (.int i) = (atI ds i).map .fz := rfl
theorem v_ixL {i : Int} : fIx (.list ds) (.int i) = (atI ds i).map .fz := rfl
theorem at_of {i : Int} (h : 0 ≤ i) : atI ds i = ds[i.toNat]? := by
  unfold atI ixN
  rw [if_pos h]
  by_cases z : i < ds.length
  · rw [if_pos z]; rfl
  · rw [if_neg z]
    show none = _
    rw [List.getElem?_eq_none]
    omega
theorem at0 : atI (d :: ds) 0 = some d := at_of (by decide)
theorem at1 {x0 : D} : atI (x0 :: d :: ds) 1 = some d := at_of (by decide)
theorem at2 {x0 x1 : D} : atI (x0 :: x1 :: d :: ds) 2 = some d := at_of (by decide)
theorem at3 {x0 x1 x2 : D} : atI (x0 :: x1 :: x2 :: d :: ds) 3 = some d := at_of (by decide)
theorem at4 {x0 x1 x2 x3 : D} : atI (x0 :: x1 :: x2 :: x3 :: d :: ds) 4 = some d := at_of (by decide)
theorem at5 {x0 x1 x2 x3 x4 : D} : atI (x0 :: x1 :: x2 :: x3 :: x4 :: d :: ds) 5 = some d := at_of (by decide)
theorem map1 {α β : Type} {k : α → β} {z : α} : (some z).map k = some (k z) := rfl
/-! built-ins -/
theorem v_lenL : fLen [.list ds] = some (.fz (.int ds.length)) := rfl
theorem v_lenT : fLen [.tuple ds] = some (.fz (.int ds.length)) := rfl
theorem v_abs : fAbs [.int a] = some (.fz (.int (if a < 0 then -a else a))) := rfl
theorem v_int : fInt [.int a] = some (.fz (.int a)) := rfl
theorem v_intB : fInt [.bool p] = some (.fz (.int (if p then 1 else 0))) := rfl
theorem v_max2 : fMax [.int a, .int b] = some (.fz (.int (if b > a then b else a))) := rfl
theorem v_min2 : fMin [.int a, .int b] = some (.fz (.int (if b < a then b else a))) := rfl
theorem v_max3 : fMax [.int a, .int b, .int c] = some (.fz (.int (if (if b > a then b else a) < c then c else if b > a then b else a))) := rfl
theorem v_min3 : fMin [.int a, .int b, .int c] = some (.fz (.int (if c < (if b < a then b else a) then c else if b < a then b else a))) := rfl
theorem v_tupL : fTuple [.list ds] = some (.fz (.tuple ds)) := rfl
theorem v_tupT : fTuple [.tuple ds] = some (.fz (.tuple ds)) := rfl
theorem v_lstL : fList [.list ds] = some (.ow (.list ds)) := rfl
theorem v_lstT : fList [.tuple ds] = some (.ow (.list ds)) := rfl
theorem bools_map : ∀ {l : List Bool}, boolsD (l.map PyData.bool) = some l
  | [] => rfl
  | b :: l => by
    show (boolsD (l.map PyData.bool)).map (b :: ·) = _
    rw [bools_map]; rfl
theorem ints_map : ∀ {l : List Int}, intsD (l.map PyData.int) = some l
  | [] => rfl
  | b :: l => by
    show (intsD (l.map PyData.int)).map (b :: ·) = _
    rw [ints_map]; rfl
theorem v_all {l : List Bool} : fAll [.list (l.map PyData.bool)] = some (.fz (.bool (l.all id))) := by
  show Option.map _ (boolsD (l.map PyData.bool)) = _
  rw [bools_map]; rfl
theorem v_any {l : List Bool} : fAny [.list (l.map PyData.bool)] = some (.fz (.bool (l.any id))) := by
  show Option.map _ (boolsD (l.map PyData.bool)) = _
  rw [bools_map]; rfl
theorem v_allD : fAll [.list ds] = (boolsD ds).map fun bs => .fz (.bool (bs.all id)) := rfl
theorem v_anyD : fAny [.list ds] = (boolsD ds).map fun bs => .fz (.bool (bs.any id)) := rfl
theorem v_sumDL : fSum [.list ds] = (intsD ds).map fun bs => .fz (.int bs.sum) := rfl
theorem v_sumDT : fSum [.tuple ds] = (intsD ds).map fun bs => .fz (.int bs.sum) := rfl
theorem bools0 : boolsD [] = some [] := rfl
theorem bools1 : boolsD (.bool p :: ds) = (boolsD ds).map (p :: ·) := rfl
theorem ints0 : intsD [] = some [] := rfl
theorem ints1 : intsD (.int a :: ds) = (intsD ds).map (a :: ·) := rfl
theorem v_sumL {l : List Int} : fSum [.list (l.map PyData.int)] = some (.fz (.int l.sum)) := by
  show Option.map _ (intsD (l.map PyData.int)) = _
  rw [ints_map]; rfl
theorem v_sumT {l : List Int} : fSum [.tuple (l.map PyData.int)] = some (.fz (.int l.sum)) := by
  show Option.map _ (intsD (l.map PyData.int)) = _
  rw [ints_map]; rfl
end
/-! kinds -/
section
variable {a : Int} {x : Str} {p : Bool} {ds : List D}
theorem k_int_none : isT "int" .none = some false := (show kitB "NoneType" "int" = some false by decide +kernel)
theorem k_int_bool : isT "int" (.bool p) = some true := (show kitB "bool" "int" = some true by decide +kernel)
theorem k_int_int : isT "int" (.int a) = some true := (show kitB "int" "int" = some true by decide +kernel)
theorem k_int_str : isT "int" (.str x) = some false := (show kitB "str" "int" = some false by decide +kernel)
theorem k_int_list : isT "int" (.list ds) = some false := (show kitB "list" "int" = some false by decide +kernel)
theorem k_int_tuple : isT "int" (.tuple ds) = some false := (show kitB "tuple" "int" = some false by decide +kernel)
theorem k_bool_none : isT "bool" .none = some false := (show kitB "NoneType" "bool" = some false by decide +kernel)
theorem k_bool_bool : isT "bool" (.bool p) = some true := (show kitB "bool" "bool" = some true by decide +kernel)
theorem k_bool_int : isT "bool" (.int a) = some false := (show kitB "int" "bool" = some false by decide +kernel)
theorem k_bool_str : isT "bool" (.str x) = some false := (show kitB "str" "bool" = some false by decide +kernel)
theorem k_bool_list : isT "bool" (.list ds) = some false := (show kitB "list" "bool" = some false by decide +kernel)
theorem k_bool_tuple : isT "bool" (.tuple ds) = some false := (show kitB "tuple" "bool" = some false by decide +kernel)
theorem k_str_none : isT "str" .none = some false := (show kitB "NoneType" "str" = some false by decide +kernel)
theorem k_str_bool : isT "str" (.bool p) = some false := (show kitB "bool" "str" = some false by decide +kernel)
theorem k_str_int : isT "str" (.int a) = some false := (show kitB "int" "str" = some false by decide +kernel)
theorem k_str_str : isT "str" (.str x) = some true := (show kitB "str" "str" = some true by decide +kernel)
theorem k_str_list : isT "str" (.list ds) = some false := (show kitB "list" "str" = some false by decide +kernel)
theorem k_str_tuple : isT "str" (.tuple ds) = some false := (show kitB "tuple" "str" = some false by decide +kernel)
theorem k_list_none : isT "list" .none = some false := (show kitB "NoneType" "list" = some false by decide +kernel)
theorem k_list_bool : isT "list" (.bool p) = some false := (show kitB "bool" "list" = some false by decide +kernel)
theorem k_list_int : isT "list" (.int a) = some false := (show kitB "int" "list" = some false by decide +kernel)
theorem k_list_str : isT "list" (.str x) = some false := (show kitB "str" "list" = some false by decide +kernel)
theorem k_list_list : isT "list" (.list ds) = some true := (show kitB "list" "list" = some true by decide +kernel)
theorem k_list_tuple : isT "list" (.tuple ds) = some false := (show kitB "tuple" "list" = some false by decide +kernel)
theorem k_tuple_none : isT "tuple" .none = some false := (show kitB "NoneType" "tuple" = some false by decide +kernel)
theorem k_tuple_bool : isT "tuple" (.bool p) = some false := (show kitB "bool" "tuple" = some false by decide +kernel)
theorem k_tuple_int : isT "tuple" (.int a) = some false := (show kitB "int" "tuple" = some false by decide +kernel)
theorem k_tuple_str : isT "tuple" (.str x) = some false := (show kitB "str" "tuple" = some false by decide +kernel)
theorem k_tuple_list : isT "tuple" (.list ds) = some false := (show kitB "list" "tuple" = some false by decide +kernel)
theorem k_tuple_tuple : isT "tuple" (.tuple ds) = some true := (show kitB "tuple" "tuple" = some true by decide +kernel)
theorem k_dict_none : isT "dict" .none = some false := (show kitB "NoneType" "dict" = some false by decide +kernel)
theorem k_dict_bool : isT "dict" (.bool p) = some false := (show kitB "bool" "dict" = some false by decide +kernel)
theorem k_dict_int : isT "dict" (.int a) = some false := (show kitB "int" "dict" = some false by decide +kernel)
theorem k_dict_str : isT "dict" (.str x) = some false := (show kitB "str" "dict" = some false by decide +kernel)
theorem k_dict_list : isT "dict" (.list ds) = some false := (show kitB "list" "dict" = some false by decide +kernel)
theorem k_dict_tuple : isT "dict" (.tuple ds) = some false := (show kitB "tuple" "dict" = some false by decide +kernel)
end
/-! ### tidy data: numbers below 10^12, plain texts -/
mutual
def tdy : D → Bool
  | .none => true
  | .bool _ => true
  | .int i => decide (i.natAbs < 1000000000000)
  | .str x => x.cps.toList.all (fun c => decide (c < 1114112))
  | .list ds => tdys ds
  | .tuple ds => tdys ds
  | .dict _ => false
def tdys : List D → Bool
  | [] => true
  | d :: ds => tdy d && tdys ds
end
theorem tdys_all : ∀ {ds : List D}, tdys ds = true ↔ ∀ d ∈ ds, tdy d = true
  | [] => by simp [tdys]
  | d :: ds => by
    unfold tdys
    rw [Bool.and_eq_true, tdys_all]
    simp
mutual
theorem tdy_flat : ∀ d : D, tdy d = true → flatD d = true
  | .none, _ => rfl
  | .bool _, _ => rfl
  | .int _, _ => rfl
  | .str _, _ => rfl
  | .list ds, h => by unfold flatD; unfold tdy at h; exact tdys_flat ds h
  | .tuple ds, h => by unfold flatD; unfold tdy at h; exact tdys_flat ds h
  | .dict _, h => by unfold tdy at h; cases h
theorem tdys_flat : ∀ ds : List D, tdys ds = true → flatDs ds = true
  | [], _ => rfl
  | d :: ds, h => by
    unfold tdys at h
    have h := Bool.and_eq_true_iff.mp h
    unfold flatDs
    rw [tdy_flat d h.1, tdys_flat ds h.2]; rfl
end
mutual
theorem tdy_lay : ∀ d : D, tdy d = true → d.canLay0 = true
  | .none, _ => by unfold PyData.canLay0; rfl
  | .bool _, _ => by unfold PyData.canLay0; rfl
  | .int _, _ => by unfold PyData.canLay0; rfl
  | .str x, h => by
    unfold PyData.canLay0 PyData.strOk
    unfold tdy at h
    simp only [List.all_eq_true, decide_eq_true_eq, Array.mem_toList_iff] at h
    simp only [Array.all_eq_true_iff_forall_mem, decide_eq_true_eq]
    exact fun c hc => h c hc
  | .list ds, h => by unfold PyData.canLay0; unfold tdy at h; exact tdys_lay ds h
  | .tuple ds, h => by unfold PyData.canLay0; unfold tdy at h; exact tdys_lay ds h
  | .dict _, h => by unfold tdy at h; cases h
theorem tdys_lay : ∀ ds : List D, tdys ds = true → PyData.canLayAll0 ds = true
  | [], _ => by unfold PyData.canLayAll0; rfl
  | d :: ds, h => by
    unfold tdys at h
    have h := Bool.and_eq_true_iff.mp h
    unfold PyData.canLayAll0
    rw [tdy_lay d h.1, tdys_lay ds h.2]; rfl
end
mutual
theorem tdy_show : ∀ d : D, tdy d = true → d.showable = true
  | .none, _ => by unfold PyData.showable; rfl
  | .bool _, _ => by unfold PyData.showable; rfl
  | .int i, h => by
    unfold PyData.showable
    unfold tdy at h
    have h := of_decide_eq_true h
    refine decide_eq_true ?_
    by_cases z : i.natAbs = 0
    · rw [z]; decide
    · have h1 : i.natAbs.log2 < 40 := (Nat.log2_lt z).mpr (Nat.lt_of_lt_of_le h (by decide))
      omega
  | .str x, h => by unfold PyData.showable; rfl
  | .list ds, h => by unfold PyData.showable; unfold tdy at h; exact tdys_show ds h
  | .tuple ds, h => by unfold PyData.showable; unfold tdy at h; exact tdys_show ds h
  | .dict _, h => by unfold tdy at h; cases h
theorem tdys_show : ∀ ds : List D, tdys ds = true → PyData.showableAll ds = true
  | [], _ => by unfold PyData.showableAll; rfl
  | d :: ds, h => by
    unfold tdys at h
    have h := Bool.and_eq_true_iff.mp h
    unfold PyData.showableAll
    rw [tdy_show d h.1, tdys_show ds h.2]; rfl
end
mutual
theorem tdy_short : ∀ d : D, tdy d = true → d.leavesShort 13 = true
  | .none, _ => by unfold PyData.leavesShort; rfl
  | .bool _, _ => by unfold PyData.leavesShort; rfl
  | .int i, h => by
    unfold PyData.leavesShort
    unfold tdy at h
    have h := of_decide_eq_true h
    exact decide_eq_true (PyData.shown_int_le (by omega))
  | .str x, h => by
    unfold PyData.leavesShort
    unfold tdy at h
    simp only [List.all_eq_true, decide_eq_true_eq] at h ⊢
    exact fun c hc => Nat.lt_of_lt_of_le (h c hc) (by decide)
  | .list ds, h => by unfold PyData.leavesShort; unfold tdy at h; exact tdys_short ds h
  | .tuple ds, h => by unfold PyData.leavesShort; unfold tdy at h; exact tdys_short ds h
  | .dict _, h => by unfold tdy at h; cases h
theorem tdys_short : ∀ ds : List D, tdys ds = true → PyData.leavesShortAll 13 ds = true
  | [], _ => by unfold PyData.leavesShortAll; rfl
  | d :: ds, h => by
    unfold tdys at h
    have h := Bool.and_eq_true_iff.mp h
    unfold PyData.leavesShortAll
    rw [tdy_short d h.1, tdys_short ds h.2]; rfl
end
theorem cmp_tdy {d : D} (h : tdy d = true) (h2 : d.depth ≤ 64) : cmpD d = true := by
  unfold cmpD SeqAt.shaped
  rw [tdy_flat d h, tdy_lay d h]
  simp [h2]
theorem shown_len {d : D} (h : tdy d = true) (h2 : d.bulk ≤ 1000000) : bz d.shown.length = true := by
  have := PyData.shown_le_bulk 13 (by decide) d (tdy_short d h)
  unfold bz
  refine decide_eq_true ?_
  have e : sizeLine = 16777216 := by decide
  rw [e]
  omega
theorem v_reprL {ds : List D} (h : tdy (.list ds) = true) (h2 : (PyData.list ds).depth ≤ 60) (h3 : (PyData.list ds).bulk ≤ 1000000) : fRepr [.list ds] = some (.fz (.str (PyData.list ds).shown)) := by
  refine if_pos ?_
  have f := tdy_flat _ h
  unfold flatD at f
  rw [shown_len h h3, tdy_show _ h, f]
  simp [h2]
theorem v_reprT {ds : List D} (h : tdy (.tuple ds) = true) (h2 : (PyData.tuple ds).depth ≤ 60) (h3 : (PyData.tuple ds).bulk ≤ 1000000) : fRepr [.tuple ds] = some (.fz (.str (PyData.tuple ds).shown)) := by
  refine if_pos ?_
  have f := tdy_flat _ h
  unfold flatD at f
  rw [shown_len h h3, tdy_show _ h, f]
  simp [h2]
/-! ### least, greatest of numbers -/
theorem ints_tdy : ∀ (ns : List Int), (∀ n ∈ ns, n.natAbs < 1000000000000) → tdys (ns.map PyData.int) = true := fun ns h => tdys_all.mpr fun d hd => by
  obtain ⟨n, hn, rfl⟩ := List.mem_map.mp hd
  unfold tdy
  exact decide_eq_true (h n hn)
theorem ints_depth : ∀ ns : List Int, PyData.depthAll (ns.map PyData.int) = 0
  | [] => by simp [PyData.depthAll]
  | n :: ns => by
    rw [List.map_cons, PyData.depthAll, ints_depth ns]
    simp [PyData.depth]
theorem ints_cmp (ns : List Int) : flatDs (ns.map PyData.int) = true ∧ PyData.canLayAll0 (ns.map PyData.int) = true := by
  induction ns with
  | nil => exact ⟨rfl, by simp [PyData.canLayAll0]⟩
  | cons n ns ih => exact ⟨by rw [List.map_cons, flatDs, ih.1]; rfl, by rw [List.map_cons, PyData.canLayAll0, ih.2]; simp [PyData.canLay0]⟩
theorem ints_cmpL (ns : List Int) : cmpD (.list (ns.map PyData.int)) = true := by
  unfold cmpD SeqAt.shaped
  simp [flatD, PyData.canLay0, PyData.depth, ints_cmp ns, ints_depth ns]
theorem ints_cmpT (ns : List Int) : cmpD (.tuple (ns.map PyData.int)) = true := by
  unfold cmpD SeqAt.shaped
  simp [flatD, PyData.canLay0, PyData.depth, ints_cmp ns, ints_depth ns]
theorem ints_like (ns : List Int) : ((ns.map PyData.int).all fun a => (ns.map PyData.int).all fun b => PySem.W.alike a b) = true := by
  simp [PySem.W.alike]
theorem ints_some (ns : List Int) : ((ns.map PyData.int).all fun a => !isN a) = true := by
  simp [isN]
theorem v_minL (n : Int) (ns : List Int) : fMin [.list ((n :: ns).map PyData.int)] = some (.fz (.int (ns.foldl min n))) := by
  show (if (cmpD (.list ((n :: ns).map PyData.int)) && decide (PyData.depthAll ((n :: ns).map PyData.int) ≤ 60) && _ && _) = true then some (RV.fz (PySem.W.minD (.int n) (ns.map PyData.int))) else none) = _
  rw [if_pos, PySem.W.minD_ints]
  have h1 := ints_like (n :: ns)
  have h2 := ints_some (n :: ns)
  rw [List.map_cons] at h1 h2
  rw [ints_cmpL, ints_depth, h1, h2]
  rfl
theorem v_maxL (n : Int) (ns : List Int) : fMax [.list ((n :: ns).map PyData.int)] = some (.fz (.int (ns.foldl max n))) := by
  show (if (cmpD (.list ((n :: ns).map PyData.int)) && decide (PyData.depthAll ((n :: ns).map PyData.int) ≤ 60) && _ && _) = true then some (RV.fz (PySem.W.maxD (.int n) (ns.map PyData.int))) else none) = _
  rw [if_pos, PySem.W.maxD_ints]
  have h1 := ints_like (n :: ns)
  have h2 := ints_some (n :: ns)
  rw [List.map_cons] at h1 h2
  rw [ints_cmpL, ints_depth, h1, h2]
  rfl
theorem foldl_min_le (n : Int) : ∀ (ns : List Int), ns.foldl min n ≤ n ∧ (∀ m ∈ ns, ns.foldl min n ≤ m) ∧ (ns.foldl min n = n ∨ ns.foldl min n ∈ ns) := by
  intro ns
  induction ns generalizing n with
  | nil => simp
  | cons m ns ih =>
    obtain ⟨h1, h2, h3⟩ := ih (min n m)
    rw [List.foldl_cons]
    refine ⟨by omega, fun k hk => ?_, ?_⟩
    · rcases List.mem_cons.mp hk with rfl | hk
      · omega
      · exact h2 k hk
    · rcases h3 with h3 | h3
      · rw [h3]
        by_cases z : n ≤ m
        · left; omega
        · right
          rw [show min n m = m by omega]
          exact List.mem_cons_self
      · exact .inr (List.mem_cons_of_mem _ h3)
theorem foldl_max_ge (n : Int) : ∀ (ns : List Int), n ≤ ns.foldl max n ∧ (∀ m ∈ ns, m ≤ ns.foldl max n) ∧ (ns.foldl max n = n ∨ ns.foldl max n ∈ ns) := by
  intro ns
  induction ns generalizing n with
  | nil => simp
  | cons m ns ih =>
    obtain ⟨h1, h2, h3⟩ := ih (max n m)
    rw [List.foldl_cons]
    refine ⟨by omega, fun k hk => ?_, ?_⟩
    · rcases List.mem_cons.mp hk with rfl | hk
      · omega
      · exact h2 k hk
    · rcases h3 with h3 | h3
      · rw [h3]
        by_cases z : m ≤ n
        · left; omega
        · right
          rw [show max n m = m by omega]
          exact List.mem_cons_self
      · exact .inr (List.mem_cons_of_mem _ h3)
/-! least, greatest of a list of numbers -/
def lmin : List Int → Int
  | [] => 0
  | n :: ns => ns.foldl min n
def lmax : List Int → Int
  | [] => 0
  | n :: ns => ns.foldl max n
theorem v_lmin {l : List Int} (h : l ≠ []) : fMin [.list (l.map PyData.int)] = some (.fz (.int (lmin l))) := by
  cases l with
  | nil => exact absurd rfl h
  | cons n ns => exact v_minL n ns
theorem v_lmax {l : List Int} (h : l ≠ []) : fMax [.list (l.map PyData.int)] = some (.fz (.int (lmax l))) := by
  cases l with
  | nil => exact absurd rfl h
  | cons n ns => exact v_maxL n ns
theorem lmin_le {l : List Int} {x : Int} (h : x ∈ l) : lmin l ≤ x := by
  cases l with
  | nil => cases h
  | cons n ns =>
    obtain ⟨h1, h2, _⟩ := foldl_min_le n ns
    rcases List.mem_cons.mp h with rfl | h
    · exact h1
    · exact h2 x h
theorem lmin_mem {l : List Int} (h : l ≠ []) : lmin l ∈ l := by
  cases l with
  | nil => exact absurd rfl h
  | cons n ns =>
    obtain ⟨_, _, h3⟩ := foldl_min_le n ns
    show ns.foldl min n ∈ _
    rcases h3 with h3 | h3
    · rw [h3]; exact List.mem_cons_self
    · exact List.mem_cons_of_mem _ h3
theorem lmax_ge {l : List Int} {x : Int} (h : x ∈ l) : x ≤ lmax l := by
  cases l with
  | nil => cases h
  | cons n ns =>
    obtain ⟨h1, h2, _⟩ := foldl_max_ge n ns
    rcases List.mem_cons.mp h with rfl | h
    · exact h1
    · exact h2 x h
theorem lmax_mem {l : List Int} (h : l ≠ []) : lmax l ∈ l := by
  cases l with
  | nil => exact absurd rfl h
  | cons n ns =>
    obtain ⟨_, _, h3⟩ := foldl_max_ge n ns
    show ns.foldl max n ∈ _
    rcases h3 with h3 | h3
    · rw [h3]; exact List.mem_cons_self
    · exact List.mem_cons_of_mem _ h3
/-! sorted numbers -/
theorem srt_ints (l : List Int) : srtD (l.map PyData.int) = (l.mergeSort (fun a b => decide (a ≤ b))).map PyData.int := by
  unfold srtD
  rw [← List.map_mergeSort (r := fun a b => decide (a ≤ b))]
  intro a _ b _
  rw [PySem.W.dataLe_eq]
  show decide (a ≤ b) = !PySem.W.dataLt (.int b) (.int a)
  rw [PySem.W.dataLt_int, Bool.eq_iff_iff]
  simp
theorem v_sorted {l : List Int} : fSorted [.list (l.map PyData.int)] = some (.ow (.list ((l.mergeSort (fun a b => decide (a ≤ b))).map PyData.int))) := by
  rw [← srt_ints]
  refine if_pos ?_
  have h1 := ints_like l
  have h2 : noneTup (l.map PyData.int) = true := by simp [noneTup]
  unfold alikes
  rw [(ints_cmp l).1, ints_depth, h1, h2]
  simp
theorem sort2 (x y : Int) : [x, y].mergeSort (fun a b => decide (a ≤ b)) = [min x y, max x y] := by
  by_cases h : x ≤ y
  · rw [show min x y = x by omega, show max x y = y by omega]
    simp [List.mergeSort, List.MergeSort.Internal.splitInTwo, List.merge, h]
  · rw [show min x y = y by omega, show max x y = x by omega]
    simp [List.mergeSort, List.MergeSort.Internal.splitInTwo, List.merge, h]
theorem v_sort2 (x y : Int) : fSorted [.list [.int x, .int y]] = some (.ow (.list [.int (min x y), .int (max x y)])) := by
  have := v_sorted (l := [x, y])
  rw [sort2] at this
  exact this
/-! small factors -/
theorem small_mod {k c : Int} (h : 0 < k) (h2 : k < 4294967296) (h3 : 0 ≤ c) (h4 : c < 4294967296) (x : Int) : smallB (Int.fmod x k + c) = true :=
  small_of (by have := Int.fmod_nonneg_of_pos x h; omega) (by have := Int.fmod_lt_of_pos x h; omega)
/-- three numbers -/
def W3 (w : List Int) : Prop := ∃ a b c, w = [a, b, c]
/-! numbers in a row -/
def rngI (lo : Int) : Nat → List Int
  | 0 => []
  | n + 1 => lo :: rngI (lo + 1) n
theorem rngD_map : ∀ (lo : Int) (n : Nat), rngD lo n = (rngI lo n).map PyData.int
  | _, 0 => rfl
  | lo, n + 1 => by
    unfold rngD rngI
    rw [List.map_cons, rngD_map]
theorem rngI_len : ∀ (lo : Int) (n : Nat), (rngI lo n).length = n
  | _, 0 => rfl
  | lo, n + 1 => by unfold rngI; rw [List.length_cons, rngI_len]
theorem rngI_mem : ∀ {lo x : Int} {n : Nat}, x ∈ rngI lo n ↔ lo ≤ x ∧ x < lo + n
  | lo, x, 0 => by
    unfold rngI
    constructor
    · intro h; cases h
    · intro h; omega
  | lo, x, n + 1 => by
    unfold rngI
    rw [List.mem_cons, rngI_mem]
    push_cast
    omega
theorem rng_ok {i : Int} (h : -4611686018427387904 ≤ i) (h2 : i < 4611686018427387904) : rngOk i = true := by
  unfold rngOk
  have e : (2 : Int) ^ 62 = 4611686018427387904 := by decide
  rw [e]
  simp [h, h2]
/-! a part of a list of numbers -/
theorem cut_ints (zs : List Int) (lo hi : Option Int) : ∃ l : List Int, cutD (zs.map PyData.int) lo hi = l.map PyData.int := by
  unfold cutD
  exact ⟨_, by rw [← List.map_drop, ← List.map_take]⟩
theorem v_slL {ds : List D} {lo hi : Option Int} : fSl (.list ds) lo hi = some (.ow (.list (cutD ds lo hi))) := rfl
theorem v_slT {ds : List D} {lo hi : Option Int} : fSl (.tuple ds) lo hi = some (.fz (.tuple (cutD ds lo hi))) := rfl
theorem at_int {zs : List Int} {k : Int} (h : 0 ≤ k) (h2 : k < zs.length) : ∃ z, atI (zs.map PyData.int) k = some (.int z) := by
  rw [at_of h, List.getElem?_map]
  have : k.toNat < zs.length := by omega
  exact ⟨_, by rw [List.getElem?_eq_getElem this]; rfl⟩
theorem pow15 : fPow (.int 10) (.int 15) = some (.fz (.int 1000000000000000)) := by
  show (if (decide ((0 : Int) ≤ 15) && decide ((15 : Int) ≤ 1000000) && decide ((10 : Int).natAbs < 2 ^ 64)) = true then some (RV.fz (.int ((10 : Int) ^ (15 : Int).toNat))) else none) = _
  rw [if_pos (by decide)]
  rfl
end DL
namespace DL
open PySem PySem.Spec PyProof.Rows L2
/-! ### the law, end to end -/
/-- what is written holds no list -/
def noList (K : PySem.W.Frag) : Bool := K.all fun q => match q.2.cls with
  | .type c => c != "list"
  | _ => true
theorem noList_at {K : PySem.W.Frag} (h : noList K = true) {a : Addr} {o : Obj} (e : K.lookup a = some o) : o.cls ≠ .type "list" := by
  have hm := He.lookup_mem e
  have h1 := List.all_eq_true.mp h _ hm
  intro z
  simp [z] at h1
/-- the law's def keeps its promise, whatever the base -/
structure LawOk (P : Program) (w : World) (K : PySem.W.Frag) (mg : Str → Option Value) (k : Nat) : Prop where
  go : ∃ (φ : FSem) (fd : FuncData), (∀ zs : List Int, φ [] [.fz (.list (zs.map PyData.int))] [] = .ok (.fz (.bool true), [])) ∧ noList K = true ∧ mg ("law" : Str) = some (.ref (He.ga K ("law" : Str))) ∧ (∀ (s : Shared) (u : Value), BindsTo s fd ⟨[u], []⟩ [(("script" : Str), u)]) ∧
    ∀ base : Heap, K.In base → base.Ns mainGlobals mg → FnD ⟨P, w, K, mg, base, [], fun _ => .none, fun _ _ _ _ => False⟩ k 0 (He.ga K ("law" : Str)) fd ["script"] false φ
theorem lawOk_of {P : Program} {w : World} {K : PySem.W.Frag} {mg : Str → Option Value} {k : Nat} {φ : FSem} {fd : FuncData} (m : noList K = true) (g : mg ("law" : Str) = some (.ref (He.ga K ("law" : Str))))
    (h : ∀ base : Heap, K.In base → base.Ns mainGlobals mg → FnD ⟨P, w, K, mg, base, [], fun _ => .none, fun _ _ _ _ => False⟩ k 0 (He.ga K ("law" : Str)) fd ["script"] false φ) (b : ∀ (s : Shared) (u : Value), BindsTo s fd ⟨[u], []⟩ [(("script" : Str), u)])
    (p : ∀ zs : List Int, φ [] [.fz (.list (zs.map PyData.int))] [] = .ok (.fz (.bool true), [])) : LawOk P w K mg k := ⟨φ, fd, p, m, g, b, h⟩
theorem law_walk {l : PySem.W.OpenLaw} {n k : Nat} {q : Program} {loose : List Str} {XP : (Str → Option Value) → Heap → Prop} {d : DefRec} {fa : List He.Fa} {fn : List He.DefD} {ex : PySem.W.Frag → Bool}
    (most : l.most = some n) (small : n ≤ sizeLine) (plain : d.params.defaults = []) (nm : d.name = ("law" : Str)) (room : Room k callerA)
    (F : ∀ (w : World) (mg : Str → Option Value) (K : PySem.W.Frag) (h : Heap), K.In h → h.Ns mainGlobals mg → He.SaysX fa fn [] [] ex w h K → LawOk l.prog w K mg k) :
    PySem.W.WalkO q loose XP (He.hookX 4 fa fn [] [] ex).says l.row.toRowW d [] (fun f vs => PySem.call f vs) := by
  refine Att.attach_callB most plain fun w s0 s1 mg mb f o pm cd doc a vs zs Gr says ho hd code at_ obj numb len bits gens => ?_
  obtain ⟨K, inK, c⟩ := says
  obtain ⟨φ, fd, law, nl, gf, b, keeps⟩ := (F w mg K _ inK Gr.T.g c).go
  rw [nm] at at_
  have aK : K.lookup a = none := by
    cases z : K.lookup a with
    | none => rfl
    | some u =>
      have := inK a u z
      rw [obj] at this
      cases this
      exact absurd rfl (noList_at nl z)
  rw [at_] at gf
  cases gf
  refine law_door (cs := []) (T := []) (k := k) (kc := 0) (fd := fd) (x := "script") (φ := φ) inK Gr.T.g Gr.T.b Gr.T.builtins Gr.T.nolimit gens (fun p hp => by cases hp) (fun p hp => by cases hp) (fun p hp => by cases hp) Gr.T.bmain obj numb (Nat.le_trans len small) room aK (fun q hq => by cases hq) (fun base bi bn _ => keeps base bi bn) b (law zs)
end DL
namespace Dk40
open PySem PySem.Spec PyProof.Rows L2 DL
def top (i : Nat) : Stmt := PySem.Challenge.pw_damptiles_k40_whole_two_boxes.main.body.getD i (.Pass ⟨0, 0, 0, 0⟩)
/-! is_whole -/
abbrev N_is_whole : List Str := ["value"]
abbrev P_is_whole : List Str := ["value"]
def g_is_whole (_ : List CSem) : Sx := sRet (eAnd (eIsi "int" (eVar 0)) (eNot (eIsi "bool" (eVar 0))))
def S_is_whole : FSem := runB N_is_whole.length false g_is_whole
theorem u_is_whole (Φ : List CSem) (x0 : EV) (w : List Int) : S_is_whole Φ [x0] w = (g_is_whole Φ [some x0] w).fin := run1
/-! is_number -/
abbrev N_is_number : List Str := ["value", "low", "high"]
abbrev P_is_number : List Str := ["value", "low", "high"]
def g_is_number (_ : List CSem) : Sx := sSeq (sIf (tOr' (tNot' (asB (eFn 1 S_is_whole (aCons (eVar 0) (aNil))))) (tAnd' (asB (eOp fIsNot (eVar 1) (eC .none))) (asB (eOp fLt (eVar 0) (eVar 1))))) (sRet (eC (.bool false))) (sNo)) (sRet (eOr (eOp fIs (eVar 2) (eC .none)) (eOp fLe (eVar 0) (eVar 2))))
def S_is_number : FSem := runB N_is_number.length false g_is_number
theorem u_is_number (Φ : List CSem) (x0 x1 x2 : EV) (w : List Int) : S_is_number Φ [x0, x1, x2] w = (g_is_number Φ [some x0, some x1, some x2] w).fin := run1
/-! is_tuple_of -/
abbrev N_is_tuple_of : List Str := ["value", "many"]
abbrev P_is_tuple_of : List Str := ["value", "many"]
def g_is_tuple_of (_ : List CSem) : Sx := sRet (eAnd (eIsi "tuple" (eVar 0)) (eOp fEq (eCall fLen (aCons (eVar 0) (aNil))) (eVar 1)))
def S_is_tuple_of : FSem := runB N_is_tuple_of.length false g_is_tuple_of
theorem u_is_tuple_of (Φ : List CSem) (x0 x1 : EV) (w : List Int) : S_is_tuple_of Φ [x0, x1] w = (g_is_tuple_of Φ [some x0, some x1] w).fin := run1
/-! is_box_form -/
abbrev N_is_box_form : List Str := ["value", "each"]
abbrev P_is_box_form : List Str := ["value"]
def g_is_box_form (_ : List CSem) : Sx := sSeq (sIf (tOr' (tNot' (asB (eFn 2 S_is_tuple_of (aCons (eVar 0) (aCons (eC (.int 4)) (aNil)))))) (tNot' (asB (eCall fAll (aCons (eLc [1] (iSeq (eVar 0)) (gNm 1) (tTrue) (eFn 3 S_is_number (aCons (eVar 1) (aCons (eC (.int 0)) (aCons (eC (.int 5)) (aNil)))))) (aNil)))))) (sRet (eC (.bool false))) (sNo)) (sRet (eAnd (eOp fLe (eOp fIx (eVar 0) (eC (.int 0))) (eOp fIx (eVar 0) (eC (.int 2)))) (eOp fLe (eOp fIx (eVar 0) (eC (.int 1))) (eOp fIx (eVar 0) (eC (.int 3))))))
def S_is_box_form : FSem := runB N_is_box_form.length false g_is_box_form
theorem u_is_box_form (Φ : List CSem) (x0 : EV) (w : List Int) : S_is_box_form Φ [x0] w = (g_is_box_form Φ [some x0, none] w).fin := run1
/-! check_box -/
abbrev N_check_box : List Str := ["value"]
abbrev P_check_box : List Str := ["value"]
def g_check_box (_ : List CSem) : Sx := sIf (tNot' (asB (eFn 1 S_is_box_form (aCons (eVar 0) (aNil))))) (sBad) (sNo)
def S_check_box : FSem := runB N_check_box.length false g_check_box
theorem u_check_box (Φ : List CSem) (x0 : EV) (w : List Int) : S_check_box Φ [x0] w = (g_check_box Φ [some x0] w).fin := run1
/-! apart_in -/
abbrev N_apart_in : List Str := ["box", "box2", "down"]
abbrev P_apart_in : List Str := ["box", "box2"]
def g_apart_in (_ : List CSem) : Sx := sSeq (sAsg (eCall fMax (aCons (eC (.int 0)) (aCons (eOp fSub (eOp fIx (eVar 1) (eC (.int 0))) (eOp fIx (eVar 0) (eC (.int 2)))) (aCons (eOp fSub (eOp fIx (eVar 0) (eC (.int 0))) (eOp fIx (eVar 1) (eC (.int 2)))) (aNil))))) (gNm 2)) (sRet (eTup (aCons (eVar 2) (aCons (eCall fMax (aCons (eC (.int 0)) (aCons (eOp fSub (eOp fIx (eVar 1) (eC (.int 1))) (eOp fIx (eVar 0) (eC (.int 3)))) (aCons (eOp fSub (eOp fIx (eVar 0) (eC (.int 1))) (eOp fIx (eVar 1) (eC (.int 3)))) (aNil))))) (aNil)))))
def S_apart_in : FSem := runB N_apart_in.length false g_apart_in
theorem u_apart_in (Φ : List CSem) (x0 x1 : EV) (w : List Int) : S_apart_in Φ [x0, x1] w = (g_apart_in Φ [some x0, some x1, none] w).fin := run1
/-! are_near_in -/
abbrev N_are_near_in : List Str := ["box", "box2"]
abbrev P_are_near_in : List Str := ["box", "box2"]
def g_are_near_in (_ : List CSem) : Sx := sRet (eOp fLe (eCall fSum (aCons (eFn 2 S_apart_in (aCons (eVar 0) (aCons (eVar 1) (aNil)))) (aNil))) (eC (.int 2)))
def S_are_near_in : FSem := runB N_are_near_in.length false g_are_near_in
theorem u_are_near_in (Φ : List CSem) (x0 x1 : EV) (w : List Int) : S_are_near_in Φ [x0, x1] w = (g_are_near_in Φ [some x0, some x1] w).fin := run1
/-! both_of -/
abbrev N_both_of : List Str := ["box", "box2"]
abbrev P_both_of : List Str := ["box", "box2"]
def g_both_of (_ : List CSem) : Sx := sRet (eTup (aCons (eCall fMin (aCons (eOp fIx (eVar 0) (eC (.int 0))) (aCons (eOp fIx (eVar 1) (eC (.int 0))) (aNil)))) (aCons (eCall fMin (aCons (eOp fIx (eVar 0) (eC (.int 1))) (aCons (eOp fIx (eVar 1) (eC (.int 1))) (aNil)))) (aCons (eCall fMax (aCons (eOp fIx (eVar 0) (eC (.int 2))) (aCons (eOp fIx (eVar 1) (eC (.int 2))) (aNil)))) (aCons (eCall fMax (aCons (eOp fIx (eVar 0) (eC (.int 3))) (aCons (eOp fIx (eVar 1) (eC (.int 3))) (aNil)))) (aNil))))))
def S_both_of : FSem := runB N_both_of.length false g_both_of
theorem u_both_of (Φ : List CSem) (x0 x1 : EV) (w : List Int) : S_both_of Φ [x0, x1] w = (g_both_of Φ [some x0, some x1] w).fin := run1
/-! half_rim_of -/
abbrev N_half_rim_of : List Str := ["box"]
abbrev P_half_rim_of : List Str := ["box"]
def g_half_rim_of (_ : List CSem) : Sx := sRet (eOp fAdd (eOp fSub (eOp fAdd (eOp fSub (eOp fIx (eVar 0) (eC (.int 2))) (eOp fIx (eVar 0) (eC (.int 0)))) (eOp fIx (eVar 0) (eC (.int 3)))) (eOp fIx (eVar 0) (eC (.int 1)))) (eC (.int 2)))
def S_half_rim_of : FSem := runB N_half_rim_of.length false g_half_rim_of
theorem u_half_rim_of (Φ : List CSem) (x0 : EV) (w : List Int) : S_half_rim_of Φ [x0] w = (g_half_rim_of Φ [some x0] w).fin := run1
/-! check_boxes -/
abbrev N_check_boxes : List Str := ["box", "box2"]
abbrev P_check_boxes : List Str := ["box", "box2"]
def g_check_boxes (_ : List CSem) : Sx := sSeq (sExpr (eFn 1 S_check_box (aCons (eVar 0) (aNil)))) (sExpr (eFn 1 S_check_box (aCons (eVar 1) (aNil))))
def S_check_boxes : FSem := runB N_check_boxes.length false g_check_boxes
theorem u_check_boxes (Φ : List CSem) (x0 x1 : EV) (w : List Int) : S_check_boxes Φ [x0, x1] w = (g_check_boxes Φ [some x0, some x1] w).fin := run1
/-! are_near -/
abbrev N_are_near : List Str := ["box", "box2"]
abbrev P_are_near : List Str := ["box", "box2"]
def g_are_near (_ : List CSem) : Sx := sSeq (sExpr (eFn 2 S_check_boxes (aCons (eVar 0) (aCons (eVar 1) (aNil))))) (sRet (eFn 2 S_are_near_in (aCons (eVar 0) (aCons (eVar 1) (aNil)))))
def S_are_near : FSem := runB N_are_near.length false g_are_near
theorem u_are_near (Φ : List CSem) (x0 x1 : EV) (w : List Int) : S_are_near Φ [x0, x1] w = (g_are_near Φ [some x0, some x1] w).fin := run1
/-! box_with -/
abbrev N_box_with : List Str := ["box", "box2"]
abbrev P_box_with : List Str := ["box", "box2"]
def g_box_with (_ : List CSem) : Sx := sSeq (sExpr (eFn 2 S_check_boxes (aCons (eVar 0) (aCons (eVar 1) (aNil))))) (sRet (eFn 2 S_both_of (aCons (eVar 0) (aCons (eVar 1) (aNil)))))
def S_box_with : FSem := runB N_box_with.length false g_box_with
theorem u_box_with (Φ : List CSem) (x0 x1 : EV) (w : List Int) : S_box_with Φ [x0, x1] w = (g_box_with Φ [some x0, some x1] w).fin := run1
/-! half_rim -/
abbrev N_half_rim : List Str := ["box"]
abbrev P_half_rim : List Str := ["box"]
def g_half_rim (_ : List CSem) : Sx := sSeq (sExpr (eFn 1 S_check_box (aCons (eVar 0) (aNil)))) (sRet (eFn 1 S_half_rim_of (aCons (eVar 0) (aNil))))
def S_half_rim : FSem := runB N_half_rim.length false g_half_rim
theorem u_half_rim (Φ : List CSem) (x0 : EV) (w : List Int) : S_half_rim Φ [x0] w = (g_half_rim Φ [some x0] w).fin := run1
/-! _law_pail -/
abbrev N__law_pail : List Str := ["script", "turn", "mixed", "cell", "own"]
abbrev P__law_pail : List Str := ["script", "turn"]
def g__law_pail (_ : List CSem) : Sx := sSeq (sAsg (eOp fAdd (eC (.int 55001)) (eOp fMul (eC (.int 9203)) (eVar 1))) (gNm 2)) (sSeq (sFor (iSeq (eSl (eVar 0) (bNo) (bSo (eC (.int 12))))) (gNm 3) (sAsg (eOp fMod (eCall fInt (aCons (eOp fAdd (eOp fAdd (eOp fMul (eVar 2) (eC (.int 50021))) (eOp fMul (eOp fMod (eCall fInt (aCons (eVar 3) (aNil))) (eC (.int 2147483489))) (eC (.int 13)))) (eC (.int 7))) (aNil))) (eC (.int 2147483489))) (gNm 2))) (sSeq (sAsg (eIf (asB (eOp fLt (eVar 1) (eCall fLen (aCons (eVar 0) (aNil))))) (eCall fInt (aCons (eOp fIx (eVar 0) (eVar 1)) (aNil))) (eC (.int 0))) (gNm 4)) (sSeq (sAsg (eOp fMod (eCall fInt (aCons (eOp fAdd (eOp fAdd (eOp fMul (eVar 2) (eC (.int 89))) (eOp fMul (eOp fMod (eVar 4) (eC (.int 2147483489))) (eC (.int 60017)))) (eC (.int 11))) (aNil))) (eC (.int 2147483489))) (gNm 2)) (sRet (eLst (aCons (eIf (tOr' (asB (eOp fLt (eVar 4) (eC (.int 0)))) (asB (eOp fGe (eVar 4) (eOp fPow (eC (.int 10)) (eC (.int 15)))))) (eCall fAbs (aCons (eVar 4) (aNil))) (eC (.int 0))) (aCons (eVar 2) (aCons (eC (.int 0)) (aNil)))))))))
def S__law_pail : FSem := runB N__law_pail.length false g__law_pail
theorem u__law_pail (Φ : List CSem) (x0 x1 : EV) (w : List Int) : S__law_pail Φ [x0, x1] w = (g__law_pail Φ [some x0, some x1, none, none, none] w).fin := run1
/-! _law_deal -/
abbrev N__law_deal : List Str := ["pail", "top", "figure", "mixed"]
abbrev P__law_deal : List Str := ["pail", "top"]
def g__law_deal (_ : List CSem) : Sx := sSeq (sIf (asB (eOp fGt (eStG 0) (eC (.int 0)))) (sSeq (sStT 0 2 (eCall fDivmod (aCons (eStG 0) (aCons (eVar 1) (aNil))))) (sRet (eVar 2))) (sNo)) (sSeq (sStS 2 (eOp fAdd (eStG 2) (eC (.int 1)))) (sSeq (sAsg (eOp fMod (eCall fInt (aCons (eOp fAdd (eOp fMul (eStG 1) (eC (.int 25523))) (eOp fMul (eC (.int 10007)) (eStG 2))) (aNil))) (eC (.int 2147483489))) (gNm 3)) (sSeq (sStS 1 (eOp fMod (eCall fInt (aCons (eOp fAdd (eOp fMul (eVar 3) (eOp fAdd (eOp fMod (eCall fInt (aCons (eVar 3) (aNil))) (eC (.int 5077))) (eC (.int 30011)))) (eOp fMul (eC (.int 31)) (eStG 2))) (aNil))) (eC (.int 2147483489)))) (sRet (eOp fMod (eCall fInt (aCons (eOp fDiv (eStG 1) (eC (.int 409))) (aNil))) (eVar 1))))))
def S__law_deal : FSem := runB N__law_deal.length true g__law_deal
theorem u__law_deal (Φ : List CSem) (x0 : EV) (w : List Int) : S__law_deal Φ [x0] w = (g__law_deal Φ [none, some x0, none, none] w).fin := run1
/-! _law_box -/
abbrev N__law_box : List Str := ["pail", "one", "two", "left", "right"]
abbrev P__law_box : List Str := ["pail"]
def g__law_box (_ : List CSem) : Sx := sSeq (sAsg (eCall fSorted (aCons (eLst (aCons (eFnS 2 S__law_deal (aCons (eC (.int 6)) (aNil))) (aCons (eFnS 2 S__law_deal (aCons (eC (.int 6)) (aNil))) (aNil)))) (aNil))) (gTu 2 (gCn (gNm 1) (gCn (gNm 2) (gNl))))) (sSeq (sAsg (eCall fSorted (aCons (eLst (aCons (eFnS 2 S__law_deal (aCons (eC (.int 6)) (aNil))) (aCons (eFnS 2 S__law_deal (aCons (eC (.int 6)) (aNil))) (aNil)))) (aNil))) (gTu 2 (gCn (gNm 3) (gCn (gNm 4) (gNl))))) (sRet (eTup (aCons (eVar 1) (aCons (eVar 3) (aCons (eVar 2) (aCons (eVar 4) (aNil))))))))
def S__law_box : FSem := runB N__law_box.length true g__law_box
theorem u__law_box (Φ : List CSem) (w : List Int) : S__law_box Φ [] w = (g__law_box Φ [none, none, none, none, none] w).fin := run1
/-! _law_box_with -/
abbrev N__law_box_with : List Str := ["one", "two"]
abbrev P__law_box_with : List Str := ["one", "two"]
def g__law_box_with (_ : List CSem) : Sx := sRet (eTup (aCons (eCall fMin (aCons (eOp fIx (eVar 0) (eC (.int 0))) (aCons (eOp fIx (eVar 1) (eC (.int 0))) (aNil)))) (aCons (eCall fMin (aCons (eOp fIx (eVar 0) (eC (.int 1))) (aCons (eOp fIx (eVar 1) (eC (.int 1))) (aNil)))) (aCons (eCall fMax (aCons (eOp fIx (eVar 0) (eC (.int 2))) (aCons (eOp fIx (eVar 1) (eC (.int 2))) (aNil)))) (aCons (eCall fMax (aCons (eOp fIx (eVar 0) (eC (.int 3))) (aCons (eOp fIx (eVar 1) (eC (.int 3))) (aNil)))) (aNil))))))
def S__law_box_with : FSem := runB N__law_box_with.length false g__law_box_with
theorem u__law_box_with (Φ : List CSem) (x0 x1 : EV) (w : List Int) : S__law_box_with Φ [x0, x1] w = (g__law_box_with Φ [some x0, some x1] w).fin := run1
/-! _law_in_box -/
abbrev N__law_in_box : List Str := ["box", "found", "k", "j"]
abbrev P__law_in_box : List Str := ["box"]
def g__law_in_box (_ : List CSem) : Sx := sSeq (sAsg (eLst (aNil)) (gNm 1)) (sSeq (sFor (iRg2 (aCons (eOp fIx (eVar 0) (eC (.int 0))) (aCons (eOp fAdd (eOp fIx (eVar 0) (eC (.int 2))) (eC (.int 1))) (aNil)))) (gNm 2) (sAsg (eOp fAdd (eVar 1) (eLc [3] (iRg2 (aCons (eOp fIx (eVar 0) (eC (.int 1))) (aCons (eOp fAdd (eOp fIx (eVar 0) (eC (.int 3))) (eC (.int 1))) (aNil)))) (gNm 3) (tTrue) (eTup (aCons (eVar 2) (aCons (eVar 3) (aNil)))))) (gNm 1))) (sRet (eVar 1)))
def S__law_in_box : FSem := runB N__law_in_box.length false g__law_in_box
theorem u__law_in_box (Φ : List CSem) (x0 : EV) (w : List Int) : S__law_in_box Φ [x0] w = (g__law_in_box Φ [some x0, none, none, none] w).fin := run1
/-! _law_right -/
abbrev N__law_right : List Str := ["pail", "lap", "one", "two", "least", "due", "told", "more", "a", "b", "c", "d"]
abbrev P__law_right : List Str := ["pail"]
def g__law_right (_ : List CSem) : Sx := sSeq (sFor (iRg1 (aCons (eC (.int 20)) (aNil))) (gNm 1) (sSeq (sAsg (eTup (aCons (eFnS 1 S__law_box (aNil)) (aCons (eFnS 1 S__law_box (aNil)) (aNil)))) (gTu 2 (gCn (gNm 2) (gCn (gNm 3) (gNl))))) (sSeq (sAsg (eCall fMin (aCons (eLc [8, 9] (iSeq (eFn 1 S__law_in_box (aCons (eVar 2) (aNil)))) (gTu 2 (gCn (gNm 8) (gCn (gNm 9) (gNl)))) (tTrue) (eCall fMin (aCons (eLc [10, 11] (iSeq (eFn 1 S__law_in_box (aCons (eVar 3) (aNil)))) (gTu 2 (gCn (gNm 10) (gCn (gNm 11) (gNl)))) (tTrue) (eOp fAdd (eCall fAbs (aCons (eOp fSub (eVar 8) (eVar 10)) (aNil))) (eCall fAbs (aCons (eOp fSub (eVar 9) (eVar 11)) (aNil))))) (aNil)))) (aNil))) (gNm 4)) (sSeq (sAsg (eLst (aCons (eOp fLt (eVar 4) (eC (.int 3))) (aCons (eFn 2 S__law_box_with (aCons (eVar 2) (aCons (eVar 3) (aNil)))) (aCons (eOp fAdd (eOp fSub (eOp fAdd (eOp fSub (eOp fIx (eVar 2) (eC (.int 2))) (eOp fIx (eVar 2) (eC (.int 0)))) (eOp fIx (eVar 2) (eC (.int 3)))) (eOp fIx (eVar 2) (eC (.int 1)))) (eC (.int 2))) (aNil))))) (gNm 5)) (sSeq (sAsg (eLst (aCons (eFn 2 S_are_near (aCons (eVar 2) (aCons (eVar 3) (aNil)))) (aCons (eFn 2 S_box_with (aCons (eVar 2) (aCons (eVar 3) (aNil)))) (aCons (eFn 1 S_half_rim (aCons (eVar 2) (aNil))) (aNil))))) (gNm 6)) (sSeq (sAsg (eLst (aCons (eFnK 2 2 [1, 0] S_are_near (aCons (eVar 3) (aCons (eVar 2) (aNil)))) (aCons (eFnK 2 2 [1, 0] S_box_with (aCons (eVar 3) (aCons (eVar 2) (aNil)))) (aCons (eFnK 1 1 [0] S_half_rim (aCons (eVar 2) (aNil))) (aNil))))) (gNm 7)) (sSeq (sIf (tOr' (asB (eOp fNe (eCall fRepr (aCons (eLst (aCons (eVar 6) (aCons (eVar 7) (aNil)))) (aNil))) (eCall fRepr (aCons (eLst (aCons (eVar 5) (aCons (eVar 5) (aNil)))) (aNil))))) (tOr' (asB (eOp fNe (eFn 2 S_are_near (aCons (eVar 3) (aCons (eVar 2) (aNil)))) (eOp fIx (eVar 5) (eC (.int 0))))) (asB (eOp fNe (eFn 2 S_box_with (aCons (eVar 3) (aCons (eVar 2) (aNil)))) (eOp fIx (eVar 5) (eC (.int 1))))))) (sRet (eC (.bool false))) (sNo)) (sIf (tAnd' (asB (eOp fIx (eVar 5) (eC (.int 0)))) (asB (eOp fGt (eFn 1 S_half_rim (aCons (eOp fIx (eVar 5) (eC (.int 1))) (aNil))) (eOp fAdd (eFn 1 S_half_rim (aCons (eVar 2) (aNil))) (eFn 1 S_half_rim (aCons (eVar 3) (aNil))))))) (sRet (eC (.bool false))) (sNo))))))))) (sRet (eC (.bool true)))
def S__law_right : FSem := runB N__law_right.length true g__law_right
theorem u__law_right (Φ : List CSem) (w : List Int) : S__law_right Φ [] w = (g__law_right Φ [none, none, none, none, none, none, none, none, none, none, none, none] w).fin := run1
/-! law -/
abbrev N_law : List Str := ["script", "turn"]
abbrev P_law : List Str := ["script"]
def g_law (_ : List CSem) : Sx := sRet (eCall fAll (aCons (eLc [1] (iRg1 (aCons (eCall fMax (aCons (eC (.int 2)) (aCons (eCall fMin (aCons (eCall fLen (aCons (eVar 0) (aNil))) (aCons (eC (.int 3)) (aNil)))) (aNil)))) (aNil))) (gNm 1) (tTrue) (eFnF S__law_right (aCons (eFn 2 S__law_pail (aCons (eVar 0) (aCons (eVar 1) (aNil)))) (aNil)))) (aNil)))
def S_law : FSem := runB N_law.length false g_law
theorem u_law (Φ : List CSem) (x0 : EV) (w : List Int) : S_law Φ [x0] w = (g_law Φ [some x0, none] w).fin := run1
end Dk40
namespace Dk40
open PySem DL
theorem p_whole (i : Int) (w : List Int) : S_is_whole [] [.fz (.int i)] w = .ok (.fz (.bool true), w) := by rfl
theorem p_number (i : Int) (h : 0 ≤ i) (h2 : i ≤ 5) (w : List Int) : S_is_number [] [.fz (.int i), .fz (.int 0), .fz (.int 5)] w = .ok (.fz (.bool true), w) := by
  rw [u_is_number]
  unfold g_is_number
  have e : ¬ i < 0 := by omega
  simp only [k_op1, k_op2, k_un, k_call, k_b, k_and, k_or, k_not, k_eand, k_eor, k_enot, k_if, k_c1, k_c2, k_c3, k_cons1, k_cons2, k_tup, k_lst, k_fn, k_fnS, k_fnK, k_isi, k_sl1, k_sl2, k_sl3, k_i, o_sx, o_ret, o_if, o_set, o_asg, o_par2, o_par3, o_stS, o_stT, o_for, k_seq, k_rg1, k_rg2, e_rg1, e_rg2, rg1_1, rg2_1, k_lc, k_lt, k_le, k_lc2, k_fnF, e_fnF, run1, e_seq, seq_nx, seq_rt, seq_ct, seq_bk, fin_nx, fin_rt, given_fz, given_ow, given_bw, e_var, e_op, e_un, e_call, e_c, lift1, e_asB, toB1, e_tand, e_tor, e_tnot, e_and, e_or, e_not, e_if, e_chain, chn1, e_nil, e_cons, e_tup, e_lst, e_fn, e_fnS, e_fnK, e_isi, isiR1, outR1, outS1, e_stG, e_sl, b_no, b_so, toI1, e_no, e_sx, e_ret, e_retN, e_sif, put_fz, put_ow, nxO1, e_set, asg_fz, asg_ow, e_asg, g_nm, g_nl, g_cn, obind1, g_tuT, g_tuL, e_par2, e_par3, stO1, e_stS, e_stT, bind1, ofR1, d_fz, d_ow, d_bw, frz_fz, frz_ow, frz_bw, nb_nil, nb_fz, nb_ow, nb_bw, v_add, v_sub, v_neg, v_lt, v_gt, v_le, v_ge, v_is, v_isNot, v_eqS, v_neS, v_eq, v_ne, v_eqB, v_neB, v_ixT, v_ixL, at0, at1, at2, at3, at4, at5, map1, v_lenL, v_lenT, v_abs, v_int, v_intB, v_max2, v_min2, v_max3, v_min3, v_tupL, v_tupT, v_lstL, v_lstT, k_int_none, k_int_bool, k_int_int, k_int_str, k_int_list, k_int_tuple, k_bool_none, k_bool_bool, k_bool_int, k_bool_str, k_bool_list, k_bool_tuple, k_str_none, k_str_bool, k_str_int, k_str_str, k_str_list, k_str_tuple, k_list_none, k_list_bool, k_list_int, k_list_str, k_list_list, k_list_tuple, k_tuple_none, k_tuple_bool, k_tuple_int, k_tuple_str, k_tuple_list, k_tuple_tuple, k_dict_none, k_dict_bool, k_dict_int, k_dict_str, k_dict_list, k_dict_tuple, Int.cast_ofNat_Int, Nat.reduceAdd, Nat.reduceLeDiff, e_lc, e_iseq, seqI_fl, seqI_ft, seqI_ol, seqI_ot, lc_step, lc_nil, lcS1, lcN1, val_fz, val_ow, t_true, wipe0, wipe1, mkL1, noX1, loop_step, loop_nil, loopS1, loop_nx, loop_ct, loop_bk, loop_rt, loop_exc, e_for, v_allD, v_anyD, bools_map, ints_map, bools0, bools1, ints0, ints1, size_eq, decide_true, decide_false, true_or, or_true, eq_self, and_true, true_and, List.all_cons, List.all_nil, List.any_cons, List.any_nil, id_eq, isN, List.map_cons, List.map_nil, List.length_cons, List.length_nil, List.getElem?_cons_zero, List.getElem?_cons_succ, List.set_cons_zero, List.set_cons_succ, decide_eq_true_eq, if_true, Bool.or_true, Bool.true_or, Bool.and_true, Bool.true_and, Bool.false_eq_true, if_false, Bool.not_true, Bool.not_false, Bool.or_false, Bool.false_or, Bool.and_false, Bool.false_and, BEq.rfl, p_whole, e, h2, decide_false, decide_true]
abbrev bx (a b c d : Int) : D := .tuple [.int a, .int b, .int c, .int d]
theorem p_tuple (a b c d : Int) (w : List Int) : S_is_tuple_of [] [.fz (bx a b c d), .fz (.int 4)] w = .ok (.fz (.bool true), w) := by
  rw [u_is_tuple_of]
  unfold g_is_tuple_of
  simp only [k_op1, k_op2, k_un, k_call, k_b, k_and, k_or, k_not, k_eand, k_eor, k_enot, k_if, k_c1, k_c2, k_c3, k_cons1, k_cons2, k_tup, k_lst, k_fn, k_fnS, k_fnK, k_isi, k_sl1, k_sl2, k_sl3, k_i, o_sx, o_ret, o_if, o_set, o_asg, o_par2, o_par3, o_stS, o_stT, o_for, k_seq, k_rg1, k_rg2, e_rg1, e_rg2, rg1_1, rg2_1, k_lc, k_lt, k_le, k_lc2, k_fnF, e_fnF, run1, e_seq, seq_nx, seq_rt, seq_ct, seq_bk, fin_nx, fin_rt, given_fz, given_ow, given_bw, e_var, e_op, e_un, e_call, e_c, lift1, e_asB, toB1, e_tand, e_tor, e_tnot, e_and, e_or, e_not, e_if, e_chain, chn1, e_nil, e_cons, e_tup, e_lst, e_fn, e_fnS, e_fnK, e_isi, isiR1, outR1, outS1, e_stG, e_sl, b_no, b_so, toI1, e_no, e_sx, e_ret, e_retN, e_sif, put_fz, put_ow, nxO1, e_set, asg_fz, asg_ow, e_asg, g_nm, g_nl, g_cn, obind1, g_tuT, g_tuL, e_par2, e_par3, stO1, e_stS, e_stT, bind1, ofR1, d_fz, d_ow, d_bw, frz_fz, frz_ow, frz_bw, nb_nil, nb_fz, nb_ow, nb_bw, v_add, v_sub, v_neg, v_lt, v_gt, v_le, v_ge, v_is, v_isNot, v_eqS, v_neS, v_eq, v_ne, v_eqB, v_neB, v_ixT, v_ixL, at0, at1, at2, at3, at4, at5, map1, v_lenL, v_lenT, v_abs, v_int, v_intB, v_max2, v_min2, v_max3, v_min3, v_tupL, v_tupT, v_lstL, v_lstT, k_int_none, k_int_bool, k_int_int, k_int_str, k_int_list, k_int_tuple, k_bool_none, k_bool_bool, k_bool_int, k_bool_str, k_bool_list, k_bool_tuple, k_str_none, k_str_bool, k_str_int, k_str_str, k_str_list, k_str_tuple, k_list_none, k_list_bool, k_list_int, k_list_str, k_list_list, k_list_tuple, k_tuple_none, k_tuple_bool, k_tuple_int, k_tuple_str, k_tuple_list, k_tuple_tuple, k_dict_none, k_dict_bool, k_dict_int, k_dict_str, k_dict_list, k_dict_tuple, Int.cast_ofNat_Int, Nat.reduceAdd, Nat.reduceLeDiff, e_lc, e_iseq, seqI_fl, seqI_ft, seqI_ol, seqI_ot, lc_step, lc_nil, lcS1, lcN1, val_fz, val_ow, t_true, wipe0, wipe1, mkL1, noX1, loop_step, loop_nil, loopS1, loop_nx, loop_ct, loop_bk, loop_rt, loop_exc, e_for, v_allD, v_anyD, bools_map, ints_map, bools0, bools1, ints0, ints1, size_eq, decide_true, decide_false, true_or, or_true, eq_self, and_true, true_and, List.all_cons, List.all_nil, List.any_cons, List.any_nil, id_eq, isN, List.map_cons, List.map_nil, List.length_cons, List.length_nil, List.getElem?_cons_zero, List.getElem?_cons_succ, List.set_cons_zero, List.set_cons_succ, decide_eq_true_eq, if_true, Bool.or_true, Bool.true_or, Bool.and_true, Bool.true_and, Bool.false_eq_true, if_false, Bool.not_true, Bool.not_false, Bool.or_false, Bool.false_or, Bool.and_false, Bool.false_and, BEq.rfl]
/-- a box: inside the floor, its sides in order -/
def Bx (a b c d : Int) : Prop := 0 ≤ a ∧ a ≤ c ∧ c ≤ 5 ∧ 0 ≤ b ∧ b ≤ d ∧ d ≤ 5
theorem p_form (a b c d : Int) (h : Bx a b c d) (w : List Int) : S_is_box_form [] [.fz (bx a b c d)] w = .ok (.fz (.bool true), w) := by
  obtain ⟨h1, h2, h3, h4, h5, h6⟩ := h
  rw [u_is_box_form]
  unfold g_is_box_form
  have n1 := p_number a h1 (by omega)
  have n2 := p_number b h4 (by omega)
  have n3 := p_number c (by omega) h3
  have n4 := p_number d (by omega) h6
  simp only [k_op1, k_op2, k_un, k_call, k_b, k_and, k_or, k_not, k_eand, k_eor, k_enot, k_if, k_c1, k_c2, k_c3, k_cons1, k_cons2, k_tup, k_lst, k_fn, k_fnS, k_fnK, k_isi, k_sl1, k_sl2, k_sl3, k_i, o_sx, o_ret, o_if, o_set, o_asg, o_par2, o_par3, o_stS, o_stT, o_for, k_seq, k_rg1, k_rg2, e_rg1, e_rg2, rg1_1, rg2_1, k_lc, k_lt, k_le, k_lc2, k_fnF, e_fnF, run1, e_seq, seq_nx, seq_rt, seq_ct, seq_bk, fin_nx, fin_rt, given_fz, given_ow, given_bw, e_var, e_op, e_un, e_call, e_c, lift1, e_asB, toB1, e_tand, e_tor, e_tnot, e_and, e_or, e_not, e_if, e_chain, chn1, e_nil, e_cons, e_tup, e_lst, e_fn, e_fnS, e_fnK, e_isi, isiR1, outR1, outS1, e_stG, e_sl, b_no, b_so, toI1, e_no, e_sx, e_ret, e_retN, e_sif, put_fz, put_ow, nxO1, e_set, asg_fz, asg_ow, e_asg, g_nm, g_nl, g_cn, obind1, g_tuT, g_tuL, e_par2, e_par3, stO1, e_stS, e_stT, bind1, ofR1, d_fz, d_ow, d_bw, frz_fz, frz_ow, frz_bw, nb_nil, nb_fz, nb_ow, nb_bw, v_add, v_sub, v_neg, v_lt, v_gt, v_le, v_ge, v_is, v_isNot, v_eqS, v_neS, v_eq, v_ne, v_eqB, v_neB, v_ixT, v_ixL, at0, at1, at2, at3, at4, at5, map1, v_lenL, v_lenT, v_abs, v_int, v_intB, v_max2, v_min2, v_max3, v_min3, v_tupL, v_tupT, v_lstL, v_lstT, k_int_none, k_int_bool, k_int_int, k_int_str, k_int_list, k_int_tuple, k_bool_none, k_bool_bool, k_bool_int, k_bool_str, k_bool_list, k_bool_tuple, k_str_none, k_str_bool, k_str_int, k_str_str, k_str_list, k_str_tuple, k_list_none, k_list_bool, k_list_int, k_list_str, k_list_list, k_list_tuple, k_tuple_none, k_tuple_bool, k_tuple_int, k_tuple_str, k_tuple_list, k_tuple_tuple, k_dict_none, k_dict_bool, k_dict_int, k_dict_str, k_dict_list, k_dict_tuple, Int.cast_ofNat_Int, Nat.reduceAdd, Nat.reduceLeDiff, e_lc, e_iseq, seqI_fl, seqI_ft, seqI_ol, seqI_ot, lc_step, lc_nil, lcS1, lcN1, val_fz, val_ow, t_true, wipe0, wipe1, mkL1, noX1, loop_step, loop_nil, loopS1, loop_nx, loop_ct, loop_bk, loop_rt, loop_exc, e_for, v_allD, v_anyD, bools_map, ints_map, bools0, bools1, ints0, ints1, size_eq, decide_true, decide_false, true_or, or_true, eq_self, and_true, true_and, List.all_cons, List.all_nil, List.any_cons, List.any_nil, id_eq, isN, List.map_cons, List.map_nil, List.length_cons, List.length_nil, List.getElem?_cons_zero, List.getElem?_cons_succ, List.set_cons_zero, List.set_cons_succ, decide_eq_true_eq, if_true, Bool.or_true, Bool.true_or, Bool.and_true, Bool.true_and, Bool.false_eq_true, if_false, Bool.not_true, Bool.not_false, Bool.or_false, Bool.false_or, Bool.and_false, Bool.false_and, BEq.rfl, p_tuple, n1, n2, n3, n4, h2, h5, decide_true]
theorem p_check (a b c d : Int) (h : Bx a b c d) (w : List Int) : S_check_box [] [.fz (bx a b c d)] w = .ok (.fz .none, w) := by
  rw [u_check_box]
  unfold g_check_box
  simp only [k_op1, k_op2, k_un, k_call, k_b, k_and, k_or, k_not, k_eand, k_eor, k_enot, k_if, k_c1, k_c2, k_c3, k_cons1, k_cons2, k_tup, k_lst, k_fn, k_fnS, k_fnK, k_isi, k_sl1, k_sl2, k_sl3, k_i, o_sx, o_ret, o_if, o_set, o_asg, o_par2, o_par3, o_stS, o_stT, o_for, k_seq, k_rg1, k_rg2, e_rg1, e_rg2, rg1_1, rg2_1, k_lc, k_lt, k_le, k_lc2, k_fnF, e_fnF, run1, e_seq, seq_nx, seq_rt, seq_ct, seq_bk, fin_nx, fin_rt, given_fz, given_ow, given_bw, e_var, e_op, e_un, e_call, e_c, lift1, e_asB, toB1, e_tand, e_tor, e_tnot, e_and, e_or, e_not, e_if, e_chain, chn1, e_nil, e_cons, e_tup, e_lst, e_fn, e_fnS, e_fnK, e_isi, isiR1, outR1, outS1, e_stG, e_sl, b_no, b_so, toI1, e_no, e_sx, e_ret, e_retN, e_sif, put_fz, put_ow, nxO1, e_set, asg_fz, asg_ow, e_asg, g_nm, g_nl, g_cn, obind1, g_tuT, g_tuL, e_par2, e_par3, stO1, e_stS, e_stT, bind1, ofR1, d_fz, d_ow, d_bw, frz_fz, frz_ow, frz_bw, nb_nil, nb_fz, nb_ow, nb_bw, v_add, v_sub, v_neg, v_lt, v_gt, v_le, v_ge, v_is, v_isNot, v_eqS, v_neS, v_eq, v_ne, v_eqB, v_neB, v_ixT, v_ixL, at0, at1, at2, at3, at4, at5, map1, v_lenL, v_lenT, v_abs, v_int, v_intB, v_max2, v_min2, v_max3, v_min3, v_tupL, v_tupT, v_lstL, v_lstT, k_int_none, k_int_bool, k_int_int, k_int_str, k_int_list, k_int_tuple, k_bool_none, k_bool_bool, k_bool_int, k_bool_str, k_bool_list, k_bool_tuple, k_str_none, k_str_bool, k_str_int, k_str_str, k_str_list, k_str_tuple, k_list_none, k_list_bool, k_list_int, k_list_str, k_list_list, k_list_tuple, k_tuple_none, k_tuple_bool, k_tuple_int, k_tuple_str, k_tuple_list, k_tuple_tuple, k_dict_none, k_dict_bool, k_dict_int, k_dict_str, k_dict_list, k_dict_tuple, Int.cast_ofNat_Int, Nat.reduceAdd, Nat.reduceLeDiff, e_lc, e_iseq, seqI_fl, seqI_ft, seqI_ol, seqI_ot, lc_step, lc_nil, lcS1, lcN1, val_fz, val_ow, t_true, wipe0, wipe1, mkL1, noX1, loop_step, loop_nil, loopS1, loop_nx, loop_ct, loop_bk, loop_rt, loop_exc, e_for, v_allD, v_anyD, bools_map, ints_map, bools0, bools1, ints0, ints1, size_eq, decide_true, decide_false, true_or, or_true, eq_self, and_true, true_and, List.all_cons, List.all_nil, List.any_cons, List.any_nil, id_eq, isN, List.map_cons, List.map_nil, List.length_cons, List.length_nil, List.getElem?_cons_zero, List.getElem?_cons_succ, List.set_cons_zero, List.set_cons_succ, decide_eq_true_eq, if_true, Bool.or_true, Bool.true_or, Bool.and_true, Bool.true_and, Bool.false_eq_true, if_false, Bool.not_true, Bool.not_false, Bool.or_false, Bool.false_or, Bool.and_false, Bool.false_and, BEq.rfl, p_form a b c d h]
theorem p_check2 (a b c d a' b' c' d' : Int) (h : Bx a b c d) (h' : Bx a' b' c' d') (w : List Int) : S_check_boxes [] [.fz (bx a b c d), .fz (bx a' b' c' d')] w = .ok (.fz .none, w) := by
  rw [u_check_boxes]
  unfold g_check_boxes
  simp only [k_op1, k_op2, k_un, k_call, k_b, k_and, k_or, k_not, k_eand, k_eor, k_enot, k_if, k_c1, k_c2, k_c3, k_cons1, k_cons2, k_tup, k_lst, k_fn, k_fnS, k_fnK, k_isi, k_sl1, k_sl2, k_sl3, k_i, o_sx, o_ret, o_if, o_set, o_asg, o_par2, o_par3, o_stS, o_stT, o_for, k_seq, k_rg1, k_rg2, e_rg1, e_rg2, rg1_1, rg2_1, k_lc, k_lt, k_le, k_lc2, k_fnF, e_fnF, run1, e_seq, seq_nx, seq_rt, seq_ct, seq_bk, fin_nx, fin_rt, given_fz, given_ow, given_bw, e_var, e_op, e_un, e_call, e_c, lift1, e_asB, toB1, e_tand, e_tor, e_tnot, e_and, e_or, e_not, e_if, e_chain, chn1, e_nil, e_cons, e_tup, e_lst, e_fn, e_fnS, e_fnK, e_isi, isiR1, outR1, outS1, e_stG, e_sl, b_no, b_so, toI1, e_no, e_sx, e_ret, e_retN, e_sif, put_fz, put_ow, nxO1, e_set, asg_fz, asg_ow, e_asg, g_nm, g_nl, g_cn, obind1, g_tuT, g_tuL, e_par2, e_par3, stO1, e_stS, e_stT, bind1, ofR1, d_fz, d_ow, d_bw, frz_fz, frz_ow, frz_bw, nb_nil, nb_fz, nb_ow, nb_bw, v_add, v_sub, v_neg, v_lt, v_gt, v_le, v_ge, v_is, v_isNot, v_eqS, v_neS, v_eq, v_ne, v_eqB, v_neB, v_ixT, v_ixL, at0, at1, at2, at3, at4, at5, map1, v_lenL, v_lenT, v_abs, v_int, v_intB, v_max2, v_min2, v_max3, v_min3, v_tupL, v_tupT, v_lstL, v_lstT, k_int_none, k_int_bool, k_int_int, k_int_str, k_int_list, k_int_tuple, k_bool_none, k_bool_bool, k_bool_int, k_bool_str, k_bool_list, k_bool_tuple, k_str_none, k_str_bool, k_str_int, k_str_str, k_str_list, k_str_tuple, k_list_none, k_list_bool, k_list_int, k_list_str, k_list_list, k_list_tuple, k_tuple_none, k_tuple_bool, k_tuple_int, k_tuple_str, k_tuple_list, k_tuple_tuple, k_dict_none, k_dict_bool, k_dict_int, k_dict_str, k_dict_list, k_dict_tuple, Int.cast_ofNat_Int, Nat.reduceAdd, Nat.reduceLeDiff, e_lc, e_iseq, seqI_fl, seqI_ft, seqI_ol, seqI_ot, lc_step, lc_nil, lcS1, lcN1, val_fz, val_ow, t_true, wipe0, wipe1, mkL1, noX1, loop_step, loop_nil, loopS1, loop_nx, loop_ct, loop_bk, loop_rt, loop_exc, e_for, v_allD, v_anyD, bools_map, ints_map, bools0, bools1, ints0, ints1, size_eq, decide_true, decide_false, true_or, or_true, eq_self, and_true, true_and, List.all_cons, List.all_nil, List.any_cons, List.any_nil, id_eq, isN, List.map_cons, List.map_nil, List.length_cons, List.length_nil, List.getElem?_cons_zero, List.getElem?_cons_succ, List.set_cons_zero, List.set_cons_succ, decide_eq_true_eq, if_true, Bool.or_true, Bool.true_or, Bool.and_true, Bool.true_and, Bool.false_eq_true, if_false, Bool.not_true, Bool.not_false, Bool.or_false, Bool.false_or, Bool.and_false, Bool.false_and, BEq.rfl, p_check a b c d h, p_check a' b' c' d' h']
def gap (a c a' c' : Int) : Int := if (if a' - c > 0 then a' - c else 0) < a - c' then a - c' else if a' - c > 0 then a' - c else 0
theorem gap_eq (a c a' c' : Int) : gap a c a' c' = max 0 (max (a' - c) (a - c')) := by unfold gap; split <;> split <;> omega
theorem p_apart (a b c d a' b' c' d' : Int) (w : List Int) : S_apart_in [] [.fz (bx a b c d), .fz (bx a' b' c' d')] w = .ok (.fz (.tuple [.int (gap a c a' c'), .int (gap b d b' d')]), w) := by
  rw [u_apart_in]
  unfold g_apart_in
  simp only [k_op1, k_op2, k_un, k_call, k_b, k_and, k_or, k_not, k_eand, k_eor, k_enot, k_if, k_c1, k_c2, k_c3, k_cons1, k_cons2, k_tup, k_lst, k_fn, k_fnS, k_fnK, k_isi, k_sl1, k_sl2, k_sl3, k_i, o_sx, o_ret, o_if, o_set, o_asg, o_par2, o_par3, o_stS, o_stT, o_for, k_seq, k_rg1, k_rg2, e_rg1, e_rg2, rg1_1, rg2_1, k_lc, k_lt, k_le, k_lc2, k_fnF, e_fnF, run1, e_seq, seq_nx, seq_rt, seq_ct, seq_bk, fin_nx, fin_rt, given_fz, given_ow, given_bw, e_var, e_op, e_un, e_call, e_c, lift1, e_asB, toB1, e_tand, e_tor, e_tnot, e_and, e_or, e_not, e_if, e_chain, chn1, e_nil, e_cons, e_tup, e_lst, e_fn, e_fnS, e_fnK, e_isi, isiR1, outR1, outS1, e_stG, e_sl, b_no, b_so, toI1, e_no, e_sx, e_ret, e_retN, e_sif, put_fz, put_ow, nxO1, e_set, asg_fz, asg_ow, e_asg, g_nm, g_nl, g_cn, obind1, g_tuT, g_tuL, e_par2, e_par3, stO1, e_stS, e_stT, bind1, ofR1, d_fz, d_ow, d_bw, frz_fz, frz_ow, frz_bw, nb_nil, nb_fz, nb_ow, nb_bw, v_add, v_sub, v_neg, v_lt, v_gt, v_le, v_ge, v_is, v_isNot, v_eqS, v_neS, v_eq, v_ne, v_eqB, v_neB, v_ixT, v_ixL, at0, at1, at2, at3, at4, at5, map1, v_lenL, v_lenT, v_abs, v_int, v_intB, v_max2, v_min2, v_max3, v_min3, v_tupL, v_tupT, v_lstL, v_lstT, k_int_none, k_int_bool, k_int_int, k_int_str, k_int_list, k_int_tuple, k_bool_none, k_bool_bool, k_bool_int, k_bool_str, k_bool_list, k_bool_tuple, k_str_none, k_str_bool, k_str_int, k_str_str, k_str_list, k_str_tuple, k_list_none, k_list_bool, k_list_int, k_list_str, k_list_list, k_list_tuple, k_tuple_none, k_tuple_bool, k_tuple_int, k_tuple_str, k_tuple_list, k_tuple_tuple, k_dict_none, k_dict_bool, k_dict_int, k_dict_str, k_dict_list, k_dict_tuple, Int.cast_ofNat_Int, Nat.reduceAdd, Nat.reduceLeDiff, e_lc, e_iseq, seqI_fl, seqI_ft, seqI_ol, seqI_ot, lc_step, lc_nil, lcS1, lcN1, val_fz, val_ow, t_true, wipe0, wipe1, mkL1, noX1, loop_step, loop_nil, loopS1, loop_nx, loop_ct, loop_bk, loop_rt, loop_exc, e_for, v_allD, v_anyD, bools_map, ints_map, bools0, bools1, ints0, ints1, size_eq, decide_true, decide_false, true_or, or_true, eq_self, and_true, true_and, List.all_cons, List.all_nil, List.any_cons, List.any_nil, id_eq, isN, List.map_cons, List.map_nil, List.length_cons, List.length_nil, List.getElem?_cons_zero, List.getElem?_cons_succ, List.set_cons_zero, List.set_cons_succ, decide_eq_true_eq, if_true, Bool.or_true, Bool.true_or, Bool.and_true, Bool.true_and, Bool.false_eq_true, if_false, Bool.not_true, Bool.not_false, Bool.or_false, Bool.false_or, Bool.and_false, Bool.false_and, BEq.rfl]
  rfl
theorem p_near_in (a b c d a' b' c' d' : Int) (w : List Int) : S_are_near_in [] [.fz (bx a b c d), .fz (bx a' b' c' d')] w = .ok (.fz (.bool (decide (gap a c a' c' + gap b d b' d' ≤ 2))), w) := by
  rw [u_are_near_in]
  unfold g_are_near_in
  simp only [k_op1, k_op2, k_un, k_call, k_b, k_and, k_or, k_not, k_eand, k_eor, k_enot, k_if, k_c1, k_c2, k_c3, k_cons1, k_cons2, k_tup, k_lst, k_fn, k_fnS, k_fnK, k_isi, k_sl1, k_sl2, k_sl3, k_i, o_sx, o_ret, o_if, o_set, o_asg, o_par2, o_par3, o_stS, o_stT, o_for, k_seq, k_rg1, k_rg2, e_rg1, e_rg2, rg1_1, rg2_1, k_lc, k_lt, k_le, k_lc2, k_fnF, e_fnF, run1, e_seq, seq_nx, seq_rt, seq_ct, seq_bk, fin_nx, fin_rt, given_fz, given_ow, given_bw, e_var, e_op, e_un, e_call, e_c, lift1, e_asB, toB1, e_tand, e_tor, e_tnot, e_and, e_or, e_not, e_if, e_chain, chn1, e_nil, e_cons, e_tup, e_lst, e_fn, e_fnS, e_fnK, e_isi, isiR1, outR1, outS1, e_stG, e_sl, b_no, b_so, toI1, e_no, e_sx, e_ret, e_retN, e_sif, put_fz, put_ow, nxO1, e_set, asg_fz, asg_ow, e_asg, g_nm, g_nl, g_cn, obind1, g_tuT, g_tuL, e_par2, e_par3, stO1, e_stS, e_stT, bind1, ofR1, d_fz, d_ow, d_bw, frz_fz, frz_ow, frz_bw, nb_nil, nb_fz, nb_ow, nb_bw, v_add, v_sub, v_neg, v_lt, v_gt, v_le, v_ge, v_is, v_isNot, v_eqS, v_neS, v_eq, v_ne, v_eqB, v_neB, v_ixT, v_ixL, at0, at1, at2, at3, at4, at5, map1, v_lenL, v_lenT, v_abs, v_int, v_intB, v_max2, v_min2, v_max3, v_min3, v_tupL, v_tupT, v_lstL, v_lstT, k_int_none, k_int_bool, k_int_int, k_int_str, k_int_list, k_int_tuple, k_bool_none, k_bool_bool, k_bool_int, k_bool_str, k_bool_list, k_bool_tuple, k_str_none, k_str_bool, k_str_int, k_str_str, k_str_list, k_str_tuple, k_list_none, k_list_bool, k_list_int, k_list_str, k_list_list, k_list_tuple, k_tuple_none, k_tuple_bool, k_tuple_int, k_tuple_str, k_tuple_list, k_tuple_tuple, k_dict_none, k_dict_bool, k_dict_int, k_dict_str, k_dict_list, k_dict_tuple, Int.cast_ofNat_Int, Nat.reduceAdd, Nat.reduceLeDiff, e_lc, e_iseq, seqI_fl, seqI_ft, seqI_ol, seqI_ot, lc_step, lc_nil, lcS1, lcN1, val_fz, val_ow, t_true, wipe0, wipe1, mkL1, noX1, loop_step, loop_nil, loopS1, loop_nx, loop_ct, loop_bk, loop_rt, loop_exc, e_for, v_allD, v_anyD, bools_map, ints_map, bools0, bools1, ints0, ints1, size_eq, decide_true, decide_false, true_or, or_true, eq_self, and_true, true_and, List.all_cons, List.all_nil, List.any_cons, List.any_nil, id_eq, isN, List.map_cons, List.map_nil, List.length_cons, List.length_nil, List.getElem?_cons_zero, List.getElem?_cons_succ, List.set_cons_zero, List.set_cons_succ, decide_eq_true_eq, if_true, Bool.or_true, Bool.true_or, Bool.and_true, Bool.true_and, Bool.false_eq_true, if_false, Bool.not_true, Bool.not_false, Bool.or_false, Bool.false_or, Bool.and_false, Bool.false_and, BEq.rfl, p_apart, v_sumDT, List.sum_cons, List.sum_nil, Int.add_zero]
def lo (a b : Int) : Int := if b < a then b else a
def hi (a b : Int) : Int := if b > a then b else a
theorem lo_eq (a b : Int) : lo a b = min a b := by unfold lo; split <;> omega
theorem hi_eq (a b : Int) : hi a b = max a b := by unfold hi; split <;> omega
abbrev both (a b c d a' b' c' d' : Int) : D := bx (lo a a') (lo b b') (hi c c') (hi d d')
theorem p_both (a b c d a' b' c' d' : Int) (w : List Int) : S_both_of [] [.fz (bx a b c d), .fz (bx a' b' c' d')] w = .ok (.fz (both a b c d a' b' c' d'), w) := by
  rw [u_both_of]
  unfold g_both_of
  simp only [k_op1, k_op2, k_un, k_call, k_b, k_and, k_or, k_not, k_eand, k_eor, k_enot, k_if, k_c1, k_c2, k_c3, k_cons1, k_cons2, k_tup, k_lst, k_fn, k_fnS, k_fnK, k_isi, k_sl1, k_sl2, k_sl3, k_i, o_sx, o_ret, o_if, o_set, o_asg, o_par2, o_par3, o_stS, o_stT, o_for, k_seq, k_rg1, k_rg2, e_rg1, e_rg2, rg1_1, rg2_1, k_lc, k_lt, k_le, k_lc2, k_fnF, e_fnF, run1, e_seq, seq_nx, seq_rt, seq_ct, seq_bk, fin_nx, fin_rt, given_fz, given_ow, given_bw, e_var, e_op, e_un, e_call, e_c, lift1, e_asB, toB1, e_tand, e_tor, e_tnot, e_and, e_or, e_not, e_if, e_chain, chn1, e_nil, e_cons, e_tup, e_lst, e_fn, e_fnS, e_fnK, e_isi, isiR1, outR1, outS1, e_stG, e_sl, b_no, b_so, toI1, e_no, e_sx, e_ret, e_retN, e_sif, put_fz, put_ow, nxO1, e_set, asg_fz, asg_ow, e_asg, g_nm, g_nl, g_cn, obind1, g_tuT, g_tuL, e_par2, e_par3, stO1, e_stS, e_stT, bind1, ofR1, d_fz, d_ow, d_bw, frz_fz, frz_ow, frz_bw, nb_nil, nb_fz, nb_ow, nb_bw, v_add, v_sub, v_neg, v_lt, v_gt, v_le, v_ge, v_is, v_isNot, v_eqS, v_neS, v_eq, v_ne, v_eqB, v_neB, v_ixT, v_ixL, at0, at1, at2, at3, at4, at5, map1, v_lenL, v_lenT, v_abs, v_int, v_intB, v_max2, v_min2, v_max3, v_min3, v_tupL, v_tupT, v_lstL, v_lstT, k_int_none, k_int_bool, k_int_int, k_int_str, k_int_list, k_int_tuple, k_bool_none, k_bool_bool, k_bool_int, k_bool_str, k_bool_list, k_bool_tuple, k_str_none, k_str_bool, k_str_int, k_str_str, k_str_list, k_str_tuple, k_list_none, k_list_bool, k_list_int, k_list_str, k_list_list, k_list_tuple, k_tuple_none, k_tuple_bool, k_tuple_int, k_tuple_str, k_tuple_list, k_tuple_tuple, k_dict_none, k_dict_bool, k_dict_int, k_dict_str, k_dict_list, k_dict_tuple, Int.cast_ofNat_Int, Nat.reduceAdd, Nat.reduceLeDiff, e_lc, e_iseq, seqI_fl, seqI_ft, seqI_ol, seqI_ot, lc_step, lc_nil, lcS1, lcN1, val_fz, val_ow, t_true, wipe0, wipe1, mkL1, noX1, loop_step, loop_nil, loopS1, loop_nx, loop_ct, loop_bk, loop_rt, loop_exc, e_for, v_allD, v_anyD, bools_map, ints_map, bools0, bools1, ints0, ints1, size_eq, decide_true, decide_false, true_or, or_true, eq_self, and_true, true_and, List.all_cons, List.all_nil, List.any_cons, List.any_nil, id_eq, isN, List.map_cons, List.map_nil, List.length_cons, List.length_nil, List.getElem?_cons_zero, List.getElem?_cons_succ, List.set_cons_zero, List.set_cons_succ, decide_eq_true_eq, if_true, Bool.or_true, Bool.true_or, Bool.and_true, Bool.true_and, Bool.false_eq_true, if_false, Bool.not_true, Bool.not_false, Bool.or_false, Bool.false_or, Bool.and_false, Bool.false_and, BEq.rfl]
  rfl
theorem p_lboth (a b c d a' b' c' d' : Int) (w : List Int) : S__law_box_with [] [.fz (bx a b c d), .fz (bx a' b' c' d')] w = .ok (.fz (both a b c d a' b' c' d'), w) := by
  rw [u__law_box_with]
  unfold g__law_box_with
  simp only [k_op1, k_op2, k_un, k_call, k_b, k_and, k_or, k_not, k_eand, k_eor, k_enot, k_if, k_c1, k_c2, k_c3, k_cons1, k_cons2, k_tup, k_lst, k_fn, k_fnS, k_fnK, k_isi, k_sl1, k_sl2, k_sl3, k_i, o_sx, o_ret, o_if, o_set, o_asg, o_par2, o_par3, o_stS, o_stT, o_for, k_seq, k_rg1, k_rg2, e_rg1, e_rg2, rg1_1, rg2_1, k_lc, k_lt, k_le, k_lc2, k_fnF, e_fnF, run1, e_seq, seq_nx, seq_rt, seq_ct, seq_bk, fin_nx, fin_rt, given_fz, given_ow, given_bw, e_var, e_op, e_un, e_call, e_c, lift1, e_asB, toB1, e_tand, e_tor, e_tnot, e_and, e_or, e_not, e_if, e_chain, chn1, e_nil, e_cons, e_tup, e_lst, e_fn, e_fnS, e_fnK, e_isi, isiR1, outR1, outS1, e_stG, e_sl, b_no, b_so, toI1, e_no, e_sx, e_ret, e_retN, e_sif, put_fz, put_ow, nxO1, e_set, asg_fz, asg_ow, e_asg, g_nm, g_nl, g_cn, obind1, g_tuT, g_tuL, e_par2, e_par3, stO1, e_stS, e_stT, bind1, ofR1, d_fz, d_ow, d_bw, frz_fz, frz_ow, frz_bw, nb_nil, nb_fz, nb_ow, nb_bw, v_add, v_sub, v_neg, v_lt, v_gt, v_le, v_ge, v_is, v_isNot, v_eqS, v_neS, v_eq, v_ne, v_eqB, v_neB, v_ixT, v_ixL, at0, at1, at2, at3, at4, at5, map1, v_lenL, v_lenT, v_abs, v_int, v_intB, v_max2, v_min2, v_max3, v_min3, v_tupL, v_tupT, v_lstL, v_lstT, k_int_none, k_int_bool, k_int_int, k_int_str, k_int_list, k_int_tuple, k_bool_none, k_bool_bool, k_bool_int, k_bool_str, k_bool_list, k_bool_tuple, k_str_none, k_str_bool, k_str_int, k_str_str, k_str_list, k_str_tuple, k_list_none, k_list_bool, k_list_int, k_list_str, k_list_list, k_list_tuple, k_tuple_none, k_tuple_bool, k_tuple_int, k_tuple_str, k_tuple_list, k_tuple_tuple, k_dict_none, k_dict_bool, k_dict_int, k_dict_str, k_dict_list, k_dict_tuple, Int.cast_ofNat_Int, Nat.reduceAdd, Nat.reduceLeDiff, e_lc, e_iseq, seqI_fl, seqI_ft, seqI_ol, seqI_ot, lc_step, lc_nil, lcS1, lcN1, val_fz, val_ow, t_true, wipe0, wipe1, mkL1, noX1, loop_step, loop_nil, loopS1, loop_nx, loop_ct, loop_bk, loop_rt, loop_exc, e_for, v_allD, v_anyD, bools_map, ints_map, bools0, bools1, ints0, ints1, size_eq, decide_true, decide_false, true_or, or_true, eq_self, and_true, true_and, List.all_cons, List.all_nil, List.any_cons, List.any_nil, id_eq, isN, List.map_cons, List.map_nil, List.length_cons, List.length_nil, List.getElem?_cons_zero, List.getElem?_cons_succ, List.set_cons_zero, List.set_cons_succ, decide_eq_true_eq, if_true, Bool.or_true, Bool.true_or, Bool.and_true, Bool.true_and, Bool.false_eq_true, if_false, Bool.not_true, Bool.not_false, Bool.or_false, Bool.false_or, Bool.and_false, Bool.false_and, BEq.rfl]
  rfl
abbrev rim (a b c d : Int) : Int := c - a + d - b + 2
theorem p_rim_of (a b c d : Int) (w : List Int) : S_half_rim_of [] [.fz (bx a b c d)] w = .ok (.fz (.int (rim a b c d)), w) := by
  rw [u_half_rim_of]
  unfold g_half_rim_of
  simp only [k_op1, k_op2, k_un, k_call, k_b, k_and, k_or, k_not, k_eand, k_eor, k_enot, k_if, k_c1, k_c2, k_c3, k_cons1, k_cons2, k_tup, k_lst, k_fn, k_fnS, k_fnK, k_isi, k_sl1, k_sl2, k_sl3, k_i, o_sx, o_ret, o_if, o_set, o_asg, o_par2, o_par3, o_stS, o_stT, o_for, k_seq, k_rg1, k_rg2, e_rg1, e_rg2, rg1_1, rg2_1, k_lc, k_lt, k_le, k_lc2, k_fnF, e_fnF, run1, e_seq, seq_nx, seq_rt, seq_ct, seq_bk, fin_nx, fin_rt, given_fz, given_ow, given_bw, e_var, e_op, e_un, e_call, e_c, lift1, e_asB, toB1, e_tand, e_tor, e_tnot, e_and, e_or, e_not, e_if, e_chain, chn1, e_nil, e_cons, e_tup, e_lst, e_fn, e_fnS, e_fnK, e_isi, isiR1, outR1, outS1, e_stG, e_sl, b_no, b_so, toI1, e_no, e_sx, e_ret, e_retN, e_sif, put_fz, put_ow, nxO1, e_set, asg_fz, asg_ow, e_asg, g_nm, g_nl, g_cn, obind1, g_tuT, g_tuL, e_par2, e_par3, stO1, e_stS, e_stT, bind1, ofR1, d_fz, d_ow, d_bw, frz_fz, frz_ow, frz_bw, nb_nil, nb_fz, nb_ow, nb_bw, v_add, v_sub, v_neg, v_lt, v_gt, v_le, v_ge, v_is, v_isNot, v_eqS, v_neS, v_eq, v_ne, v_eqB, v_neB, v_ixT, v_ixL, at0, at1, at2, at3, at4, at5, map1, v_lenL, v_lenT, v_abs, v_int, v_intB, v_max2, v_min2, v_max3, v_min3, v_tupL, v_tupT, v_lstL, v_lstT, k_int_none, k_int_bool, k_int_int, k_int_str, k_int_list, k_int_tuple, k_bool_none, k_bool_bool, k_bool_int, k_bool_str, k_bool_list, k_bool_tuple, k_str_none, k_str_bool, k_str_int, k_str_str, k_str_list, k_str_tuple, k_list_none, k_list_bool, k_list_int, k_list_str, k_list_list, k_list_tuple, k_tuple_none, k_tuple_bool, k_tuple_int, k_tuple_str, k_tuple_list, k_tuple_tuple, k_dict_none, k_dict_bool, k_dict_int, k_dict_str, k_dict_list, k_dict_tuple, Int.cast_ofNat_Int, Nat.reduceAdd, Nat.reduceLeDiff, e_lc, e_iseq, seqI_fl, seqI_ft, seqI_ol, seqI_ot, lc_step, lc_nil, lcS1, lcN1, val_fz, val_ow, t_true, wipe0, wipe1, mkL1, noX1, loop_step, loop_nil, loopS1, loop_nx, loop_ct, loop_bk, loop_rt, loop_exc, e_for, v_allD, v_anyD, bools_map, ints_map, bools0, bools1, ints0, ints1, size_eq, decide_true, decide_false, true_or, or_true, eq_self, and_true, true_and, List.all_cons, List.all_nil, List.any_cons, List.any_nil, id_eq, isN, List.map_cons, List.map_nil, List.length_cons, List.length_nil, List.getElem?_cons_zero, List.getElem?_cons_succ, List.set_cons_zero, List.set_cons_succ, decide_eq_true_eq, if_true, Bool.or_true, Bool.true_or, Bool.and_true, Bool.true_and, Bool.false_eq_true, if_false, Bool.not_true, Bool.not_false, Bool.or_false, Bool.false_or, Bool.and_false, Bool.false_and, BEq.rfl]
theorem p_near (a b c d a' b' c' d' : Int) (h : Bx a b c d) (h' : Bx a' b' c' d') (w : List Int) : S_are_near [] [.fz (bx a b c d), .fz (bx a' b' c' d')] w = .ok (.fz (.bool (decide (gap a c a' c' + gap b d b' d' ≤ 2))), w) := by
  rw [u_are_near]
  unfold g_are_near
  simp only [k_op1, k_op2, k_un, k_call, k_b, k_and, k_or, k_not, k_eand, k_eor, k_enot, k_if, k_c1, k_c2, k_c3, k_cons1, k_cons2, k_tup, k_lst, k_fn, k_fnS, k_fnK, k_isi, k_sl1, k_sl2, k_sl3, k_i, o_sx, o_ret, o_if, o_set, o_asg, o_par2, o_par3, o_stS, o_stT, o_for, k_seq, k_rg1, k_rg2, e_rg1, e_rg2, rg1_1, rg2_1, k_lc, k_lt, k_le, k_lc2, k_fnF, e_fnF, run1, e_seq, seq_nx, seq_rt, seq_ct, seq_bk, fin_nx, fin_rt, given_fz, given_ow, given_bw, e_var, e_op, e_un, e_call, e_c, lift1, e_asB, toB1, e_tand, e_tor, e_tnot, e_and, e_or, e_not, e_if, e_chain, chn1, e_nil, e_cons, e_tup, e_lst, e_fn, e_fnS, e_fnK, e_isi, isiR1, outR1, outS1, e_stG, e_sl, b_no, b_so, toI1, e_no, e_sx, e_ret, e_retN, e_sif, put_fz, put_ow, nxO1, e_set, asg_fz, asg_ow, e_asg, g_nm, g_nl, g_cn, obind1, g_tuT, g_tuL, e_par2, e_par3, stO1, e_stS, e_stT, bind1, ofR1, d_fz, d_ow, d_bw, frz_fz, frz_ow, frz_bw, nb_nil, nb_fz, nb_ow, nb_bw, v_add, v_sub, v_neg, v_lt, v_gt, v_le, v_ge, v_is, v_isNot, v_eqS, v_neS, v_eq, v_ne, v_eqB, v_neB, v_ixT, v_ixL, at0, at1, at2, at3, at4, at5, map1, v_lenL, v_lenT, v_abs, v_int, v_intB, v_max2, v_min2, v_max3, v_min3, v_tupL, v_tupT, v_lstL, v_lstT, k_int_none, k_int_bool, k_int_int, k_int_str, k_int_list, k_int_tuple, k_bool_none, k_bool_bool, k_bool_int, k_bool_str, k_bool_list, k_bool_tuple, k_str_none, k_str_bool, k_str_int, k_str_str, k_str_list, k_str_tuple, k_list_none, k_list_bool, k_list_int, k_list_str, k_list_list, k_list_tuple, k_tuple_none, k_tuple_bool, k_tuple_int, k_tuple_str, k_tuple_list, k_tuple_tuple, k_dict_none, k_dict_bool, k_dict_int, k_dict_str, k_dict_list, k_dict_tuple, Int.cast_ofNat_Int, Nat.reduceAdd, Nat.reduceLeDiff, e_lc, e_iseq, seqI_fl, seqI_ft, seqI_ol, seqI_ot, lc_step, lc_nil, lcS1, lcN1, val_fz, val_ow, t_true, wipe0, wipe1, mkL1, noX1, loop_step, loop_nil, loopS1, loop_nx, loop_ct, loop_bk, loop_rt, loop_exc, e_for, v_allD, v_anyD, bools_map, ints_map, bools0, bools1, ints0, ints1, size_eq, decide_true, decide_false, true_or, or_true, eq_self, and_true, true_and, List.all_cons, List.all_nil, List.any_cons, List.any_nil, id_eq, isN, List.map_cons, List.map_nil, List.length_cons, List.length_nil, List.getElem?_cons_zero, List.getElem?_cons_succ, List.set_cons_zero, List.set_cons_succ, decide_eq_true_eq, if_true, Bool.or_true, Bool.true_or, Bool.and_true, Bool.true_and, Bool.false_eq_true, if_false, Bool.not_true, Bool.not_false, Bool.or_false, Bool.false_or, Bool.and_false, Bool.false_and, BEq.rfl, p_check2 a b c d a' b' c' d' h h', p_near_in, indep, pure?]
theorem p_with (a b c d a' b' c' d' : Int) (h : Bx a b c d) (h' : Bx a' b' c' d') (w : List Int) : S_box_with [] [.fz (bx a b c d), .fz (bx a' b' c' d')] w = .ok (.fz (both a b c d a' b' c' d'), w) := by
  rw [u_box_with]
  unfold g_box_with
  simp only [k_op1, k_op2, k_un, k_call, k_b, k_and, k_or, k_not, k_eand, k_eor, k_enot, k_if, k_c1, k_c2, k_c3, k_cons1, k_cons2, k_tup, k_lst, k_fn, k_fnS, k_fnK, k_isi, k_sl1, k_sl2, k_sl3, k_i, o_sx, o_ret, o_if, o_set, o_asg, o_par2, o_par3, o_stS, o_stT, o_for, k_seq, k_rg1, k_rg2, e_rg1, e_rg2, rg1_1, rg2_1, k_lc, k_lt, k_le, k_lc2, k_fnF, e_fnF, run1, e_seq, seq_nx, seq_rt, seq_ct, seq_bk, fin_nx, fin_rt, given_fz, given_ow, given_bw, e_var, e_op, e_un, e_call, e_c, lift1, e_asB, toB1, e_tand, e_tor, e_tnot, e_and, e_or, e_not, e_if, e_chain, chn1, e_nil, e_cons, e_tup, e_lst, e_fn, e_fnS, e_fnK, e_isi, isiR1, outR1, outS1, e_stG, e_sl, b_no, b_so, toI1, e_no, e_sx, e_ret, e_retN, e_sif, put_fz, put_ow, nxO1, e_set, asg_fz, asg_ow, e_asg, g_nm, g_nl, g_cn, obind1, g_tuT, g_tuL, e_par2, e_par3, stO1, e_stS, e_stT, bind1, ofR1, d_fz, d_ow, d_bw, frz_fz, frz_ow, frz_bw, nb_nil, nb_fz, nb_ow, nb_bw, v_add, v_sub, v_neg, v_lt, v_gt, v_le, v_ge, v_is, v_isNot, v_eqS, v_neS, v_eq, v_ne, v_eqB, v_neB, v_ixT, v_ixL, at0, at1, at2, at3, at4, at5, map1, v_lenL, v_lenT, v_abs, v_int, v_intB, v_max2, v_min2, v_max3, v_min3, v_tupL, v_tupT, v_lstL, v_lstT, k_int_none, k_int_bool, k_int_int, k_int_str, k_int_list, k_int_tuple, k_bool_none, k_bool_bool, k_bool_int, k_bool_str, k_bool_list, k_bool_tuple, k_str_none, k_str_bool, k_str_int, k_str_str, k_str_list, k_str_tuple, k_list_none, k_list_bool, k_list_int, k_list_str, k_list_list, k_list_tuple, k_tuple_none, k_tuple_bool, k_tuple_int, k_tuple_str, k_tuple_list, k_tuple_tuple, k_dict_none, k_dict_bool, k_dict_int, k_dict_str, k_dict_list, k_dict_tuple, Int.cast_ofNat_Int, Nat.reduceAdd, Nat.reduceLeDiff, e_lc, e_iseq, seqI_fl, seqI_ft, seqI_ol, seqI_ot, lc_step, lc_nil, lcS1, lcN1, val_fz, val_ow, t_true, wipe0, wipe1, mkL1, noX1, loop_step, loop_nil, loopS1, loop_nx, loop_ct, loop_bk, loop_rt, loop_exc, e_for, v_allD, v_anyD, bools_map, ints_map, bools0, bools1, ints0, ints1, size_eq, decide_true, decide_false, true_or, or_true, eq_self, and_true, true_and, List.all_cons, List.all_nil, List.any_cons, List.any_nil, id_eq, isN, List.map_cons, List.map_nil, List.length_cons, List.length_nil, List.getElem?_cons_zero, List.getElem?_cons_succ, List.set_cons_zero, List.set_cons_succ, decide_eq_true_eq, if_true, Bool.or_true, Bool.true_or, Bool.and_true, Bool.true_and, Bool.false_eq_true, if_false, Bool.not_true, Bool.not_false, Bool.or_false, Bool.false_or, Bool.and_false, Bool.false_and, BEq.rfl, p_check2 a b c d a' b' c' d' h h', p_both, indep, pure?]
theorem p_rim (a b c d : Int) (h : Bx a b c d) (w : List Int) : S_half_rim [] [.fz (bx a b c d)] w = .ok (.fz (.int (rim a b c d)), w) := by
  rw [u_half_rim]
  unfold g_half_rim
  simp only [k_op1, k_op2, k_un, k_call, k_b, k_and, k_or, k_not, k_eand, k_eor, k_enot, k_if, k_c1, k_c2, k_c3, k_cons1, k_cons2, k_tup, k_lst, k_fn, k_fnS, k_fnK, k_isi, k_sl1, k_sl2, k_sl3, k_i, o_sx, o_ret, o_if, o_set, o_asg, o_par2, o_par3, o_stS, o_stT, o_for, k_seq, k_rg1, k_rg2, e_rg1, e_rg2, rg1_1, rg2_1, k_lc, k_lt, k_le, k_lc2, k_fnF, e_fnF, run1, e_seq, seq_nx, seq_rt, seq_ct, seq_bk, fin_nx, fin_rt, given_fz, given_ow, given_bw, e_var, e_op, e_un, e_call, e_c, lift1, e_asB, toB1, e_tand, e_tor, e_tnot, e_and, e_or, e_not, e_if, e_chain, chn1, e_nil, e_cons, e_tup, e_lst, e_fn, e_fnS, e_fnK, e_isi, isiR1, outR1, outS1, e_stG, e_sl, b_no, b_so, toI1, e_no, e_sx, e_ret, e_retN, e_sif, put_fz, put_ow, nxO1, e_set, asg_fz, asg_ow, e_asg, g_nm, g_nl, g_cn, obind1, g_tuT, g_tuL, e_par2, e_par3, stO1, e_stS, e_stT, bind1, ofR1, d_fz, d_ow, d_bw, frz_fz, frz_ow, frz_bw, nb_nil, nb_fz, nb_ow, nb_bw, v_add, v_sub, v_neg, v_lt, v_gt, v_le, v_ge, v_is, v_isNot, v_eqS, v_neS, v_eq, v_ne, v_eqB, v_neB, v_ixT, v_ixL, at0, at1, at2, at3, at4, at5, map1, v_lenL, v_lenT, v_abs, v_int, v_intB, v_max2, v_min2, v_max3, v_min3, v_tupL, v_tupT, v_lstL, v_lstT, k_int_none, k_int_bool, k_int_int, k_int_str, k_int_list, k_int_tuple, k_bool_none, k_bool_bool, k_bool_int, k_bool_str, k_bool_list, k_bool_tuple, k_str_none, k_str_bool, k_str_int, k_str_str, k_str_list, k_str_tuple, k_list_none, k_list_bool, k_list_int, k_list_str, k_list_list, k_list_tuple, k_tuple_none, k_tuple_bool, k_tuple_int, k_tuple_str, k_tuple_list, k_tuple_tuple, k_dict_none, k_dict_bool, k_dict_int, k_dict_str, k_dict_list, k_dict_tuple, Int.cast_ofNat_Int, Nat.reduceAdd, Nat.reduceLeDiff, e_lc, e_iseq, seqI_fl, seqI_ft, seqI_ol, seqI_ot, lc_step, lc_nil, lcS1, lcN1, val_fz, val_ow, t_true, wipe0, wipe1, mkL1, noX1, loop_step, loop_nil, loopS1, loop_nx, loop_ct, loop_bk, loop_rt, loop_exc, e_for, v_allD, v_anyD, bools_map, ints_map, bools0, bools1, ints0, ints1, size_eq, decide_true, decide_false, true_or, or_true, eq_self, and_true, true_and, List.all_cons, List.all_nil, List.any_cons, List.any_nil, id_eq, isN, List.map_cons, List.map_nil, List.length_cons, List.length_nil, List.getElem?_cons_zero, List.getElem?_cons_succ, List.set_cons_zero, List.set_cons_succ, decide_eq_true_eq, if_true, Bool.or_true, Bool.true_or, Bool.and_true, Bool.true_and, Bool.false_eq_true, if_false, Bool.not_true, Bool.not_false, Bool.or_false, Bool.false_or, Bool.and_false, Bool.false_and, BEq.rfl, p_check a b c d h, p_rim_of, indep, pure?]
/-! draws -/
theorem sm1 : smallB 25523 = true := by decide
theorem sm2 : smallB 10007 = true := by decide
theorem sm3 : smallB 31 = true := by decide
theorem p_deal (a b c t : Int) (h : 0 < t) (h2 : t < 1000) : ∃ r w', S__law_deal [] [.fz (.int t)] [a, b, c] = .ok (.fz (.int r), w') ∧ (0 ≤ r ∧ r < t) ∧ W3 w' := by
  rw [u__law_deal]
  unfold g__law_deal
  have ht : t ≠ 0 := by omega
  have ht2 : t < 1073741824 := by omega
  have m1 : (2147483489 : Int) ≠ 0 := by decide
  have m2 : (5077 : Int) ≠ 0 := by decide
  have m3 : (409 : Int) ≠ 0 := by decide
  by_cases ha : a > 0
  · simp only [k_op1, k_op2, k_un, k_call, k_b, k_and, k_or, k_not, k_eand, k_eor, k_enot, k_if, k_c1, k_c2, k_c3, k_cons1, k_cons2, k_tup, k_lst, k_fn, k_fnS, k_fnK, k_isi, k_sl1, k_sl2, k_sl3, k_i, o_sx, o_ret, o_if, o_set, o_asg, o_par2, o_par3, o_stS, o_stT, o_for, k_seq, k_rg1, k_rg2, e_rg1, e_rg2, rg1_1, rg2_1, k_lc, k_lt, k_le, k_lc2, k_fnF, e_fnF, run1, e_seq, seq_nx, seq_rt, seq_ct, seq_bk, fin_nx, fin_rt, given_fz, given_ow, given_bw, e_var, e_op, e_un, e_call, e_c, lift1, e_asB, toB1, e_tand, e_tor, e_tnot, e_and, e_or, e_not, e_if, e_chain, chn1, e_nil, e_cons, e_tup, e_lst, e_fn, e_fnS, e_fnK, e_isi, isiR1, outR1, outS1, e_stG, e_sl, b_no, b_so, toI1, e_no, e_sx, e_ret, e_retN, e_sif, put_fz, put_ow, nxO1, e_set, asg_fz, asg_ow, e_asg, g_nm, g_nl, g_cn, obind1, g_tuT, g_tuL, e_par2, e_par3, stO1, e_stS, e_stT, bind1, ofR1, d_fz, d_ow, d_bw, frz_fz, frz_ow, frz_bw, nb_nil, nb_fz, nb_ow, nb_bw, v_add, v_sub, v_neg, v_lt, v_gt, v_le, v_ge, v_is, v_isNot, v_eqS, v_neS, v_eq, v_ne, v_eqB, v_neB, v_ixT, v_ixL, at0, at1, at2, at3, at4, at5, map1, v_lenL, v_lenT, v_abs, v_int, v_intB, v_max2, v_min2, v_max3, v_min3, v_tupL, v_tupT, v_lstL, v_lstT, k_int_none, k_int_bool, k_int_int, k_int_str, k_int_list, k_int_tuple, k_bool_none, k_bool_bool, k_bool_int, k_bool_str, k_bool_list, k_bool_tuple, k_str_none, k_str_bool, k_str_int, k_str_str, k_str_list, k_str_tuple, k_list_none, k_list_bool, k_list_int, k_list_str, k_list_list, k_list_tuple, k_tuple_none, k_tuple_bool, k_tuple_int, k_tuple_str, k_tuple_list, k_tuple_tuple, k_dict_none, k_dict_bool, k_dict_int, k_dict_str, k_dict_list, k_dict_tuple, Int.cast_ofNat_Int, Nat.reduceAdd, Nat.reduceLeDiff, e_lc, e_iseq, seqI_fl, seqI_ft, seqI_ol, seqI_ot, lc_step, lc_nil, lcS1, lcN1, val_fz, val_ow, t_true, wipe0, wipe1, mkL1, noX1, loop_step, loop_nil, loopS1, loop_nx, loop_ct, loop_bk, loop_rt, loop_exc, e_for, v_allD, v_anyD, bools_map, ints_map, bools0, bools1, ints0, ints1, size_eq, decide_true, decide_false, true_or, or_true, eq_self, and_true, true_and, List.all_cons, List.all_nil, List.any_cons, List.any_nil, id_eq, isN, List.map_cons, List.map_nil, List.length_cons, List.length_nil, List.getElem?_cons_zero, List.getElem?_cons_succ, List.set_cons_zero, List.set_cons_succ, decide_eq_true_eq, if_true, Bool.or_true, Bool.true_or, Bool.and_true, Bool.true_and, Bool.false_eq_true, if_false, Bool.not_true, Bool.not_false, Bool.or_false, Bool.false_or, Bool.and_false, Bool.false_and, BEq.rfl, ha, decide_true, v_divmod h ht2, Nat.reduceLT, sm1, sm2, sm3]
    exact ⟨_, _, rfl, ⟨Int.emod_nonneg _ ht, Int.emod_lt_of_pos _ h⟩, _, _, _, rfl⟩
  · simp only [k_op1, k_op2, k_un, k_call, k_b, k_and, k_or, k_not, k_eand, k_eor, k_enot, k_if, k_c1, k_c2, k_c3, k_cons1, k_cons2, k_tup, k_lst, k_fn, k_fnS, k_fnK, k_isi, k_sl1, k_sl2, k_sl3, k_i, o_sx, o_ret, o_if, o_set, o_asg, o_par2, o_par3, o_stS, o_stT, o_for, k_seq, k_rg1, k_rg2, e_rg1, e_rg2, rg1_1, rg2_1, k_lc, k_lt, k_le, k_lc2, k_fnF, e_fnF, run1, e_seq, seq_nx, seq_rt, seq_ct, seq_bk, fin_nx, fin_rt, given_fz, given_ow, given_bw, e_var, e_op, e_un, e_call, e_c, lift1, e_asB, toB1, e_tand, e_tor, e_tnot, e_and, e_or, e_not, e_if, e_chain, chn1, e_nil, e_cons, e_tup, e_lst, e_fn, e_fnS, e_fnK, e_isi, isiR1, outR1, outS1, e_stG, e_sl, b_no, b_so, toI1, e_no, e_sx, e_ret, e_retN, e_sif, put_fz, put_ow, nxO1, e_set, asg_fz, asg_ow, e_asg, g_nm, g_nl, g_cn, obind1, g_tuT, g_tuL, e_par2, e_par3, stO1, e_stS, e_stT, bind1, ofR1, d_fz, d_ow, d_bw, frz_fz, frz_ow, frz_bw, nb_nil, nb_fz, nb_ow, nb_bw, v_add, v_sub, v_neg, v_lt, v_gt, v_le, v_ge, v_is, v_isNot, v_eqS, v_neS, v_eq, v_ne, v_eqB, v_neB, v_ixT, v_ixL, at0, at1, at2, at3, at4, at5, map1, v_lenL, v_lenT, v_abs, v_int, v_intB, v_max2, v_min2, v_max3, v_min3, v_tupL, v_tupT, v_lstL, v_lstT, k_int_none, k_int_bool, k_int_int, k_int_str, k_int_list, k_int_tuple, k_bool_none, k_bool_bool, k_bool_int, k_bool_str, k_bool_list, k_bool_tuple, k_str_none, k_str_bool, k_str_int, k_str_str, k_str_list, k_str_tuple, k_list_none, k_list_bool, k_list_int, k_list_str, k_list_list, k_list_tuple, k_tuple_none, k_tuple_bool, k_tuple_int, k_tuple_str, k_tuple_list, k_tuple_tuple, k_dict_none, k_dict_bool, k_dict_int, k_dict_str, k_dict_list, k_dict_tuple, Int.cast_ofNat_Int, Nat.reduceAdd, Nat.reduceLeDiff, e_lc, e_iseq, seqI_fl, seqI_ft, seqI_ol, seqI_ot, lc_step, lc_nil, lcS1, lcN1, val_fz, val_ow, t_true, wipe0, wipe1, mkL1, noX1, loop_step, loop_nil, loopS1, loop_nx, loop_ct, loop_bk, loop_rt, loop_exc, e_for, v_allD, v_anyD, bools_map, ints_map, bools0, bools1, ints0, ints1, size_eq, decide_true, decide_false, true_or, or_true, eq_self, and_true, true_and, List.all_cons, List.all_nil, List.any_cons, List.any_nil, id_eq, isN, List.map_cons, List.map_nil, List.length_cons, List.length_nil, List.getElem?_cons_zero, List.getElem?_cons_succ, List.set_cons_zero, List.set_cons_succ, decide_eq_true_eq, if_true, Bool.or_true, Bool.true_or, Bool.and_true, Bool.true_and, Bool.false_eq_true, if_false, Bool.not_true, Bool.not_false, Bool.or_false, Bool.false_or, Bool.and_false, Bool.false_and, BEq.rfl, ha, decide_false, Nat.reduceLT, v_mul, v_mod m1, v_mod m2, v_div m3 (by decide), sm1, sm2, sm3, small_mod (k := 5077) (c := 30011) (by decide) (by decide) (by decide) (by decide), v_mod ht]
    exact ⟨_, _, rfl, ⟨Int.fmod_nonneg_of_pos _ h, Int.fmod_lt_of_pos _ h⟩, _, _, _, rfl⟩
theorem p_box (w : List Int) (h : W3 w) : ∃ a b c d w', S__law_box [] [] w = .ok (.fz (bx a b c d), w') ∧ Bx a b c d ∧ W3 w' := by
  obtain ⟨x, y, z, rfl⟩ := h
  rw [u__law_box]
  unfold g__law_box
  obtain ⟨r1, w1, e1, b1, x, y, z, rfl⟩ := p_deal x y z 6 (by decide) (by decide)
  obtain ⟨r2, w2, e2, b2, x, y, z, rfl⟩ := p_deal x y z 6 (by decide) (by decide)
  obtain ⟨r3, w3, e3, b3, x, y, z, rfl⟩ := p_deal x y z 6 (by decide) (by decide)
  obtain ⟨r4, w4, e4, b4, w5⟩ := p_deal x y z 6 (by decide) (by decide)
  simp only [k_op1, k_op2, k_un, k_call, k_b, k_and, k_or, k_not, k_eand, k_eor, k_enot, k_if, k_c1, k_c2, k_c3, k_cons1, k_cons2, k_tup, k_lst, k_fn, k_fnS, k_fnK, k_isi, k_sl1, k_sl2, k_sl3, k_i, o_sx, o_ret, o_if, o_set, o_asg, o_par2, o_par3, o_stS, o_stT, o_for, k_seq, k_rg1, k_rg2, e_rg1, e_rg2, rg1_1, rg2_1, k_lc, k_lt, k_le, k_lc2, k_fnF, e_fnF, run1, e_seq, seq_nx, seq_rt, seq_ct, seq_bk, fin_nx, fin_rt, given_fz, given_ow, given_bw, e_var, e_op, e_un, e_call, e_c, lift1, e_asB, toB1, e_tand, e_tor, e_tnot, e_and, e_or, e_not, e_if, e_chain, chn1, e_nil, e_cons, e_tup, e_lst, e_fn, e_fnS, e_fnK, e_isi, isiR1, outR1, outS1, e_stG, e_sl, b_no, b_so, toI1, e_no, e_sx, e_ret, e_retN, e_sif, put_fz, put_ow, nxO1, e_set, asg_fz, asg_ow, e_asg, g_nm, g_nl, g_cn, obind1, g_tuT, g_tuL, e_par2, e_par3, stO1, e_stS, e_stT, bind1, ofR1, d_fz, d_ow, d_bw, frz_fz, frz_ow, frz_bw, nb_nil, nb_fz, nb_ow, nb_bw, v_add, v_sub, v_neg, v_lt, v_gt, v_le, v_ge, v_is, v_isNot, v_eqS, v_neS, v_eq, v_ne, v_eqB, v_neB, v_ixT, v_ixL, at0, at1, at2, at3, at4, at5, map1, v_lenL, v_lenT, v_abs, v_int, v_intB, v_max2, v_min2, v_max3, v_min3, v_tupL, v_tupT, v_lstL, v_lstT, k_int_none, k_int_bool, k_int_int, k_int_str, k_int_list, k_int_tuple, k_bool_none, k_bool_bool, k_bool_int, k_bool_str, k_bool_list, k_bool_tuple, k_str_none, k_str_bool, k_str_int, k_str_str, k_str_list, k_str_tuple, k_list_none, k_list_bool, k_list_int, k_list_str, k_list_list, k_list_tuple, k_tuple_none, k_tuple_bool, k_tuple_int, k_tuple_str, k_tuple_list, k_tuple_tuple, k_dict_none, k_dict_bool, k_dict_int, k_dict_str, k_dict_list, k_dict_tuple, Int.cast_ofNat_Int, Nat.reduceAdd, Nat.reduceLeDiff, e_lc, e_iseq, seqI_fl, seqI_ft, seqI_ol, seqI_ot, lc_step, lc_nil, lcS1, lcN1, val_fz, val_ow, t_true, wipe0, wipe1, mkL1, noX1, loop_step, loop_nil, loopS1, loop_nx, loop_ct, loop_bk, loop_rt, loop_exc, e_for, v_allD, v_anyD, bools_map, ints_map, bools0, bools1, ints0, ints1, size_eq, decide_true, decide_false, true_or, or_true, eq_self, and_true, true_and, List.all_cons, List.all_nil, List.any_cons, List.any_nil, id_eq, isN, List.map_cons, List.map_nil, List.length_cons, List.length_nil, List.getElem?_cons_zero, List.getElem?_cons_succ, List.set_cons_zero, List.set_cons_succ, decide_eq_true_eq, if_true, Bool.or_true, Bool.true_or, Bool.and_true, Bool.true_and, Bool.false_eq_true, if_false, Bool.not_true, Bool.not_false, Bool.or_false, Bool.false_or, Bool.and_false, Bool.false_and, BEq.rfl, e1, e2, e3, e4, v_sort2]
  refine ⟨_, _, _, _, _, rfl, ?_, w5⟩
  unfold Bx
  omega
/-! the places of a box -/
abbrev pr (p : Int × Int) : D := .tuple [.int p.1, .int p.2]
def rowOf (b d k : Int) : List (Int × Int) := (rngI b (d + 1 - b).toNat).map fun j => (k, j)
def cells (a b c d : Int) : List (Int × Int) := (rngI a (c + 1 - a).toNat).flatMap (rowOf b d)
theorem rowOf_len (b d k : Int) (h : d ≤ 5) (h0 : 0 ≤ b) : (rowOf b d k).length ≤ 6 := by
  unfold rowOf
  rw [List.length_map, rngI_len]
  omega
theorem mem_cells {a b c d : Int} {p : Int × Int} : p ∈ cells a b c d ↔ (a ≤ p.1 ∧ p.1 ≤ c) ∧ b ≤ p.2 ∧ p.2 ≤ d := by
  obtain ⟨x, y⟩ := p
  unfold cells rowOf
  simp only [List.mem_flatMap, List.mem_map, rngI_mem, Prod.mk.injEq]
  constructor
  · rintro ⟨k, hk, j, hj, rfl, rfl⟩
    omega
  · rintro ⟨h1, h2⟩
    exact ⟨x, by omega, y, by omega, rfl, rfl⟩
abbrev gIn : Sx := sAsg (eOp fAdd (eVar 1) (eLc [3] (iRg2 (aCons (eOp fIx (eVar 0) (eC (.int 1))) (aCons (eOp fAdd (eOp fIx (eVar 0) (eC (.int 3))) (eC (.int 1))) (aNil)))) (gNm 3) (tTrue) (eTup (aCons (eVar 2) (aCons (eVar 3) (aNil)))))) (gNm 1)
theorem in_loop (a b c d : Int) (h : Bx a b c d) (w : List Int) : ∀ (l : List Int) (pre : List (Int × Int)) (kk : Option EV), pre.length + 6 * l.length ≤ 1000 →
    ∃ kk', loopL (gNm 2) gIn (l.map PyData.int) [some (.fz (bx a b c d)), some (.fz (.list (pre.map pr))), kk, none] w = .nx [some (.fz (bx a b c d)), some (.fz (.list ((pre ++ l.flatMap (rowOf b d)).map pr))), kk', none] w := by
  obtain ⟨h1, h2, h3, h4, h5, h6⟩ := h
  intro l
  induction l with
  | nil => intro pre kk _; exact ⟨kk, by rw [List.flatMap_nil, List.append_nil]; rfl⟩
  | cons k l ih =>
    intro pre kk hl
    rw [List.length_cons] at hl
    have hrow := rowOf_len b d k h6 h4
    obtain ⟨kk', e⟩ := ih (pre ++ rowOf b d k) (some (.fz (.int k))) (by rw [List.length_append]; omega)
    refine ⟨kk', ?_⟩
    have r1 : rngOk b = true := rng_ok (by omega) (by omega)
    have r2 : rngOk (d + 1) = true := rng_ok (by omega) (by omega)
    have lc : lcL (gNm 3) tTrue (eTup (aCons (eVar 2) (aCons (eVar 3) (aNil)))) (rngD b (d + 1 - b).toNat) [some (.fz (bx a b c d)), some (.fz (.list (pre.map pr))), some (.fz (.int k)), none] w = .ok ((rowOf b d k).map pr, w) := by
      unfold rowOf
      rw [rngD_map, List.map_map]
      refine lc_mapE PyData.int _ fun j _ => ⟨_, _, rfl, rfl, rfl, rfl⟩
    have lenb : ((rowOf b d k).map pr).length ≤ 16777216 := by rw [List.length_map]; omega
    have lena : (pre.map pr).length + ((rowOf b d k).map pr).length ≤ sizeLine := by
      rw [List.length_map, List.length_map, size_eq]; omega
    simp only [k_op1, k_op2, k_un, k_call, k_b, k_and, k_or, k_not, k_eand, k_eor, k_enot, k_if, k_c1, k_c2, k_c3, k_cons1, k_cons2, k_tup, k_lst, k_fn, k_fnS, k_fnK, k_isi, k_sl1, k_sl2, k_sl3, k_i, o_sx, o_ret, o_if, o_set, o_asg, o_par2, o_par3, o_stS, o_stT, o_for, k_seq, k_rg1, k_rg2, e_rg1, e_rg2, rg1_1, rg2_1, k_lc, k_lt, k_le, k_lc2, k_fnF, e_fnF, run1, e_seq, seq_nx, seq_rt, seq_ct, seq_bk, fin_nx, fin_rt, given_fz, given_ow, given_bw, e_var, e_op, e_un, e_call, e_c, lift1, e_asB, toB1, e_tand, e_tor, e_tnot, e_and, e_or, e_not, e_if, e_chain, chn1, e_nil, e_cons, e_tup, e_lst, e_fn, e_fnS, e_fnK, e_isi, isiR1, outR1, outS1, e_stG, e_sl, b_no, b_so, toI1, e_no, e_sx, e_ret, e_retN, e_sif, put_fz, put_ow, nxO1, e_set, asg_fz, asg_ow, e_asg, g_nm, g_nl, g_cn, obind1, g_tuT, g_tuL, e_par2, e_par3, stO1, e_stS, e_stT, bind1, ofR1, d_fz, d_ow, d_bw, frz_fz, frz_ow, frz_bw, nb_nil, nb_fz, nb_ow, nb_bw, v_add, v_sub, v_neg, v_lt, v_gt, v_le, v_ge, v_is, v_isNot, v_eqS, v_neS, v_eq, v_ne, v_eqB, v_neB, v_ixT, v_ixL, at0, at1, at2, at3, at4, at5, map1, v_lenL, v_lenT, v_abs, v_int, v_intB, v_max2, v_min2, v_max3, v_min3, v_tupL, v_tupT, v_lstL, v_lstT, k_int_none, k_int_bool, k_int_int, k_int_str, k_int_list, k_int_tuple, k_bool_none, k_bool_bool, k_bool_int, k_bool_str, k_bool_list, k_bool_tuple, k_str_none, k_str_bool, k_str_int, k_str_str, k_str_list, k_str_tuple, k_list_none, k_list_bool, k_list_int, k_list_str, k_list_list, k_list_tuple, k_tuple_none, k_tuple_bool, k_tuple_int, k_tuple_str, k_tuple_list, k_tuple_tuple, k_dict_none, k_dict_bool, k_dict_int, k_dict_str, k_dict_list, k_dict_tuple, Int.cast_ofNat_Int, Nat.reduceAdd, Nat.reduceLeDiff, e_lc, e_iseq, seqI_fl, seqI_ft, seqI_ol, seqI_ot, lc_step, lc_nil, lcS1, lcN1, val_fz, val_ow, t_true, wipe0, wipe1, mkL1, noX1, loop_step, loop_nil, loopS1, loop_nx, loop_ct, loop_bk, loop_rt, loop_exc, e_for, v_allD, v_anyD, bools_map, ints_map, bools0, bools1, ints0, ints1, size_eq, decide_true, decide_false, true_or, or_true, eq_self, and_true, true_and, List.all_cons, List.all_nil, List.any_cons, List.any_nil, id_eq, isN, List.map_cons, List.map_nil, List.length_cons, List.length_nil, List.getElem?_cons_zero, List.getElem?_cons_succ, List.set_cons_zero, List.set_cons_succ, decide_eq_true_eq, if_true, Bool.or_true, Bool.true_or, Bool.and_true, Bool.true_and, Bool.false_eq_true, if_false, Bool.not_true, Bool.not_false, Bool.or_false, Bool.false_or, Bool.and_false, Bool.false_and, BEq.rfl, e_rg2, rg2_1, r1, r2, lc, lenb, v_addL lena]
    rw [← List.map_append, e, List.flatMap_cons, List.append_assoc]
theorem p_cells (a b c d : Int) (h : Bx a b c d) (w : List Int) : S__law_in_box [] [.fz (bx a b c d)] w = .ok (.fz (.list ((cells a b c d).map pr)), w) := by
  rw [u__law_in_box]
  unfold g__law_in_box
  obtain ⟨kk', e⟩ := in_loop a b c d h w (rngI a (c + 1 - a).toNat) [] none (by
    obtain ⟨h1, h2, h3, h4, h5, h6⟩ := h
    rw [rngI_len, List.length_nil]; omega)
  obtain ⟨h1, h2, h3, h4, h5, h6⟩ := h
  have r1 : rngOk a = true := rng_ok (by omega) (by omega)
  have r2 : rngOk (c + 1) = true := rng_ok (by omega) (by omega)
  rw [List.map_nil] at e
  simp only [k_op1, k_op2, k_un, k_call, k_b, k_and, k_or, k_not, k_eand, k_eor, k_enot, k_if, k_c1, k_c2, k_c3, k_cons1, k_cons2, k_tup, k_lst, k_fn, k_fnS, k_fnK, k_isi, k_sl1, k_sl2, k_sl3, k_i, o_sx, o_ret, o_if, o_set, o_asg, o_par2, o_par3, o_stS, o_stT, o_for, k_seq, k_rg1, k_rg2, e_rg1, e_rg2, rg1_1, rg2_1, k_lc, k_lt, k_le, k_lc2, k_fnF, e_fnF, run1, e_seq, seq_nx, seq_rt, seq_ct, seq_bk, fin_nx, fin_rt, given_fz, given_ow, given_bw, e_var, e_op, e_un, e_call, e_c, lift1, e_asB, toB1, e_tand, e_tor, e_tnot, e_and, e_or, e_not, e_if, e_chain, chn1, e_nil, e_cons, e_tup, e_lst, e_fn, e_fnS, e_fnK, e_isi, isiR1, outR1, outS1, e_stG, e_sl, b_no, b_so, toI1, e_no, e_sx, e_ret, e_retN, e_sif, put_fz, put_ow, nxO1, e_set, asg_fz, asg_ow, e_asg, g_nm, g_nl, g_cn, obind1, g_tuT, g_tuL, e_par2, e_par3, stO1, e_stS, e_stT, bind1, ofR1, d_fz, d_ow, d_bw, frz_fz, frz_ow, frz_bw, nb_nil, nb_fz, nb_ow, nb_bw, v_add, v_sub, v_neg, v_lt, v_gt, v_le, v_ge, v_is, v_isNot, v_eqS, v_neS, v_eq, v_ne, v_eqB, v_neB, v_ixT, v_ixL, at0, at1, at2, at3, at4, at5, map1, v_lenL, v_lenT, v_abs, v_int, v_intB, v_max2, v_min2, v_max3, v_min3, v_tupL, v_tupT, v_lstL, v_lstT, k_int_none, k_int_bool, k_int_int, k_int_str, k_int_list, k_int_tuple, k_bool_none, k_bool_bool, k_bool_int, k_bool_str, k_bool_list, k_bool_tuple, k_str_none, k_str_bool, k_str_int, k_str_str, k_str_list, k_str_tuple, k_list_none, k_list_bool, k_list_int, k_list_str, k_list_list, k_list_tuple, k_tuple_none, k_tuple_bool, k_tuple_int, k_tuple_str, k_tuple_list, k_tuple_tuple, k_dict_none, k_dict_bool, k_dict_int, k_dict_str, k_dict_list, k_dict_tuple, Int.cast_ofNat_Int, Nat.reduceAdd, Nat.reduceLeDiff, e_lc, e_iseq, seqI_fl, seqI_ft, seqI_ol, seqI_ot, lc_step, lc_nil, lcS1, lcN1, val_fz, val_ow, t_true, wipe0, wipe1, mkL1, noX1, loop_step, loop_nil, loopS1, loop_nx, loop_ct, loop_bk, loop_rt, loop_exc, e_for, v_allD, v_anyD, bools_map, ints_map, bools0, bools1, ints0, ints1, size_eq, decide_true, decide_false, true_or, or_true, eq_self, and_true, true_and, List.all_cons, List.all_nil, List.any_cons, List.any_nil, id_eq, isN, List.map_cons, List.map_nil, List.length_cons, List.length_nil, List.getElem?_cons_zero, List.getElem?_cons_succ, List.set_cons_zero, List.set_cons_succ, decide_eq_true_eq, if_true, Bool.or_true, Bool.true_or, Bool.and_true, Bool.true_and, Bool.false_eq_true, if_false, Bool.not_true, Bool.not_false, Bool.or_false, Bool.false_or, Bool.and_false, Bool.false_and, BEq.rfl, e_rg2, rg2_1, r1, r2, rngD_map, Nat.zero_le, decide_true]
  rw [e]
  simp only [k_op1, k_op2, k_un, k_call, k_b, k_and, k_or, k_not, k_eand, k_eor, k_enot, k_if, k_c1, k_c2, k_c3, k_cons1, k_cons2, k_tup, k_lst, k_fn, k_fnS, k_fnK, k_isi, k_sl1, k_sl2, k_sl3, k_i, o_sx, o_ret, o_if, o_set, o_asg, o_par2, o_par3, o_stS, o_stT, o_for, k_seq, k_rg1, k_rg2, e_rg1, e_rg2, rg1_1, rg2_1, k_lc, k_lt, k_le, k_lc2, k_fnF, e_fnF, run1, e_seq, seq_nx, seq_rt, seq_ct, seq_bk, fin_nx, fin_rt, given_fz, given_ow, given_bw, e_var, e_op, e_un, e_call, e_c, lift1, e_asB, toB1, e_tand, e_tor, e_tnot, e_and, e_or, e_not, e_if, e_chain, chn1, e_nil, e_cons, e_tup, e_lst, e_fn, e_fnS, e_fnK, e_isi, isiR1, outR1, outS1, e_stG, e_sl, b_no, b_so, toI1, e_no, e_sx, e_ret, e_retN, e_sif, put_fz, put_ow, nxO1, e_set, asg_fz, asg_ow, e_asg, g_nm, g_nl, g_cn, obind1, g_tuT, g_tuL, e_par2, e_par3, stO1, e_stS, e_stT, bind1, ofR1, d_fz, d_ow, d_bw, frz_fz, frz_ow, frz_bw, nb_nil, nb_fz, nb_ow, nb_bw, v_add, v_sub, v_neg, v_lt, v_gt, v_le, v_ge, v_is, v_isNot, v_eqS, v_neS, v_eq, v_ne, v_eqB, v_neB, v_ixT, v_ixL, at0, at1, at2, at3, at4, at5, map1, v_lenL, v_lenT, v_abs, v_int, v_intB, v_max2, v_min2, v_max3, v_min3, v_tupL, v_tupT, v_lstL, v_lstT, k_int_none, k_int_bool, k_int_int, k_int_str, k_int_list, k_int_tuple, k_bool_none, k_bool_bool, k_bool_int, k_bool_str, k_bool_list, k_bool_tuple, k_str_none, k_str_bool, k_str_int, k_str_str, k_str_list, k_str_tuple, k_list_none, k_list_bool, k_list_int, k_list_str, k_list_list, k_list_tuple, k_tuple_none, k_tuple_bool, k_tuple_int, k_tuple_str, k_tuple_list, k_tuple_tuple, k_dict_none, k_dict_bool, k_dict_int, k_dict_str, k_dict_list, k_dict_tuple, Int.cast_ofNat_Int, Nat.reduceAdd, Nat.reduceLeDiff, e_lc, e_iseq, seqI_fl, seqI_ft, seqI_ol, seqI_ot, lc_step, lc_nil, lcS1, lcN1, val_fz, val_ow, t_true, wipe0, wipe1, mkL1, noX1, loop_step, loop_nil, loopS1, loop_nx, loop_ct, loop_bk, loop_rt, loop_exc, e_for, v_allD, v_anyD, bools_map, ints_map, bools0, bools1, ints0, ints1, size_eq, decide_true, decide_false, true_or, or_true, eq_self, and_true, true_and, List.all_cons, List.all_nil, List.any_cons, List.any_nil, id_eq, isN, List.map_cons, List.map_nil, List.length_cons, List.length_nil, List.getElem?_cons_zero, List.getElem?_cons_succ, List.set_cons_zero, List.set_cons_succ, decide_eq_true_eq, if_true, Bool.or_true, Bool.true_or, Bool.and_true, Bool.true_and, Bool.false_eq_true, if_false, Bool.not_true, Bool.not_false, Bool.or_false, Bool.false_or, Bool.and_false, Bool.false_and, BEq.rfl]
  rfl
/-! the least way between two boxes -/
def ab (i : Int) : Int := if i < 0 then -i else i
abbrev way (p q : Int × Int) : Int := ab (p.1 - q.1) + ab (p.2 - q.2)
abbrev far (L : List (Int × Int)) (p : Int × Int) : Int := lmin (L.map (way p))
theorem far_le {L : List (Int × Int)} {p q : Int × Int} (h : q ∈ L) : far L p ≤ way p q := lmin_le (List.mem_map.mpr ⟨q, h, rfl⟩)
theorem far_mem {L : List (Int × Int)} {p : Int × Int} (h : L ≠ []) : ∃ q ∈ L, way p q = far L p := by
  have := lmin_mem (l := L.map (way p)) (by simpa using h)
  obtain ⟨q, hq, e⟩ := List.mem_map.mp this
  exact ⟨q, hq, e⟩
theorem cells_ne (a b c d : Int) (h : Bx a b c d) : cells a b c d ≠ [] := by
  obtain ⟨h1, h2, h3, h4, h5, h6⟩ := h
  have : ((a, b) : Int × Int) ∈ cells a b c d := mem_cells.mpr ⟨⟨by omega, by omega⟩, by omega, by omega⟩
  intro z
  rw [z] at this
  cases this
theorem least_eq (a b c d a' b' c' d' : Int) (h : Bx a b c d) (h' : Bx a' b' c' d') : lmin ((cells a b c d).map (far (cells a' b' c' d'))) = gap a c a' c' + gap b d b' d' := by
  have e1 := gap_eq a c a' c'
  have e2 := gap_eq b d b' d'
  have ne := cells_ne a b c d h
  have ne' := cells_ne a' b' c' d' h'
  obtain ⟨h1, h2, h3, h4, h5, h6⟩ := h
  obtain ⟨g1, g2, g3, g4, g5, g6⟩ := h'
  have low := lmin_mem (l := (cells a b c d).map (far (cells a' b' c' d'))) (by simpa using ne)
  obtain ⟨p, hp, ep⟩ := List.mem_map.mp low
  obtain ⟨q, hq, eq⟩ := far_mem (p := p) ne'
  rw [← ep, ← eq]
  have hp' := mem_cells.mp hp
  have hq' := mem_cells.mp hq
  -- the nearest places
  have best : ∃ p q : Int × Int, p ∈ cells a b c d ∧ q ∈ cells a' b' c' d' ∧ way p q = gap a c a' c' + gap b d b' d' := by
    have one : ∀ x y x' y' : Int, x ≤ y → x' ≤ y' → ∃ k m : Int, (x ≤ k ∧ k ≤ y) ∧ (x' ≤ m ∧ m ≤ y') ∧ ab (k - m) = gap x y x' y' := by
      intro x y x' y' l1 l2
      have e := gap_eq x y x' y'
      unfold ab
      by_cases c1 : y < x'
      · exact ⟨y, x', by omega, by omega, by split <;> omega⟩
      · by_cases c2 : y' < x
        · exact ⟨x, y', by omega, by omega, by split <;> omega⟩
        · exact ⟨max x x', max x x', by omega, by omega, by split <;> omega⟩
    obtain ⟨k, m, k1, k2, k3⟩ := one a c a' c' h2 g2
    obtain ⟨k', m', l1, l2, l3⟩ := one b d b' d' h5 g5
    exact ⟨(k, k'), (m, m'), mem_cells.mpr ⟨k1, l1⟩, mem_cells.mpr ⟨k2, l2⟩, by show ab (k - m) + ab (k' - m') = _; rw [k3, l3]⟩
  obtain ⟨p0, q0, m1, m2, e0⟩ := best
  have up : way p q ≤ gap a c a' c' + gap b d b' d' := by
    rw [eq, ep, ← e0]
    exact Int.le_trans (lmin_le (List.mem_map.mpr ⟨p0, m1, rfl⟩)) (far_le m2)
  have down : gap a c a' c' + gap b d b' d' ≤ way p q := by
    have one : ∀ x y x' y' k m : Int, (x ≤ k ∧ k ≤ y) → (x' ≤ m ∧ m ≤ y') → gap x y x' y' ≤ ab (k - m) := by
      intro x y x' y' k m l1 l2
      have e := gap_eq x y x' y'
      unfold ab
      split <;> omega
    have := one a c a' c' p.1 q.1 hp'.1 hq'.1
    have := one b d b' d' p.2 q.2 hp'.2 hq'.2
    show _ ≤ ab _ + ab _
    omega
  omega
/-! the law -/
abbrev gLap : Sx := sSeq (sAsg (eTup (aCons (eFnS 1 S__law_box (aNil)) (aCons (eFnS 1 S__law_box (aNil)) (aNil)))) (gTu 2 (gCn (gNm 2) (gCn (gNm 3) (gNl))))) (sSeq (sAsg (eCall fMin (aCons (eLc [8, 9] (iSeq (eFn 1 S__law_in_box (aCons (eVar 2) (aNil)))) (gTu 2 (gCn (gNm 8) (gCn (gNm 9) (gNl)))) (tTrue) (eCall fMin (aCons (eLc [10, 11] (iSeq (eFn 1 S__law_in_box (aCons (eVar 3) (aNil)))) (gTu 2 (gCn (gNm 10) (gCn (gNm 11) (gNl)))) (tTrue) (eOp fAdd (eCall fAbs (aCons (eOp fSub (eVar 8) (eVar 10)) (aNil))) (eCall fAbs (aCons (eOp fSub (eVar 9) (eVar 11)) (aNil))))) (aNil)))) (aNil))) (gNm 4)) (sSeq (sAsg (eLst (aCons (eOp fLt (eVar 4) (eC (.int 3))) (aCons (eFn 2 S__law_box_with (aCons (eVar 2) (aCons (eVar 3) (aNil)))) (aCons (eOp fAdd (eOp fSub (eOp fAdd (eOp fSub (eOp fIx (eVar 2) (eC (.int 2))) (eOp fIx (eVar 2) (eC (.int 0)))) (eOp fIx (eVar 2) (eC (.int 3)))) (eOp fIx (eVar 2) (eC (.int 1)))) (eC (.int 2))) (aNil))))) (gNm 5)) (sSeq (sAsg (eLst (aCons (eFn 2 S_are_near (aCons (eVar 2) (aCons (eVar 3) (aNil)))) (aCons (eFn 2 S_box_with (aCons (eVar 2) (aCons (eVar 3) (aNil)))) (aCons (eFn 1 S_half_rim (aCons (eVar 2) (aNil))) (aNil))))) (gNm 6)) (sSeq (sAsg (eLst (aCons (eFnK 2 2 [1, 0] S_are_near (aCons (eVar 3) (aCons (eVar 2) (aNil)))) (aCons (eFnK 2 2 [1, 0] S_box_with (aCons (eVar 3) (aCons (eVar 2) (aNil)))) (aCons (eFnK 1 1 [0] S_half_rim (aCons (eVar 2) (aNil))) (aNil))))) (gNm 7)) (sSeq (sIf (tOr' (asB (eOp fNe (eCall fRepr (aCons (eLst (aCons (eVar 6) (aCons (eVar 7) (aNil)))) (aNil))) (eCall fRepr (aCons (eLst (aCons (eVar 5) (aCons (eVar 5) (aNil)))) (aNil))))) (tOr' (asB (eOp fNe (eFn 2 S_are_near (aCons (eVar 3) (aCons (eVar 2) (aNil)))) (eOp fIx (eVar 5) (eC (.int 0))))) (asB (eOp fNe (eFn 2 S_box_with (aCons (eVar 3) (aCons (eVar 2) (aNil)))) (eOp fIx (eVar 5) (eC (.int 1))))))) (sRet (eC (.bool false))) (sNo)) (sIf (tAnd' (asB (eOp fIx (eVar 5) (eC (.int 0)))) (asB (eOp fGt (eFn 1 S_half_rim (aCons (eOp fIx (eVar 5) (eC (.int 1))) (aNil))) (eOp fAdd (eFn 1 S_half_rim (aCons (eVar 2) (aNil))) (eFn 1 S_half_rim (aCons (eVar 3) (aNil))))))) (sRet (eC (.bool false))) (sNo)))))))
abbrev gWay : Ex := eOp fAdd (eCall fAbs (aCons (eOp fSub (eVar 8) (eVar 10)) (aNil))) (eCall fAbs (aCons (eOp fSub (eVar 9) (eVar 11)) (aNil)))
theorem flat_len (b d : Int) (h : d ≤ 5) (h0 : 0 ≤ b) : ∀ l : List Int, (l.flatMap (rowOf b d)).length ≤ 6 * l.length
  | [] => by simp
  | k :: l => by
    rw [List.flatMap_cons, List.length_append, List.length_cons]
    have h1 := rowOf_len b d k h h0
    have h2 := flat_len b d h h0 l
    omega
theorem cells_len (a b c d : Int) (h : Bx a b c d) : (cells a b c d).length ≤ 36 := by
  obtain ⟨h1, h2, h3, h4, h5, h6⟩ := h
  unfold cells
  have := flat_len b d h6 h4 (rngI a (c + 1 - a).toNat)
  rw [rngI_len] at this
  omega
theorem in_way (p : Int × Int) (L : List (Int × Int)) (e0 e1 e2 e3 e4 e5 e6 e7 : Option EV) (w : List Int) :
    lcL (gTu 2 (gCn (gNm 10) (gCn (gNm 11) (gNl)))) (tTrue) gWay (L.map pr) [e0, e1, e2, e3, e4, e5, e6, e7, some (.fz (.int p.1)), some (.fz (.int p.2)), none, none] w = .ok ((L.map (way p)).map PyData.int, w) := by
  rw [List.map_map]
  refine lc_mapE pr _ fun q _ => ⟨[e0, e1, e2, e3, e4, e5, e6, e7, some (.fz (.int p.1)), some (.fz (.int p.2)), some (.fz (.int q.1)), some (.fz (.int q.2))], .fz (.int (way p q)), rfl, rfl, ?_, rfl⟩
  simp only [k_op1, k_op2, k_un, k_call, k_b, k_and, k_or, k_not, k_eand, k_eor, k_enot, k_if, k_c1, k_c2, k_c3, k_cons1, k_cons2, k_tup, k_lst, k_fn, k_fnS, k_fnK, k_isi, k_sl1, k_sl2, k_sl3, k_i, o_sx, o_ret, o_if, o_set, o_asg, o_par2, o_par3, o_stS, o_stT, o_for, k_seq, k_rg1, k_rg2, e_rg1, e_rg2, rg1_1, rg2_1, k_lc, k_lt, k_le, k_lc2, k_fnF, e_fnF, run1, e_seq, seq_nx, seq_rt, seq_ct, seq_bk, fin_nx, fin_rt, given_fz, given_ow, given_bw, e_var, e_op, e_un, e_call, e_c, lift1, e_asB, toB1, e_tand, e_tor, e_tnot, e_and, e_or, e_not, e_if, e_chain, chn1, e_nil, e_cons, e_tup, e_lst, e_fn, e_fnS, e_fnK, e_isi, isiR1, outR1, outS1, e_stG, e_sl, b_no, b_so, toI1, e_no, e_sx, e_ret, e_retN, e_sif, put_fz, put_ow, nxO1, e_set, asg_fz, asg_ow, e_asg, g_nm, g_nl, g_cn, obind1, g_tuT, g_tuL, e_par2, e_par3, stO1, e_stS, e_stT, bind1, ofR1, d_fz, d_ow, d_bw, frz_fz, frz_ow, frz_bw, nb_nil, nb_fz, nb_ow, nb_bw, v_add, v_sub, v_neg, v_lt, v_gt, v_le, v_ge, v_is, v_isNot, v_eqS, v_neS, v_eq, v_ne, v_eqB, v_neB, v_ixT, v_ixL, at0, at1, at2, at3, at4, at5, map1, v_lenL, v_lenT, v_abs, v_int, v_intB, v_max2, v_min2, v_max3, v_min3, v_tupL, v_tupT, v_lstL, v_lstT, k_int_none, k_int_bool, k_int_int, k_int_str, k_int_list, k_int_tuple, k_bool_none, k_bool_bool, k_bool_int, k_bool_str, k_bool_list, k_bool_tuple, k_str_none, k_str_bool, k_str_int, k_str_str, k_str_list, k_str_tuple, k_list_none, k_list_bool, k_list_int, k_list_str, k_list_list, k_list_tuple, k_tuple_none, k_tuple_bool, k_tuple_int, k_tuple_str, k_tuple_list, k_tuple_tuple, k_dict_none, k_dict_bool, k_dict_int, k_dict_str, k_dict_list, k_dict_tuple, Int.cast_ofNat_Int, Nat.reduceAdd, Nat.reduceLeDiff, e_lc, e_iseq, seqI_fl, seqI_ft, seqI_ol, seqI_ot, lc_step, lc_nil, lcS1, lcN1, val_fz, val_ow, t_true, wipe0, wipe1, mkL1, noX1, loop_step, loop_nil, loopS1, loop_nx, loop_ct, loop_bk, loop_rt, loop_exc, e_for, v_allD, v_anyD, bools_map, ints_map, bools0, bools1, ints0, ints1, size_eq, decide_true, decide_false, true_or, or_true, eq_self, and_true, true_and, List.all_cons, List.all_nil, List.any_cons, List.any_nil, id_eq, isN, List.map_cons, List.map_nil, List.length_cons, List.length_nil, List.getElem?_cons_zero, List.getElem?_cons_succ, List.set_cons_zero, List.set_cons_succ, decide_eq_true_eq, if_true, Bool.or_true, Bool.true_or, Bool.and_true, Bool.true_and, Bool.false_eq_true, if_false, Bool.not_true, Bool.not_false, Bool.or_false, Bool.false_or, Bool.and_false, Bool.false_and, BEq.rfl]
  rfl
theorem p_lap (ρ : DEnv) (w : List Int) (h : W3 w) (lap : D) (hρ : ∃ e2 e3 e4 e5 e6 e7, ρ = [none, some (.fz lap), e2, e3, e4, e5, e6, e7, none, none, none, none]) :
    ∃ ρ' w', gLap ρ w = .nx ρ' w' ∧ (∃ e1 e2 e3 e4 e5 e6 e7, ρ' = [none, e1, e2, e3, e4, e5, e6, e7, none, none, none, none]) ∧ W3 w' := by
  obtain ⟨e2, e3, e4, e5, e6, e7, rfl⟩ := hρ
  obtain ⟨a, b, c, d, w1, q1, B1, h1⟩ := p_box w h
  obtain ⟨a', b', c', d', w2, q2, B2, h2⟩ := p_box w1 h1
  have L1 : (((cells a b c d).map (far (cells a' b' c' d'))).map PyData.int).length ≤ 16777216 := by
    have := cells_len a b c d B1
    rw [List.length_map, List.length_map]; omega
  have L2 : ∀ p, (((cells a' b' c' d').map (way p)).map PyData.int).length ≤ 16777216 := fun p => by
    have := cells_len a' b' c' d' B2
    rw [List.length_map, List.length_map]; omega
  have M1 := v_lmin (l := (cells a b c d).map (far (cells a' b' c' d'))) (by simpa using cells_ne a b c d B1)
  have M2 : ∀ p, fMin [.list (((cells a' b' c' d').map (way p)).map PyData.int)] = some (.fz (.int (far (cells a' b' c' d') p))) := fun p => v_lmin (by simpa using cells_ne a' b' c' d' B2)
  have outer : ∀ (f2 f4 f5 f6 f7 : Option EV), lcL (gTu 2 (gCn (gNm 8) (gCn (gNm 9) (gNl)))) (tTrue) (eCall fMin (aCons (eLc [10, 11] (iSeq (eFn 1 S__law_in_box (aCons (eVar 3) (aNil)))) (gTu 2 (gCn (gNm 10) (gCn (gNm 11) (gNl)))) (tTrue) gWay) (aNil))) ((cells a b c d).map pr) [none, some (.fz lap), f2, some (.fz (bx a' b' c' d')), f4, f5, f6, f7, none, none, none, none] w2 = .ok (((cells a b c d).map (far (cells a' b' c' d'))).map PyData.int, w2) := by
    intro f2 f4 f5 f6 f7
    rw [List.map_map]
    refine lc_mapE pr _ fun p _ => ⟨[none, some (.fz lap), f2, some (.fz (bx a' b' c' d')), f4, f5, f6, f7, some (.fz (.int p.1)), some (.fz (.int p.2)), none, none], .fz (.int (far (cells a' b' c' d') p)), rfl, rfl, ?_, rfl⟩
    simp only [k_op1, k_op2, k_un, k_call, k_b, k_and, k_or, k_not, k_eand, k_eor, k_enot, k_if, k_c1, k_c2, k_c3, k_cons1, k_cons2, k_tup, k_lst, k_fn, k_fnS, k_fnK, k_isi, k_sl1, k_sl2, k_sl3, k_i, o_sx, o_ret, o_if, o_set, o_asg, o_par2, o_par3, o_stS, o_stT, o_for, k_seq, k_rg1, k_rg2, e_rg1, e_rg2, rg1_1, rg2_1, k_lc, k_lt, k_le, k_lc2, k_fnF, e_fnF, run1, e_seq, seq_nx, seq_rt, seq_ct, seq_bk, fin_nx, fin_rt, given_fz, given_ow, given_bw, e_var, e_op, e_un, e_call, e_c, lift1, e_asB, toB1, e_tand, e_tor, e_tnot, e_and, e_or, e_not, e_if, e_chain, chn1, e_nil, e_cons, e_tup, e_lst, e_fn, e_fnS, e_fnK, e_isi, isiR1, outR1, outS1, e_stG, e_sl, b_no, b_so, toI1, e_no, e_sx, e_ret, e_retN, e_sif, put_fz, put_ow, nxO1, e_set, asg_fz, asg_ow, e_asg, g_nm, g_nl, g_cn, obind1, g_tuT, g_tuL, e_par2, e_par3, stO1, e_stS, e_stT, bind1, ofR1, d_fz, d_ow, d_bw, frz_fz, frz_ow, frz_bw, nb_nil, nb_fz, nb_ow, nb_bw, v_add, v_sub, v_neg, v_lt, v_gt, v_le, v_ge, v_is, v_isNot, v_eqS, v_neS, v_eq, v_ne, v_eqB, v_neB, v_ixT, v_ixL, at0, at1, at2, at3, at4, at5, map1, v_lenL, v_lenT, v_abs, v_int, v_intB, v_max2, v_min2, v_max3, v_min3, v_tupL, v_tupT, v_lstL, v_lstT, k_int_none, k_int_bool, k_int_int, k_int_str, k_int_list, k_int_tuple, k_bool_none, k_bool_bool, k_bool_int, k_bool_str, k_bool_list, k_bool_tuple, k_str_none, k_str_bool, k_str_int, k_str_str, k_str_list, k_str_tuple, k_list_none, k_list_bool, k_list_int, k_list_str, k_list_list, k_list_tuple, k_tuple_none, k_tuple_bool, k_tuple_int, k_tuple_str, k_tuple_list, k_tuple_tuple, k_dict_none, k_dict_bool, k_dict_int, k_dict_str, k_dict_list, k_dict_tuple, Int.cast_ofNat_Int, Nat.reduceAdd, Nat.reduceLeDiff, e_lc, e_iseq, seqI_fl, seqI_ft, seqI_ol, seqI_ot, lc_step, lc_nil, lcS1, lcN1, val_fz, val_ow, t_true, wipe0, wipe1, mkL1, noX1, loop_step, loop_nil, loopS1, loop_nx, loop_ct, loop_bk, loop_rt, loop_exc, e_for, v_allD, v_anyD, bools_map, ints_map, bools0, bools1, ints0, ints1, size_eq, decide_true, decide_false, true_or, or_true, eq_self, and_true, true_and, List.all_cons, List.all_nil, List.any_cons, List.any_nil, id_eq, isN, List.map_cons, List.map_nil, List.length_cons, List.length_nil, List.getElem?_cons_zero, List.getElem?_cons_succ, List.set_cons_zero, List.set_cons_succ, decide_eq_true_eq, if_true, Bool.or_true, Bool.true_or, Bool.and_true, Bool.true_and, Bool.false_eq_true, if_false, Bool.not_true, Bool.not_false, Bool.or_false, Bool.false_or, Bool.and_false, Bool.false_and, BEq.rfl, p_cells a' b' c' d' B2, in_way, L2, M2, indep]
  have lst := least_eq a b c d a' b' c' d' B1 B2
  have g1 : gap a' c' a c = gap a c a' c' := by rw [gap_eq, gap_eq]; omega
  have g2 : gap b' d' b d = gap b d b' d' := by rw [gap_eq, gap_eq]; omega
  have hb : both a' b' c' d' a b c d = both a b c d a' b' c' d' := by
    simp only [both, bx, lo_eq, hi_eq, Int.min_comm, Int.max_comm]
  have two : (gap a c a' c' + gap b d b' d' ≤ 2) = (gap a c a' c' + gap b d b' d' < 3) := propext ⟨fun h => by omega, fun h => by omega⟩
  have B3 : Bx (lo a a') (lo b b') (hi c c') (hi d d') := by
    obtain ⟨h1, h2, h3, h4, h5, h6⟩ := B1
    obtain ⟨k1, k2, k3, k4, k5, k6⟩ := B2
    unfold Bx
    simp only [lo_eq, hi_eq]
    omega
  have tT : tdy (.list [.list [.bool (decide (gap a c a' c' + gap b d b' d' < 3)), both a b c d a' b' c' d', .int (rim a b c d)], .list [.bool (decide (gap a c a' c' + gap b d b' d' < 3)), both a b c d a' b' c' d', .int (rim a b c d)]]) = true := by
    obtain ⟨h1, h2, h3, h4, h5, h6⟩ := B1
    obtain ⟨k1, k2, k3, k4, k5, k6⟩ := B2
    simp only [tdy, tdys, Bool.and_eq_true, decide_eq_true_eq, lo_eq, hi_eq, and_true, true_and, rim]
    omega
  have rp := v_reprL tT (by simp [PyData.depth, PyData.depthAll]) (by simp [PyData.bulk, PyData.bulkAll])
  have cb : cmpD (both a b c d a' b' c' d') = true := by
    refine cmp_tdy ?_ (by simp [PyData.depth, PyData.depthAll])
    obtain ⟨h1, h2, h3, h4, h5, h6⟩ := B1
    obtain ⟨k1, k2, k3, k4, k5, k6⟩ := B2
    simp only [tdy, tdys, Bool.and_eq_true, decide_eq_true_eq, lo_eq, hi_eq, and_true]
    omega
  have fine : gap a c a' c' + gap b d b' d' < 3 → ¬ rim a b c d + rim a' b' c' d' < rim (lo a a') (lo b b') (hi c c') (hi d d') := by
    obtain ⟨h1, h2, h3, h4, h5, h6⟩ := B1
    obtain ⟨k1, k2, k3, k4, k5, k6⟩ := B2
    rw [gap_eq, gap_eq]
    simp only [lo_eq, hi_eq, rim]
    omega
  simp only [k_op1, k_op2, k_un, k_call, k_b, k_and, k_or, k_not, k_eand, k_eor, k_enot, k_if, k_c1, k_c2, k_c3, k_cons1, k_cons2, k_tup, k_lst, k_fn, k_fnS, k_fnK, k_isi, k_sl1, k_sl2, k_sl3, k_i, o_sx, o_ret, o_if, o_set, o_asg, o_par2, o_par3, o_stS, o_stT, o_for, k_seq, k_rg1, k_rg2, e_rg1, e_rg2, rg1_1, rg2_1, k_lc, k_lt, k_le, k_lc2, k_fnF, e_fnF, run1, e_seq, seq_nx, seq_rt, seq_ct, seq_bk, fin_nx, fin_rt, given_fz, given_ow, given_bw, e_var, e_op, e_un, e_call, e_c, lift1, e_asB, toB1, e_tand, e_tor, e_tnot, e_and, e_or, e_not, e_if, e_chain, chn1, e_nil, e_cons, e_tup, e_lst, e_fn, e_fnS, e_fnK, e_isi, isiR1, outR1, outS1, e_stG, e_sl, b_no, b_so, toI1, e_no, e_sx, e_ret, e_retN, e_sif, put_fz, put_ow, nxO1, e_set, asg_fz, asg_ow, e_asg, g_nm, g_nl, g_cn, obind1, g_tuT, g_tuL, e_par2, e_par3, stO1, e_stS, e_stT, bind1, ofR1, d_fz, d_ow, d_bw, frz_fz, frz_ow, frz_bw, nb_nil, nb_fz, nb_ow, nb_bw, v_add, v_sub, v_neg, v_lt, v_gt, v_le, v_ge, v_is, v_isNot, v_eqS, v_neS, v_eq, v_ne, v_eqB, v_neB, v_ixT, v_ixL, at0, at1, at2, at3, at4, at5, map1, v_lenL, v_lenT, v_abs, v_int, v_intB, v_max2, v_min2, v_max3, v_min3, v_tupL, v_tupT, v_lstL, v_lstT, k_int_none, k_int_bool, k_int_int, k_int_str, k_int_list, k_int_tuple, k_bool_none, k_bool_bool, k_bool_int, k_bool_str, k_bool_list, k_bool_tuple, k_str_none, k_str_bool, k_str_int, k_str_str, k_str_list, k_str_tuple, k_list_none, k_list_bool, k_list_int, k_list_str, k_list_list, k_list_tuple, k_tuple_none, k_tuple_bool, k_tuple_int, k_tuple_str, k_tuple_list, k_tuple_tuple, k_dict_none, k_dict_bool, k_dict_int, k_dict_str, k_dict_list, k_dict_tuple, Int.cast_ofNat_Int, Nat.reduceAdd, Nat.reduceLeDiff, e_lc, e_iseq, seqI_fl, seqI_ft, seqI_ol, seqI_ot, lc_step, lc_nil, lcS1, lcN1, val_fz, val_ow, t_true, wipe0, wipe1, mkL1, noX1, loop_step, loop_nil, loopS1, loop_nx, loop_ct, loop_bk, loop_rt, loop_exc, e_for, v_allD, v_anyD, bools_map, ints_map, bools0, bools1, ints0, ints1, size_eq, decide_true, decide_false, true_or, or_true, eq_self, and_true, true_and, List.all_cons, List.all_nil, List.any_cons, List.any_nil, id_eq, isN, List.map_cons, List.map_nil, List.length_cons, List.length_nil, List.getElem?_cons_zero, List.getElem?_cons_succ, List.set_cons_zero, List.set_cons_succ, decide_eq_true_eq, if_true, Bool.or_true, Bool.true_or, Bool.and_true, Bool.true_and, Bool.false_eq_true, if_false, Bool.not_true, Bool.not_false, Bool.or_false, Bool.false_or, Bool.and_false, Bool.false_and, BEq.rfl, q1, q2, p_cells a b c d B1, indep, outer, L1, M1, lst]
  simp only [k_op1, k_op2, k_un, k_call, k_b, k_and, k_or, k_not, k_eand, k_eor, k_enot, k_if, k_c1, k_c2, k_c3, k_cons1, k_cons2, k_tup, k_lst, k_fn, k_fnS, k_fnK, k_isi, k_sl1, k_sl2, k_sl3, k_i, o_sx, o_ret, o_if, o_set, o_asg, o_par2, o_par3, o_stS, o_stT, o_for, k_seq, k_rg1, k_rg2, e_rg1, e_rg2, rg1_1, rg2_1, k_lc, k_lt, k_le, k_lc2, k_fnF, e_fnF, run1, e_seq, seq_nx, seq_rt, seq_ct, seq_bk, fin_nx, fin_rt, given_fz, given_ow, given_bw, e_var, e_op, e_un, e_call, e_c, lift1, e_asB, toB1, e_tand, e_tor, e_tnot, e_and, e_or, e_not, e_if, e_chain, chn1, e_nil, e_cons, e_tup, e_lst, e_fn, e_fnS, e_fnK, e_isi, isiR1, outR1, outS1, e_stG, e_sl, b_no, b_so, toI1, e_no, e_sx, e_ret, e_retN, e_sif, put_fz, put_ow, nxO1, e_set, asg_fz, asg_ow, e_asg, g_nm, g_nl, g_cn, obind1, g_tuT, g_tuL, e_par2, e_par3, stO1, e_stS, e_stT, bind1, ofR1, d_fz, d_ow, d_bw, frz_fz, frz_ow, frz_bw, nb_nil, nb_fz, nb_ow, nb_bw, v_add, v_sub, v_neg, v_lt, v_gt, v_le, v_ge, v_is, v_isNot, v_eqS, v_neS, v_eq, v_ne, v_eqB, v_neB, v_ixT, v_ixL, at0, at1, at2, at3, at4, at5, map1, v_lenL, v_lenT, v_abs, v_int, v_intB, v_max2, v_min2, v_max3, v_min3, v_tupL, v_tupT, v_lstL, v_lstT, k_int_none, k_int_bool, k_int_int, k_int_str, k_int_list, k_int_tuple, k_bool_none, k_bool_bool, k_bool_int, k_bool_str, k_bool_list, k_bool_tuple, k_str_none, k_str_bool, k_str_int, k_str_str, k_str_list, k_str_tuple, k_list_none, k_list_bool, k_list_int, k_list_str, k_list_list, k_list_tuple, k_tuple_none, k_tuple_bool, k_tuple_int, k_tuple_str, k_tuple_list, k_tuple_tuple, k_dict_none, k_dict_bool, k_dict_int, k_dict_str, k_dict_list, k_dict_tuple, Int.cast_ofNat_Int, Nat.reduceAdd, Nat.reduceLeDiff, e_lc, e_iseq, seqI_fl, seqI_ft, seqI_ol, seqI_ot, lc_step, lc_nil, lcS1, lcN1, val_fz, val_ow, t_true, wipe0, wipe1, mkL1, noX1, loop_step, loop_nil, loopS1, loop_nx, loop_ct, loop_bk, loop_rt, loop_exc, e_for, v_allD, v_anyD, bools_map, ints_map, bools0, bools1, ints0, ints1, size_eq, decide_true, decide_false, true_or, or_true, eq_self, and_true, true_and, List.all_cons, List.all_nil, List.any_cons, List.any_nil, id_eq, isN, List.map_cons, List.map_nil, List.length_cons, List.length_nil, List.getElem?_cons_zero, List.getElem?_cons_succ, List.set_cons_zero, List.set_cons_succ, decide_eq_true_eq, if_true, Bool.or_true, Bool.true_or, Bool.and_true, Bool.true_and, Bool.false_eq_true, if_false, Bool.not_true, Bool.not_false, Bool.or_false, Bool.false_or, Bool.and_false, Bool.false_and, BEq.rfl, v_mod, p_near a b c d a' b' c' d' B1 B2, p_near a' b' c' d' a b c d B2 B1, p_with a b c d a' b' c' d' B1 B2, p_with a' b' c' d' a b c d B2 B1, p_lboth, p_rim a b c d B1, p_rim a' b' c' d' B2, p_rim _ _ _ _ B3, indep, pure?, pures?, pick, List.filterMap_cons, List.filterMap_nil, two, rp, g1, g2, hb, v_neR cb]
  by_cases hg : gap a c a' c' + gap b d b' d' < 3
  · simp only [k_op1, k_op2, k_un, k_call, k_b, k_and, k_or, k_not, k_eand, k_eor, k_enot, k_if, k_c1, k_c2, k_c3, k_cons1, k_cons2, k_tup, k_lst, k_fn, k_fnS, k_fnK, k_isi, k_sl1, k_sl2, k_sl3, k_i, o_sx, o_ret, o_if, o_set, o_asg, o_par2, o_par3, o_stS, o_stT, o_for, k_seq, k_rg1, k_rg2, e_rg1, e_rg2, rg1_1, rg2_1, k_lc, k_lt, k_le, k_lc2, k_fnF, e_fnF, run1, e_seq, seq_nx, seq_rt, seq_ct, seq_bk, fin_nx, fin_rt, given_fz, given_ow, given_bw, e_var, e_op, e_un, e_call, e_c, lift1, e_asB, toB1, e_tand, e_tor, e_tnot, e_and, e_or, e_not, e_if, e_chain, chn1, e_nil, e_cons, e_tup, e_lst, e_fn, e_fnS, e_fnK, e_isi, isiR1, outR1, outS1, e_stG, e_sl, b_no, b_so, toI1, e_no, e_sx, e_ret, e_retN, e_sif, put_fz, put_ow, nxO1, e_set, asg_fz, asg_ow, e_asg, g_nm, g_nl, g_cn, obind1, g_tuT, g_tuL, e_par2, e_par3, stO1, e_stS, e_stT, bind1, ofR1, d_fz, d_ow, d_bw, frz_fz, frz_ow, frz_bw, nb_nil, nb_fz, nb_ow, nb_bw, v_add, v_sub, v_neg, v_lt, v_gt, v_le, v_ge, v_is, v_isNot, v_eqS, v_neS, v_eq, v_ne, v_eqB, v_neB, v_ixT, v_ixL, at0, at1, at2, at3, at4, at5, map1, v_lenL, v_lenT, v_abs, v_int, v_intB, v_max2, v_min2, v_max3, v_min3, v_tupL, v_tupT, v_lstL, v_lstT, k_int_none, k_int_bool, k_int_int, k_int_str, k_int_list, k_int_tuple, k_bool_none, k_bool_bool, k_bool_int, k_bool_str, k_bool_list, k_bool_tuple, k_str_none, k_str_bool, k_str_int, k_str_str, k_str_list, k_str_tuple, k_list_none, k_list_bool, k_list_int, k_list_str, k_list_list, k_list_tuple, k_tuple_none, k_tuple_bool, k_tuple_int, k_tuple_str, k_tuple_list, k_tuple_tuple, k_dict_none, k_dict_bool, k_dict_int, k_dict_str, k_dict_list, k_dict_tuple, Int.cast_ofNat_Int, Nat.reduceAdd, Nat.reduceLeDiff, e_lc, e_iseq, seqI_fl, seqI_ft, seqI_ol, seqI_ot, lc_step, lc_nil, lcS1, lcN1, val_fz, val_ow, t_true, wipe0, wipe1, mkL1, noX1, loop_step, loop_nil, loopS1, loop_nx, loop_ct, loop_bk, loop_rt, loop_exc, e_for, v_allD, v_anyD, bools_map, ints_map, bools0, bools1, ints0, ints1, size_eq, decide_true, decide_false, true_or, or_true, eq_self, and_true, true_and, List.all_cons, List.all_nil, List.any_cons, List.any_nil, id_eq, isN, List.map_cons, List.map_nil, List.length_cons, List.length_nil, List.getElem?_cons_zero, List.getElem?_cons_succ, List.set_cons_zero, List.set_cons_succ, decide_eq_true_eq, if_true, Bool.or_true, Bool.true_or, Bool.and_true, Bool.true_and, Bool.false_eq_true, if_false, Bool.not_true, Bool.not_false, Bool.or_false, Bool.false_or, Bool.and_false, Bool.false_and, BEq.rfl, hg, fine hg]
    exact ⟨_, _, rfl, ⟨_, _, _, _, _, _, _, rfl⟩, h2⟩
  · simp only [k_op1, k_op2, k_un, k_call, k_b, k_and, k_or, k_not, k_eand, k_eor, k_enot, k_if, k_c1, k_c2, k_c3, k_cons1, k_cons2, k_tup, k_lst, k_fn, k_fnS, k_fnK, k_isi, k_sl1, k_sl2, k_sl3, k_i, o_sx, o_ret, o_if, o_set, o_asg, o_par2, o_par3, o_stS, o_stT, o_for, k_seq, k_rg1, k_rg2, e_rg1, e_rg2, rg1_1, rg2_1, k_lc, k_lt, k_le, k_lc2, k_fnF, e_fnF, run1, e_seq, seq_nx, seq_rt, seq_ct, seq_bk, fin_nx, fin_rt, given_fz, given_ow, given_bw, e_var, e_op, e_un, e_call, e_c, lift1, e_asB, toB1, e_tand, e_tor, e_tnot, e_and, e_or, e_not, e_if, e_chain, chn1, e_nil, e_cons, e_tup, e_lst, e_fn, e_fnS, e_fnK, e_isi, isiR1, outR1, outS1, e_stG, e_sl, b_no, b_so, toI1, e_no, e_sx, e_ret, e_retN, e_sif, put_fz, put_ow, nxO1, e_set, asg_fz, asg_ow, e_asg, g_nm, g_nl, g_cn, obind1, g_tuT, g_tuL, e_par2, e_par3, stO1, e_stS, e_stT, bind1, ofR1, d_fz, d_ow, d_bw, frz_fz, frz_ow, frz_bw, nb_nil, nb_fz, nb_ow, nb_bw, v_add, v_sub, v_neg, v_lt, v_gt, v_le, v_ge, v_is, v_isNot, v_eqS, v_neS, v_eq, v_ne, v_eqB, v_neB, v_ixT, v_ixL, at0, at1, at2, at3, at4, at5, map1, v_lenL, v_lenT, v_abs, v_int, v_intB, v_max2, v_min2, v_max3, v_min3, v_tupL, v_tupT, v_lstL, v_lstT, k_int_none, k_int_bool, k_int_int, k_int_str, k_int_list, k_int_tuple, k_bool_none, k_bool_bool, k_bool_int, k_bool_str, k_bool_list, k_bool_tuple, k_str_none, k_str_bool, k_str_int, k_str_str, k_str_list, k_str_tuple, k_list_none, k_list_bool, k_list_int, k_list_str, k_list_list, k_list_tuple, k_tuple_none, k_tuple_bool, k_tuple_int, k_tuple_str, k_tuple_list, k_tuple_tuple, k_dict_none, k_dict_bool, k_dict_int, k_dict_str, k_dict_list, k_dict_tuple, Int.cast_ofNat_Int, Nat.reduceAdd, Nat.reduceLeDiff, e_lc, e_iseq, seqI_fl, seqI_ft, seqI_ol, seqI_ot, lc_step, lc_nil, lcS1, lcN1, val_fz, val_ow, t_true, wipe0, wipe1, mkL1, noX1, loop_step, loop_nil, loopS1, loop_nx, loop_ct, loop_bk, loop_rt, loop_exc, e_for, v_allD, v_anyD, bools_map, ints_map, bools0, bools1, ints0, ints1, size_eq, decide_true, decide_false, true_or, or_true, eq_self, and_true, true_and, List.all_cons, List.all_nil, List.any_cons, List.any_nil, id_eq, isN, List.map_cons, List.map_nil, List.length_cons, List.length_nil, List.getElem?_cons_zero, List.getElem?_cons_succ, List.set_cons_zero, List.set_cons_succ, decide_eq_true_eq, if_true, Bool.or_true, Bool.true_or, Bool.and_true, Bool.true_and, Bool.false_eq_true, if_false, Bool.not_true, Bool.not_false, Bool.or_false, Bool.false_or, Bool.and_false, Bool.false_and, BEq.rfl, hg]
    exact ⟨_, _, rfl, ⟨_, _, _, _, _, _, _, rfl⟩, h2⟩
theorem p_right (w : List Int) (h : W3 w) : ∃ w', S__law_right [] [] w = .ok (.fz (.bool true), w') := by
  rw [u__law_right]
  unfold g__law_right
  obtain ⟨ρ', w', e, _, _⟩ := loop_all (b := gNm 1) (g := gLap) (P := fun ρ w => (∃ e1 e2 e3 e4 e5 e6 e7, ρ = [none, e1, e2, e3, e4, e5, e6, e7, none, none, none, none]) ∧ W3 w) (ds := rngD 0 20)
    (ρ := [none, none, none, none, none, none, none, none, none, none, none, none]) (w := w) (by
      rintro lap _ ρ w ⟨⟨e1, e2, e3, e4, e5, e6, e7, rfl⟩, hw⟩
      obtain ⟨ρ', w', h1, h2, h3⟩ := p_lap [none, some (.fz lap), e2, e3, e4, e5, e6, e7, none, none, none, none] w hw lap ⟨_, _, _, _, _, _, rfl⟩
      exact ⟨_, ρ', w', rfl, h1, h2, h3⟩) ⟨⟨_, _, _, _, _, _, _, rfl⟩, h⟩
  have r1 : rngOk 20 = true := by decide
  simp only [k_op1, k_op2, k_un, k_call, k_b, k_and, k_or, k_not, k_eand, k_eor, k_enot, k_if, k_c1, k_c2, k_c3, k_cons1, k_cons2, k_tup, k_lst, k_fn, k_fnS, k_fnK, k_isi, k_sl1, k_sl2, k_sl3, k_i, o_sx, o_ret, o_if, o_set, o_asg, o_par2, o_par3, o_stS, o_stT, o_for, k_seq, k_rg1, k_rg2, e_rg1, e_rg2, rg1_1, rg2_1, k_lc, k_lt, k_le, k_lc2, k_fnF, e_fnF, run1, e_seq, seq_nx, seq_rt, seq_ct, seq_bk, fin_nx, fin_rt, given_fz, given_ow, given_bw, e_var, e_op, e_un, e_call, e_c, lift1, e_asB, toB1, e_tand, e_tor, e_tnot, e_and, e_or, e_not, e_if, e_chain, chn1, e_nil, e_cons, e_tup, e_lst, e_fn, e_fnS, e_fnK, e_isi, isiR1, outR1, outS1, e_stG, e_sl, b_no, b_so, toI1, e_no, e_sx, e_ret, e_retN, e_sif, put_fz, put_ow, nxO1, e_set, asg_fz, asg_ow, e_asg, g_nm, g_nl, g_cn, obind1, g_tuT, g_tuL, e_par2, e_par3, stO1, e_stS, e_stT, bind1, ofR1, d_fz, d_ow, d_bw, frz_fz, frz_ow, frz_bw, nb_nil, nb_fz, nb_ow, nb_bw, v_add, v_sub, v_neg, v_lt, v_gt, v_le, v_ge, v_is, v_isNot, v_eqS, v_neS, v_eq, v_ne, v_eqB, v_neB, v_ixT, v_ixL, at0, at1, at2, at3, at4, at5, map1, v_lenL, v_lenT, v_abs, v_int, v_intB, v_max2, v_min2, v_max3, v_min3, v_tupL, v_tupT, v_lstL, v_lstT, k_int_none, k_int_bool, k_int_int, k_int_str, k_int_list, k_int_tuple, k_bool_none, k_bool_bool, k_bool_int, k_bool_str, k_bool_list, k_bool_tuple, k_str_none, k_str_bool, k_str_int, k_str_str, k_str_list, k_str_tuple, k_list_none, k_list_bool, k_list_int, k_list_str, k_list_list, k_list_tuple, k_tuple_none, k_tuple_bool, k_tuple_int, k_tuple_str, k_tuple_list, k_tuple_tuple, k_dict_none, k_dict_bool, k_dict_int, k_dict_str, k_dict_list, k_dict_tuple, Int.cast_ofNat_Int, Nat.reduceAdd, Nat.reduceLeDiff, e_lc, e_iseq, seqI_fl, seqI_ft, seqI_ol, seqI_ot, lc_step, lc_nil, lcS1, lcN1, val_fz, val_ow, t_true, wipe0, wipe1, mkL1, noX1, loop_step, loop_nil, loopS1, loop_nx, loop_ct, loop_bk, loop_rt, loop_exc, e_for, v_allD, v_anyD, bools_map, ints_map, bools0, bools1, ints0, ints1, size_eq, decide_true, decide_false, true_or, or_true, eq_self, and_true, true_and, List.all_cons, List.all_nil, List.any_cons, List.any_nil, id_eq, isN, List.map_cons, List.map_nil, List.length_cons, List.length_nil, List.getElem?_cons_zero, List.getElem?_cons_succ, List.set_cons_zero, List.set_cons_succ, decide_eq_true_eq, if_true, Bool.or_true, Bool.true_or, Bool.and_true, Bool.true_and, Bool.false_eq_true, if_false, Bool.not_true, Bool.not_false, Bool.or_false, Bool.false_or, Bool.and_false, Bool.false_and, BEq.rfl, e_rg1, rg1_1, r1]
  rw [show (20 : Int).toNat = 20 from rfl, e]
  simp only [k_op1, k_op2, k_un, k_call, k_b, k_and, k_or, k_not, k_eand, k_eor, k_enot, k_if, k_c1, k_c2, k_c3, k_cons1, k_cons2, k_tup, k_lst, k_fn, k_fnS, k_fnK, k_isi, k_sl1, k_sl2, k_sl3, k_i, o_sx, o_ret, o_if, o_set, o_asg, o_par2, o_par3, o_stS, o_stT, o_for, k_seq, k_rg1, k_rg2, e_rg1, e_rg2, rg1_1, rg2_1, k_lc, k_lt, k_le, k_lc2, k_fnF, e_fnF, run1, e_seq, seq_nx, seq_rt, seq_ct, seq_bk, fin_nx, fin_rt, given_fz, given_ow, given_bw, e_var, e_op, e_un, e_call, e_c, lift1, e_asB, toB1, e_tand, e_tor, e_tnot, e_and, e_or, e_not, e_if, e_chain, chn1, e_nil, e_cons, e_tup, e_lst, e_fn, e_fnS, e_fnK, e_isi, isiR1, outR1, outS1, e_stG, e_sl, b_no, b_so, toI1, e_no, e_sx, e_ret, e_retN, e_sif, put_fz, put_ow, nxO1, e_set, asg_fz, asg_ow, e_asg, g_nm, g_nl, g_cn, obind1, g_tuT, g_tuL, e_par2, e_par3, stO1, e_stS, e_stT, bind1, ofR1, d_fz, d_ow, d_bw, frz_fz, frz_ow, frz_bw, nb_nil, nb_fz, nb_ow, nb_bw, v_add, v_sub, v_neg, v_lt, v_gt, v_le, v_ge, v_is, v_isNot, v_eqS, v_neS, v_eq, v_ne, v_eqB, v_neB, v_ixT, v_ixL, at0, at1, at2, at3, at4, at5, map1, v_lenL, v_lenT, v_abs, v_int, v_intB, v_max2, v_min2, v_max3, v_min3, v_tupL, v_tupT, v_lstL, v_lstT, k_int_none, k_int_bool, k_int_int, k_int_str, k_int_list, k_int_tuple, k_bool_none, k_bool_bool, k_bool_int, k_bool_str, k_bool_list, k_bool_tuple, k_str_none, k_str_bool, k_str_int, k_str_str, k_str_list, k_str_tuple, k_list_none, k_list_bool, k_list_int, k_list_str, k_list_list, k_list_tuple, k_tuple_none, k_tuple_bool, k_tuple_int, k_tuple_str, k_tuple_list, k_tuple_tuple, k_dict_none, k_dict_bool, k_dict_int, k_dict_str, k_dict_list, k_dict_tuple, Int.cast_ofNat_Int, Nat.reduceAdd, Nat.reduceLeDiff, e_lc, e_iseq, seqI_fl, seqI_ft, seqI_ol, seqI_ot, lc_step, lc_nil, lcS1, lcN1, val_fz, val_ow, t_true, wipe0, wipe1, mkL1, noX1, loop_step, loop_nil, loopS1, loop_nx, loop_ct, loop_bk, loop_rt, loop_exc, e_for, v_allD, v_anyD, bools_map, ints_map, bools0, bools1, ints0, ints1, size_eq, decide_true, decide_false, true_or, or_true, eq_self, and_true, true_and, List.all_cons, List.all_nil, List.any_cons, List.any_nil, id_eq, isN, List.map_cons, List.map_nil, List.length_cons, List.length_nil, List.getElem?_cons_zero, List.getElem?_cons_succ, List.set_cons_zero, List.set_cons_succ, decide_eq_true_eq, if_true, Bool.or_true, Bool.true_or, Bool.and_true, Bool.true_and, Bool.false_eq_true, if_false, Bool.not_true, Bool.not_false, Bool.or_false, Bool.false_or, Bool.and_false, Bool.false_and, BEq.rfl]
  exact ⟨_, rfl⟩
/-! the pail -/
theorem p_pail (zs : List Int) (k : Int) (hk : 0 ≤ k) (w : List Int) : ∃ x y z, S__law_pail [] [.fz (.list (zs.map PyData.int)), .fz (.int k)] w = .ok (.ow (.list [.int x, .int y, .int z]), w) := by
  rw [u__law_pail]
  unfold g__law_pail
  have s1 : smallB 9203 = true := by decide
  have s2 : smallB 50021 = true := by decide
  have s3 : smallB 13 = true := by decide
  have s4 : smallB 89 = true := by decide
  have s5 : smallB 60017 = true := by decide
  have m1 : (2147483489 : Int) ≠ 0 := by decide
  obtain ⟨l, hl⟩ := cut_ints zs none (some 12)
  obtain ⟨ρ', w', e, ⟨m, e3, rfl⟩, rfl⟩ := loop_all (b := gNm 3) (g := sAsg (eOp fMod (eCall fInt (aCons (eOp fAdd (eOp fAdd (eOp fMul (eVar 2) (eC (.int 50021))) (eOp fMul (eOp fMod (eCall fInt (aCons (eVar 3) (aNil))) (eC (.int 2147483489))) (eC (.int 13)))) (eC (.int 7))) (aNil))) (eC (.int 2147483489))) (gNm 2))
    (P := fun ρ w' => (∃ (m : Int) (e3 : Option EV), ρ = [some (.fz (.list (zs.map PyData.int))), some (.fz (.int k)), some (.fz (.int m)), e3, none]) ∧ w' = w) (ds := l.map PyData.int)
    (ρ := [some (.fz (.list (zs.map PyData.int))), some (.fz (.int k)), some (.fz (.int (55001 + 9203 * k))), none, none]) (w := w) (by
      rintro d hd ρ w' ⟨⟨m, e3, rfl⟩, rfl⟩
      obtain ⟨z, _, rfl⟩ := List.mem_map.mp hd
      have step : ∃ m' : Int, sAsg (eOp fMod (eCall fInt (aCons (eOp fAdd (eOp fAdd (eOp fMul (eVar 2) (eC (.int 50021))) (eOp fMul (eOp fMod (eCall fInt (aCons (eVar 3) (aNil))) (eC (.int 2147483489))) (eC (.int 13)))) (eC (.int 7))) (aNil))) (eC (.int 2147483489))) (gNm 2) [some (.fz (.list (zs.map PyData.int))), some (.fz (.int k)), some (.fz (.int m)), some (.fz (.int z)), none] w' = .nx [some (.fz (.list (zs.map PyData.int))), some (.fz (.int k)), some (.fz (.int m')), some (.fz (.int z)), none] w' := by
        simp only [k_op1, k_op2, k_un, k_call, k_b, k_and, k_or, k_not, k_eand, k_eor, k_enot, k_if, k_c1, k_c2, k_c3, k_cons1, k_cons2, k_tup, k_lst, k_fn, k_fnS, k_fnK, k_isi, k_sl1, k_sl2, k_sl3, k_i, o_sx, o_ret, o_if, o_set, o_asg, o_par2, o_par3, o_stS, o_stT, o_for, k_seq, k_rg1, k_rg2, e_rg1, e_rg2, rg1_1, rg2_1, k_lc, k_lt, k_le, k_lc2, k_fnF, e_fnF, run1, e_seq, seq_nx, seq_rt, seq_ct, seq_bk, fin_nx, fin_rt, given_fz, given_ow, given_bw, e_var, e_op, e_un, e_call, e_c, lift1, e_asB, toB1, e_tand, e_tor, e_tnot, e_and, e_or, e_not, e_if, e_chain, chn1, e_nil, e_cons, e_tup, e_lst, e_fn, e_fnS, e_fnK, e_isi, isiR1, outR1, outS1, e_stG, e_sl, b_no, b_so, toI1, e_no, e_sx, e_ret, e_retN, e_sif, put_fz, put_ow, nxO1, e_set, asg_fz, asg_ow, e_asg, g_nm, g_nl, g_cn, obind1, g_tuT, g_tuL, e_par2, e_par3, stO1, e_stS, e_stT, bind1, ofR1, d_fz, d_ow, d_bw, frz_fz, frz_ow, frz_bw, nb_nil, nb_fz, nb_ow, nb_bw, v_add, v_sub, v_neg, v_lt, v_gt, v_le, v_ge, v_is, v_isNot, v_eqS, v_neS, v_eq, v_ne, v_eqB, v_neB, v_ixT, v_ixL, at0, at1, at2, at3, at4, at5, map1, v_lenL, v_lenT, v_abs, v_int, v_intB, v_max2, v_min2, v_max3, v_min3, v_tupL, v_tupT, v_lstL, v_lstT, k_int_none, k_int_bool, k_int_int, k_int_str, k_int_list, k_int_tuple, k_bool_none, k_bool_bool, k_bool_int, k_bool_str, k_bool_list, k_bool_tuple, k_str_none, k_str_bool, k_str_int, k_str_str, k_str_list, k_str_tuple, k_list_none, k_list_bool, k_list_int, k_list_str, k_list_list, k_list_tuple, k_tuple_none, k_tuple_bool, k_tuple_int, k_tuple_str, k_tuple_list, k_tuple_tuple, k_dict_none, k_dict_bool, k_dict_int, k_dict_str, k_dict_list, k_dict_tuple, Int.cast_ofNat_Int, Nat.reduceAdd, Nat.reduceLeDiff, e_lc, e_iseq, seqI_fl, seqI_ft, seqI_ol, seqI_ot, lc_step, lc_nil, lcS1, lcN1, val_fz, val_ow, t_true, wipe0, wipe1, mkL1, noX1, loop_step, loop_nil, loopS1, loop_nx, loop_ct, loop_bk, loop_rt, loop_exc, e_for, v_allD, v_anyD, bools_map, ints_map, bools0, bools1, ints0, ints1, size_eq, decide_true, decide_false, true_or, or_true, eq_self, and_true, true_and, List.all_cons, List.all_nil, List.any_cons, List.any_nil, id_eq, isN, List.map_cons, List.map_nil, List.length_cons, List.length_nil, List.getElem?_cons_zero, List.getElem?_cons_succ, List.set_cons_zero, List.set_cons_succ, decide_eq_true_eq, if_true, Bool.or_true, Bool.true_or, Bool.and_true, Bool.true_and, Bool.false_eq_true, if_false, Bool.not_true, Bool.not_false, Bool.or_false, Bool.false_or, Bool.and_false, Bool.false_and, BEq.rfl, v_mul, s2, s3, v_mod m1]
        exact ⟨_, rfl⟩
      obtain ⟨m', e⟩ := step
      exact ⟨_, _, _, rfl, e, ⟨_, _, rfl⟩, rfl⟩) ⟨⟨_, _, rfl⟩, rfl⟩
  by_cases hlt : k < (zs.length : Int)
  · obtain ⟨z, hz⟩ := at_int hk hlt
    simp only [k_op1, k_op2, k_un, k_call, k_b, k_and, k_or, k_not, k_eand, k_eor, k_enot, k_if, k_c1, k_c2, k_c3, k_cons1, k_cons2, k_tup, k_lst, k_fn, k_fnS, k_fnK, k_isi, k_sl1, k_sl2, k_sl3, k_i, o_sx, o_ret, o_if, o_set, o_asg, o_par2, o_par3, o_stS, o_stT, o_for, k_seq, k_rg1, k_rg2, e_rg1, e_rg2, rg1_1, rg2_1, k_lc, k_lt, k_le, k_lc2, k_fnF, e_fnF, run1, e_seq, seq_nx, seq_rt, seq_ct, seq_bk, fin_nx, fin_rt, given_fz, given_ow, given_bw, e_var, e_op, e_un, e_call, e_c, lift1, e_asB, toB1, e_tand, e_tor, e_tnot, e_and, e_or, e_not, e_if, e_chain, chn1, e_nil, e_cons, e_tup, e_lst, e_fn, e_fnS, e_fnK, e_isi, isiR1, outR1, outS1, e_stG, e_sl, b_no, b_so, toI1, e_no, e_sx, e_ret, e_retN, e_sif, put_fz, put_ow, nxO1, e_set, asg_fz, asg_ow, e_asg, g_nm, g_nl, g_cn, obind1, g_tuT, g_tuL, e_par2, e_par3, stO1, e_stS, e_stT, bind1, ofR1, d_fz, d_ow, d_bw, frz_fz, frz_ow, frz_bw, nb_nil, nb_fz, nb_ow, nb_bw, v_add, v_sub, v_neg, v_lt, v_gt, v_le, v_ge, v_is, v_isNot, v_eqS, v_neS, v_eq, v_ne, v_eqB, v_neB, v_ixT, v_ixL, at0, at1, at2, at3, at4, at5, map1, v_lenL, v_lenT, v_abs, v_int, v_intB, v_max2, v_min2, v_max3, v_min3, v_tupL, v_tupT, v_lstL, v_lstT, k_int_none, k_int_bool, k_int_int, k_int_str, k_int_list, k_int_tuple, k_bool_none, k_bool_bool, k_bool_int, k_bool_str, k_bool_list, k_bool_tuple, k_str_none, k_str_bool, k_str_int, k_str_str, k_str_list, k_str_tuple, k_list_none, k_list_bool, k_list_int, k_list_str, k_list_list, k_list_tuple, k_tuple_none, k_tuple_bool, k_tuple_int, k_tuple_str, k_tuple_list, k_tuple_tuple, k_dict_none, k_dict_bool, k_dict_int, k_dict_str, k_dict_list, k_dict_tuple, Int.cast_ofNat_Int, Nat.reduceAdd, Nat.reduceLeDiff, e_lc, e_iseq, seqI_fl, seqI_ft, seqI_ol, seqI_ot, lc_step, lc_nil, lcS1, lcN1, val_fz, val_ow, t_true, wipe0, wipe1, mkL1, noX1, loop_step, loop_nil, loopS1, loop_nx, loop_ct, loop_bk, loop_rt, loop_exc, e_for, v_allD, v_anyD, bools_map, ints_map, bools0, bools1, ints0, ints1, size_eq, decide_true, decide_false, true_or, or_true, eq_self, and_true, true_and, List.all_cons, List.all_nil, List.any_cons, List.any_nil, id_eq, isN, List.map_cons, List.map_nil, List.length_cons, List.length_nil, List.getElem?_cons_zero, List.getElem?_cons_succ, List.set_cons_zero, List.set_cons_succ, decide_eq_true_eq, if_true, Bool.or_true, Bool.true_or, Bool.and_true, Bool.true_and, Bool.false_eq_true, if_false, Bool.not_true, Bool.not_false, Bool.or_false, Bool.false_or, Bool.and_false, Bool.false_and, BEq.rfl, v_mul, s1, v_slL, hl, e, hlt, hz, s4, s5, v_mod m1, pow15, List.length_map]
    by_cases c1 : z < 0
    · simp only [k_op1, k_op2, k_un, k_call, k_b, k_and, k_or, k_not, k_eand, k_eor, k_enot, k_if, k_c1, k_c2, k_c3, k_cons1, k_cons2, k_tup, k_lst, k_fn, k_fnS, k_fnK, k_isi, k_sl1, k_sl2, k_sl3, k_i, o_sx, o_ret, o_if, o_set, o_asg, o_par2, o_par3, o_stS, o_stT, o_for, k_seq, k_rg1, k_rg2, e_rg1, e_rg2, rg1_1, rg2_1, k_lc, k_lt, k_le, k_lc2, k_fnF, e_fnF, run1, e_seq, seq_nx, seq_rt, seq_ct, seq_bk, fin_nx, fin_rt, given_fz, given_ow, given_bw, e_var, e_op, e_un, e_call, e_c, lift1, e_asB, toB1, e_tand, e_tor, e_tnot, e_and, e_or, e_not, e_if, e_chain, chn1, e_nil, e_cons, e_tup, e_lst, e_fn, e_fnS, e_fnK, e_isi, isiR1, outR1, outS1, e_stG, e_sl, b_no, b_so, toI1, e_no, e_sx, e_ret, e_retN, e_sif, put_fz, put_ow, nxO1, e_set, asg_fz, asg_ow, e_asg, g_nm, g_nl, g_cn, obind1, g_tuT, g_tuL, e_par2, e_par3, stO1, e_stS, e_stT, bind1, ofR1, d_fz, d_ow, d_bw, frz_fz, frz_ow, frz_bw, nb_nil, nb_fz, nb_ow, nb_bw, v_add, v_sub, v_neg, v_lt, v_gt, v_le, v_ge, v_is, v_isNot, v_eqS, v_neS, v_eq, v_ne, v_eqB, v_neB, v_ixT, v_ixL, at0, at1, at2, at3, at4, at5, map1, v_lenL, v_lenT, v_abs, v_int, v_intB, v_max2, v_min2, v_max3, v_min3, v_tupL, v_tupT, v_lstL, v_lstT, k_int_none, k_int_bool, k_int_int, k_int_str, k_int_list, k_int_tuple, k_bool_none, k_bool_bool, k_bool_int, k_bool_str, k_bool_list, k_bool_tuple, k_str_none, k_str_bool, k_str_int, k_str_str, k_str_list, k_str_tuple, k_list_none, k_list_bool, k_list_int, k_list_str, k_list_list, k_list_tuple, k_tuple_none, k_tuple_bool, k_tuple_int, k_tuple_str, k_tuple_list, k_tuple_tuple, k_dict_none, k_dict_bool, k_dict_int, k_dict_str, k_dict_list, k_dict_tuple, Int.cast_ofNat_Int, Nat.reduceAdd, Nat.reduceLeDiff, e_lc, e_iseq, seqI_fl, seqI_ft, seqI_ol, seqI_ot, lc_step, lc_nil, lcS1, lcN1, val_fz, val_ow, t_true, wipe0, wipe1, mkL1, noX1, loop_step, loop_nil, loopS1, loop_nx, loop_ct, loop_bk, loop_rt, loop_exc, e_for, v_allD, v_anyD, bools_map, ints_map, bools0, bools1, ints0, ints1, size_eq, decide_true, decide_false, true_or, or_true, eq_self, and_true, true_and, List.all_cons, List.all_nil, List.any_cons, List.any_nil, id_eq, isN, List.map_cons, List.map_nil, List.length_cons, List.length_nil, List.getElem?_cons_zero, List.getElem?_cons_succ, List.set_cons_zero, List.set_cons_succ, decide_eq_true_eq, if_true, Bool.or_true, Bool.true_or, Bool.and_true, Bool.true_and, Bool.false_eq_true, if_false, Bool.not_true, Bool.not_false, Bool.or_false, Bool.false_or, Bool.and_false, Bool.false_and, BEq.rfl, c1]
      exact ⟨_, _, _, rfl⟩
    · by_cases c2 : 1000000000000000 ≤ z
      · simp only [k_op1, k_op2, k_un, k_call, k_b, k_and, k_or, k_not, k_eand, k_eor, k_enot, k_if, k_c1, k_c2, k_c3, k_cons1, k_cons2, k_tup, k_lst, k_fn, k_fnS, k_fnK, k_isi, k_sl1, k_sl2, k_sl3, k_i, o_sx, o_ret, o_if, o_set, o_asg, o_par2, o_par3, o_stS, o_stT, o_for, k_seq, k_rg1, k_rg2, e_rg1, e_rg2, rg1_1, rg2_1, k_lc, k_lt, k_le, k_lc2, k_fnF, e_fnF, run1, e_seq, seq_nx, seq_rt, seq_ct, seq_bk, fin_nx, fin_rt, given_fz, given_ow, given_bw, e_var, e_op, e_un, e_call, e_c, lift1, e_asB, toB1, e_tand, e_tor, e_tnot, e_and, e_or, e_not, e_if, e_chain, chn1, e_nil, e_cons, e_tup, e_lst, e_fn, e_fnS, e_fnK, e_isi, isiR1, outR1, outS1, e_stG, e_sl, b_no, b_so, toI1, e_no, e_sx, e_ret, e_retN, e_sif, put_fz, put_ow, nxO1, e_set, asg_fz, asg_ow, e_asg, g_nm, g_nl, g_cn, obind1, g_tuT, g_tuL, e_par2, e_par3, stO1, e_stS, e_stT, bind1, ofR1, d_fz, d_ow, d_bw, frz_fz, frz_ow, frz_bw, nb_nil, nb_fz, nb_ow, nb_bw, v_add, v_sub, v_neg, v_lt, v_gt, v_le, v_ge, v_is, v_isNot, v_eqS, v_neS, v_eq, v_ne, v_eqB, v_neB, v_ixT, v_ixL, at0, at1, at2, at3, at4, at5, map1, v_lenL, v_lenT, v_abs, v_int, v_intB, v_max2, v_min2, v_max3, v_min3, v_tupL, v_tupT, v_lstL, v_lstT, k_int_none, k_int_bool, k_int_int, k_int_str, k_int_list, k_int_tuple, k_bool_none, k_bool_bool, k_bool_int, k_bool_str, k_bool_list, k_bool_tuple, k_str_none, k_str_bool, k_str_int, k_str_str, k_str_list, k_str_tuple, k_list_none, k_list_bool, k_list_int, k_list_str, k_list_list, k_list_tuple, k_tuple_none, k_tuple_bool, k_tuple_int, k_tuple_str, k_tuple_list, k_tuple_tuple, k_dict_none, k_dict_bool, k_dict_int, k_dict_str, k_dict_list, k_dict_tuple, Int.cast_ofNat_Int, Nat.reduceAdd, Nat.reduceLeDiff, e_lc, e_iseq, seqI_fl, seqI_ft, seqI_ol, seqI_ot, lc_step, lc_nil, lcS1, lcN1, val_fz, val_ow, t_true, wipe0, wipe1, mkL1, noX1, loop_step, loop_nil, loopS1, loop_nx, loop_ct, loop_bk, loop_rt, loop_exc, e_for, v_allD, v_anyD, bools_map, ints_map, bools0, bools1, ints0, ints1, size_eq, decide_true, decide_false, true_or, or_true, eq_self, and_true, true_and, List.all_cons, List.all_nil, List.any_cons, List.any_nil, id_eq, isN, List.map_cons, List.map_nil, List.length_cons, List.length_nil, List.getElem?_cons_zero, List.getElem?_cons_succ, List.set_cons_zero, List.set_cons_succ, decide_eq_true_eq, if_true, Bool.or_true, Bool.true_or, Bool.and_true, Bool.true_and, Bool.false_eq_true, if_false, Bool.not_true, Bool.not_false, Bool.or_false, Bool.false_or, Bool.and_false, Bool.false_and, BEq.rfl, c1, c2]
        exact ⟨_, _, _, rfl⟩
      · simp only [k_op1, k_op2, k_un, k_call, k_b, k_and, k_or, k_not, k_eand, k_eor, k_enot, k_if, k_c1, k_c2, k_c3, k_cons1, k_cons2, k_tup, k_lst, k_fn, k_fnS, k_fnK, k_isi, k_sl1, k_sl2, k_sl3, k_i, o_sx, o_ret, o_if, o_set, o_asg, o_par2, o_par3, o_stS, o_stT, o_for, k_seq, k_rg1, k_rg2, e_rg1, e_rg2, rg1_1, rg2_1, k_lc, k_lt, k_le, k_lc2, k_fnF, e_fnF, run1, e_seq, seq_nx, seq_rt, seq_ct, seq_bk, fin_nx, fin_rt, given_fz, given_ow, given_bw, e_var, e_op, e_un, e_call, e_c, lift1, e_asB, toB1, e_tand, e_tor, e_tnot, e_and, e_or, e_not, e_if, e_chain, chn1, e_nil, e_cons, e_tup, e_lst, e_fn, e_fnS, e_fnK, e_isi, isiR1, outR1, outS1, e_stG, e_sl, b_no, b_so, toI1, e_no, e_sx, e_ret, e_retN, e_sif, put_fz, put_ow, nxO1, e_set, asg_fz, asg_ow, e_asg, g_nm, g_nl, g_cn, obind1, g_tuT, g_tuL, e_par2, e_par3, stO1, e_stS, e_stT, bind1, ofR1, d_fz, d_ow, d_bw, frz_fz, frz_ow, frz_bw, nb_nil, nb_fz, nb_ow, nb_bw, v_add, v_sub, v_neg, v_lt, v_gt, v_le, v_ge, v_is, v_isNot, v_eqS, v_neS, v_eq, v_ne, v_eqB, v_neB, v_ixT, v_ixL, at0, at1, at2, at3, at4, at5, map1, v_lenL, v_lenT, v_abs, v_int, v_intB, v_max2, v_min2, v_max3, v_min3, v_tupL, v_tupT, v_lstL, v_lstT, k_int_none, k_int_bool, k_int_int, k_int_str, k_int_list, k_int_tuple, k_bool_none, k_bool_bool, k_bool_int, k_bool_str, k_bool_list, k_bool_tuple, k_str_none, k_str_bool, k_str_int, k_str_str, k_str_list, k_str_tuple, k_list_none, k_list_bool, k_list_int, k_list_str, k_list_list, k_list_tuple, k_tuple_none, k_tuple_bool, k_tuple_int, k_tuple_str, k_tuple_list, k_tuple_tuple, k_dict_none, k_dict_bool, k_dict_int, k_dict_str, k_dict_list, k_dict_tuple, Int.cast_ofNat_Int, Nat.reduceAdd, Nat.reduceLeDiff, e_lc, e_iseq, seqI_fl, seqI_ft, seqI_ol, seqI_ot, lc_step, lc_nil, lcS1, lcN1, val_fz, val_ow, t_true, wipe0, wipe1, mkL1, noX1, loop_step, loop_nil, loopS1, loop_nx, loop_ct, loop_bk, loop_rt, loop_exc, e_for, v_allD, v_anyD, bools_map, ints_map, bools0, bools1, ints0, ints1, size_eq, decide_true, decide_false, true_or, or_true, eq_self, and_true, true_and, List.all_cons, List.all_nil, List.any_cons, List.any_nil, id_eq, isN, List.map_cons, List.map_nil, List.length_cons, List.length_nil, List.getElem?_cons_zero, List.getElem?_cons_succ, List.set_cons_zero, List.set_cons_succ, decide_eq_true_eq, if_true, Bool.or_true, Bool.true_or, Bool.and_true, Bool.true_and, Bool.false_eq_true, if_false, Bool.not_true, Bool.not_false, Bool.or_false, Bool.false_or, Bool.and_false, Bool.false_and, BEq.rfl, c1, c2]
        exact ⟨_, _, _, rfl⟩
  · simp only [k_op1, k_op2, k_un, k_call, k_b, k_and, k_or, k_not, k_eand, k_eor, k_enot, k_if, k_c1, k_c2, k_c3, k_cons1, k_cons2, k_tup, k_lst, k_fn, k_fnS, k_fnK, k_isi, k_sl1, k_sl2, k_sl3, k_i, o_sx, o_ret, o_if, o_set, o_asg, o_par2, o_par3, o_stS, o_stT, o_for, k_seq, k_rg1, k_rg2, e_rg1, e_rg2, rg1_1, rg2_1, k_lc, k_lt, k_le, k_lc2, k_fnF, e_fnF, run1, e_seq, seq_nx, seq_rt, seq_ct, seq_bk, fin_nx, fin_rt, given_fz, given_ow, given_bw, e_var, e_op, e_un, e_call, e_c, lift1, e_asB, toB1, e_tand, e_tor, e_tnot, e_and, e_or, e_not, e_if, e_chain, chn1, e_nil, e_cons, e_tup, e_lst, e_fn, e_fnS, e_fnK, e_isi, isiR1, outR1, outS1, e_stG, e_sl, b_no, b_so, toI1, e_no, e_sx, e_ret, e_retN, e_sif, put_fz, put_ow, nxO1, e_set, asg_fz, asg_ow, e_asg, g_nm, g_nl, g_cn, obind1, g_tuT, g_tuL, e_par2, e_par3, stO1, e_stS, e_stT, bind1, ofR1, d_fz, d_ow, d_bw, frz_fz, frz_ow, frz_bw, nb_nil, nb_fz, nb_ow, nb_bw, v_add, v_sub, v_neg, v_lt, v_gt, v_le, v_ge, v_is, v_isNot, v_eqS, v_neS, v_eq, v_ne, v_eqB, v_neB, v_ixT, v_ixL, at0, at1, at2, at3, at4, at5, map1, v_lenL, v_lenT, v_abs, v_int, v_intB, v_max2, v_min2, v_max3, v_min3, v_tupL, v_tupT, v_lstL, v_lstT, k_int_none, k_int_bool, k_int_int, k_int_str, k_int_list, k_int_tuple, k_bool_none, k_bool_bool, k_bool_int, k_bool_str, k_bool_list, k_bool_tuple, k_str_none, k_str_bool, k_str_int, k_str_str, k_str_list, k_str_tuple, k_list_none, k_list_bool, k_list_int, k_list_str, k_list_list, k_list_tuple, k_tuple_none, k_tuple_bool, k_tuple_int, k_tuple_str, k_tuple_list, k_tuple_tuple, k_dict_none, k_dict_bool, k_dict_int, k_dict_str, k_dict_list, k_dict_tuple, Int.cast_ofNat_Int, Nat.reduceAdd, Nat.reduceLeDiff, e_lc, e_iseq, seqI_fl, seqI_ft, seqI_ol, seqI_ot, lc_step, lc_nil, lcS1, lcN1, val_fz, val_ow, t_true, wipe0, wipe1, mkL1, noX1, loop_step, loop_nil, loopS1, loop_nx, loop_ct, loop_bk, loop_rt, loop_exc, e_for, v_allD, v_anyD, bools_map, ints_map, bools0, bools1, ints0, ints1, size_eq, decide_true, decide_false, true_or, or_true, eq_self, and_true, true_and, List.all_cons, List.all_nil, List.any_cons, List.any_nil, id_eq, isN, List.map_cons, List.map_nil, List.length_cons, List.length_nil, List.getElem?_cons_zero, List.getElem?_cons_succ, List.set_cons_zero, List.set_cons_succ, decide_eq_true_eq, if_true, Bool.or_true, Bool.true_or, Bool.and_true, Bool.true_and, Bool.false_eq_true, if_false, Bool.not_true, Bool.not_false, Bool.or_false, Bool.false_or, Bool.and_false, Bool.false_and, BEq.rfl, v_mul, s1, v_slL, hl, e, hlt, s4, s5, v_mod m1, pow15, List.length_map, Int.reduceLT, Int.reduceLE]
    exact ⟨_, _, _, rfl⟩
theorem p_law (zs : List Int) : S_law [] [.fz (.list (zs.map PyData.int))] [] = .ok (.fz (.bool true), []) := by
  rw [u_law]
  unfold g_law
  have key : ∀ (n : Nat), lcL (gNm 1) (tTrue) (eFnF S__law_right (aCons (eFn 2 S__law_pail (aCons (eVar 0) (aCons (eVar 1) (aNil)))) (aNil))) ((rngI 0 n).map PyData.int) [some (.fz (.list (zs.map PyData.int))), none] [] = .ok (((rngI 0 n).map (fun _ => true)).map PyData.bool, []) := by
    intro n
    rw [List.map_map]
    refine lc_mapE PyData.int _ fun k hk => ⟨[some (.fz (.list (zs.map PyData.int))), some (.fz (.int k))], .fz (.bool true), rfl, rfl, ?_, rfl⟩
    obtain ⟨x, y, z, e⟩ := p_pail zs k (rngI_mem.mp hk).1 []
    obtain ⟨w', e2⟩ := p_right [x, y, z] ⟨x, y, z, rfl⟩
    simp only [k_op1, k_op2, k_un, k_call, k_b, k_and, k_or, k_not, k_eand, k_eor, k_enot, k_if, k_c1, k_c2, k_c3, k_cons1, k_cons2, k_tup, k_lst, k_fn, k_fnS, k_fnK, k_isi, k_sl1, k_sl2, k_sl3, k_i, o_sx, o_ret, o_if, o_set, o_asg, o_par2, o_par3, o_stS, o_stT, o_for, k_seq, k_rg1, k_rg2, e_rg1, e_rg2, rg1_1, rg2_1, k_lc, k_lt, k_le, k_lc2, k_fnF, e_fnF, run1, e_seq, seq_nx, seq_rt, seq_ct, seq_bk, fin_nx, fin_rt, given_fz, given_ow, given_bw, e_var, e_op, e_un, e_call, e_c, lift1, e_asB, toB1, e_tand, e_tor, e_tnot, e_and, e_or, e_not, e_if, e_chain, chn1, e_nil, e_cons, e_tup, e_lst, e_fn, e_fnS, e_fnK, e_isi, isiR1, outR1, outS1, e_stG, e_sl, b_no, b_so, toI1, e_no, e_sx, e_ret, e_retN, e_sif, put_fz, put_ow, nxO1, e_set, asg_fz, asg_ow, e_asg, g_nm, g_nl, g_cn, obind1, g_tuT, g_tuL, e_par2, e_par3, stO1, e_stS, e_stT, bind1, ofR1, d_fz, d_ow, d_bw, frz_fz, frz_ow, frz_bw, nb_nil, nb_fz, nb_ow, nb_bw, v_add, v_sub, v_neg, v_lt, v_gt, v_le, v_ge, v_is, v_isNot, v_eqS, v_neS, v_eq, v_ne, v_eqB, v_neB, v_ixT, v_ixL, at0, at1, at2, at3, at4, at5, map1, v_lenL, v_lenT, v_abs, v_int, v_intB, v_max2, v_min2, v_max3, v_min3, v_tupL, v_tupT, v_lstL, v_lstT, k_int_none, k_int_bool, k_int_int, k_int_str, k_int_list, k_int_tuple, k_bool_none, k_bool_bool, k_bool_int, k_bool_str, k_bool_list, k_bool_tuple, k_str_none, k_str_bool, k_str_int, k_str_str, k_str_list, k_str_tuple, k_list_none, k_list_bool, k_list_int, k_list_str, k_list_list, k_list_tuple, k_tuple_none, k_tuple_bool, k_tuple_int, k_tuple_str, k_tuple_list, k_tuple_tuple, k_dict_none, k_dict_bool, k_dict_int, k_dict_str, k_dict_list, k_dict_tuple, Int.cast_ofNat_Int, Nat.reduceAdd, Nat.reduceLeDiff, e_lc, e_iseq, seqI_fl, seqI_ft, seqI_ol, seqI_ot, lc_step, lc_nil, lcS1, lcN1, val_fz, val_ow, t_true, wipe0, wipe1, mkL1, noX1, loop_step, loop_nil, loopS1, loop_nx, loop_ct, loop_bk, loop_rt, loop_exc, e_for, v_allD, v_anyD, bools_map, ints_map, bools0, bools1, ints0, ints1, size_eq, decide_true, decide_false, true_or, or_true, eq_self, and_true, true_and, List.all_cons, List.all_nil, List.any_cons, List.any_nil, id_eq, isN, List.map_cons, List.map_nil, List.length_cons, List.length_nil, List.getElem?_cons_zero, List.getElem?_cons_succ, List.set_cons_zero, List.set_cons_succ, decide_eq_true_eq, if_true, Bool.or_true, Bool.true_or, Bool.and_true, Bool.true_and, Bool.false_eq_true, if_false, Bool.not_true, Bool.not_false, Bool.or_false, Bool.false_or, Bool.and_false, Bool.false_and, BEq.rfl, e_fnF, e, e2]
  have alls : ∀ n : Nat, ((rngI 0 n).map (fun _ => true)).all id = true := fun n => by
    rw [List.all_eq_true]
    intro b hb
    obtain ⟨_, _, rfl⟩ := List.mem_map.mp hb
    rfl
  have r1 : rngOk (if (if (3 : Int) < (zs.length : Int) then 3 else (zs.length : Int)) > 2 then (if (3 : Int) < (zs.length : Int) then 3 else (zs.length : Int)) else 2) = true := by
    apply rng_ok <;> (split <;> split <;> omega)
  have f1 : (if (if (3 : Int) < (zs.length : Int) then 3 else (zs.length : Int)) > 2 then (if (3 : Int) < (zs.length : Int) then 3 else (zs.length : Int)) else 2).toNat ≤ 16777216 := by split <;> split <;> omega
  simp only [k_op1, k_op2, k_un, k_call, k_b, k_and, k_or, k_not, k_eand, k_eor, k_enot, k_if, k_c1, k_c2, k_c3, k_cons1, k_cons2, k_tup, k_lst, k_fn, k_fnS, k_fnK, k_isi, k_sl1, k_sl2, k_sl3, k_i, o_sx, o_ret, o_if, o_set, o_asg, o_par2, o_par3, o_stS, o_stT, o_for, k_seq, k_rg1, k_rg2, e_rg1, e_rg2, rg1_1, rg2_1, k_lc, k_lt, k_le, k_lc2, k_fnF, e_fnF, run1, e_seq, seq_nx, seq_rt, seq_ct, seq_bk, fin_nx, fin_rt, given_fz, given_ow, given_bw, e_var, e_op, e_un, e_call, e_c, lift1, e_asB, toB1, e_tand, e_tor, e_tnot, e_and, e_or, e_not, e_if, e_chain, chn1, e_nil, e_cons, e_tup, e_lst, e_fn, e_fnS, e_fnK, e_isi, isiR1, outR1, outS1, e_stG, e_sl, b_no, b_so, toI1, e_no, e_sx, e_ret, e_retN, e_sif, put_fz, put_ow, nxO1, e_set, asg_fz, asg_ow, e_asg, g_nm, g_nl, g_cn, obind1, g_tuT, g_tuL, e_par2, e_par3, stO1, e_stS, e_stT, bind1, ofR1, d_fz, d_ow, d_bw, frz_fz, frz_ow, frz_bw, nb_nil, nb_fz, nb_ow, nb_bw, v_add, v_sub, v_neg, v_lt, v_gt, v_le, v_ge, v_is, v_isNot, v_eqS, v_neS, v_eq, v_ne, v_eqB, v_neB, v_ixT, v_ixL, at0, at1, at2, at3, at4, at5, map1, v_lenL, v_lenT, v_abs, v_int, v_intB, v_max2, v_min2, v_max3, v_min3, v_tupL, v_tupT, v_lstL, v_lstT, k_int_none, k_int_bool, k_int_int, k_int_str, k_int_list, k_int_tuple, k_bool_none, k_bool_bool, k_bool_int, k_bool_str, k_bool_list, k_bool_tuple, k_str_none, k_str_bool, k_str_int, k_str_str, k_str_list, k_str_tuple, k_list_none, k_list_bool, k_list_int, k_list_str, k_list_list, k_list_tuple, k_tuple_none, k_tuple_bool, k_tuple_int, k_tuple_str, k_tuple_list, k_tuple_tuple, k_dict_none, k_dict_bool, k_dict_int, k_dict_str, k_dict_list, k_dict_tuple, Int.cast_ofNat_Int, Nat.reduceAdd, Nat.reduceLeDiff, e_lc, e_iseq, seqI_fl, seqI_ft, seqI_ol, seqI_ot, lc_step, lc_nil, lcS1, lcN1, val_fz, val_ow, t_true, wipe0, wipe1, mkL1, noX1, loop_step, loop_nil, loopS1, loop_nx, loop_ct, loop_bk, loop_rt, loop_exc, e_for, v_allD, v_anyD, bools_map, ints_map, bools0, bools1, ints0, ints1, size_eq, decide_true, decide_false, true_or, or_true, eq_self, and_true, true_and, List.all_cons, List.all_nil, List.any_cons, List.any_nil, id_eq, isN, List.map_cons, List.map_nil, List.length_cons, List.length_nil, List.getElem?_cons_zero, List.getElem?_cons_succ, List.set_cons_zero, List.set_cons_succ, decide_eq_true_eq, if_true, Bool.or_true, Bool.true_or, Bool.and_true, Bool.true_and, Bool.false_eq_true, if_false, Bool.not_true, Bool.not_false, Bool.or_false, Bool.false_or, Bool.and_false, Bool.false_and, BEq.rfl, e_rg1, rg1_1, List.length_map, r1, rngD_map, key, rngI_len, f1, v_all, alls]
end Dk40
namespace Dk40
open PySem PySem.Spec PyProof.Rows L2 DL
/-! what the walk leans on -/
structure Wd (mg : PySem.Str → Option Value) (K : PySem.W.Frag) (q : Nat → FuncData) : Prop where
  m_abs : mg "abs" = none
  m_all : mg "all" = none
  m_bool : mg "bool" = none
  m_divmod : mg "divmod" = none
  m_int : mg "int" = none
  m_isinstance : mg "isinstance" = none
  m_len : mg "len" = none
  m_max : mg "max" = none
  m_min : mg "min" = none
  m_range : mg "range" = none
  m_repr : mg "repr" = none
  m_sorted : mg "sorted" = none
  m_sum : mg "sum" = none
  m_tuple : mg "tuple" = none
  c_LAST_PLACE : ∃ t, mg "LAST_PLACE" = some (.int 5 t)
  c_MOST_STEPS : ∃ t, mg "MOST_STEPS" = some (.int 2 t)
  g_is_whole : mg "is_whole" = some (.ref (He.ga K "is_whole"))
  d_is_whole : FunD K "is_whole" "is_whole" (defArgs (top 4)) (defBody (top 4)) (defScope (top 4)) [] [] (He.ga K "is_whole") (q 0)
  g_is_number : mg "is_number" = some (.ref (He.ga K "is_number"))
  d_is_number : FunD K "is_number" "is_number" (defArgs (top 5)) (defBody (top 5)) (defScope (top 5)) [] [] (He.ga K "is_number") (q 1)
  g_is_tuple_of : mg "is_tuple_of" = some (.ref (He.ga K "is_tuple_of"))
  d_is_tuple_of : FunD K "is_tuple_of" "is_tuple_of" (defArgs (top 6)) (defBody (top 6)) (defScope (top 6)) [] [] (He.ga K "is_tuple_of") (q 2)
  g_is_box_form : mg "is_box_form" = some (.ref (He.ga K "is_box_form"))
  d_is_box_form : FunD K "is_box_form" "is_box_form" (defArgs (top 9)) (defBody (top 9)) (defScope (top 9)) [] [] (He.ga K "is_box_form") (q 3)
  g_check_box : mg "check_box" = some (.ref (He.ga K "check_box"))
  d_check_box : FunD K "check_box" "check_box" (defArgs (top 10)) (defBody (top 10)) (defScope (top 10)) [] [] (He.ga K "check_box") (q 4)
  g_apart_in : mg "apart_in" = some (.ref (He.ga K "apart_in"))
  d_apart_in : FunD K "apart_in" "apart_in" (defArgs (top 13)) (defBody (top 13)) (defScope (top 13)) [] [] (He.ga K "apart_in") (q 5)
  g_are_near_in : mg "are_near_in" = some (.ref (He.ga K "are_near_in"))
  d_are_near_in : FunD K "are_near_in" "are_near_in" (defArgs (top 14)) (defBody (top 14)) (defScope (top 14)) [] [] (He.ga K "are_near_in") (q 6)
  g_both_of : mg "both_of" = some (.ref (He.ga K "both_of"))
  d_both_of : FunD K "both_of" "both_of" (defArgs (top 15)) (defBody (top 15)) (defScope (top 15)) [] [] (He.ga K "both_of") (q 7)
  g_half_rim_of : mg "half_rim_of" = some (.ref (He.ga K "half_rim_of"))
  d_half_rim_of : FunD K "half_rim_of" "half_rim_of" (defArgs (top 16)) (defBody (top 16)) (defScope (top 16)) [] [] (He.ga K "half_rim_of") (q 8)
  g_check_boxes : mg "check_boxes" = some (.ref (He.ga K "check_boxes"))
  d_check_boxes : FunD K "check_boxes" "check_boxes" (defArgs (top 18)) (defBody (top 18)) (defScope (top 18)) [] [] (He.ga K "check_boxes") (q 9)
  g_are_near : mg "are_near" = some (.ref (He.ga K "are_near"))
  d_are_near : FunD K "are_near" "are_near" (defArgs (top 19)) (defBody (top 19)) (defScope (top 19)) [] [] (He.ga K "are_near") (q 10)
  g_box_with : mg "box_with" = some (.ref (He.ga K "box_with"))
  d_box_with : FunD K "box_with" "box_with" (defArgs (top 20)) (defBody (top 20)) (defScope (top 20)) [] [] (He.ga K "box_with") (q 11)
  g_half_rim : mg "half_rim" = some (.ref (He.ga K "half_rim"))
  d_half_rim : FunD K "half_rim" "half_rim" (defArgs (top 21)) (defBody (top 21)) (defScope (top 21)) [] [] (He.ga K "half_rim") (q 12)
  g__law_pail : mg "_law_pail" = some (.ref (He.ga K "_law_pail"))
  d__law_pail : FunD K "_law_pail" "_law_pail" (defArgs (top 23)) (defBody (top 23)) (defScope (top 23)) [] [] (He.ga K "_law_pail") (q 13)
  g__law_deal : mg "_law_deal" = some (.ref (He.ga K "_law_deal"))
  d__law_deal : FunD K "_law_deal" "_law_deal" (defArgs (top 24)) (defBody (top 24)) (defScope (top 24)) [] [] (He.ga K "_law_deal") (q 14)
  g__law_box : mg "_law_box" = some (.ref (He.ga K "_law_box"))
  d__law_box : FunD K "_law_box" "_law_box" (defArgs (top 25)) (defBody (top 25)) (defScope (top 25)) [] [] (He.ga K "_law_box") (q 15)
  g__law_box_with : mg "_law_box_with" = some (.ref (He.ga K "_law_box_with"))
  d__law_box_with : FunD K "_law_box_with" "_law_box_with" (defArgs (top 26)) (defBody (top 26)) (defScope (top 26)) [] [] (He.ga K "_law_box_with") (q 16)
  g__law_in_box : mg "_law_in_box" = some (.ref (He.ga K "_law_in_box"))
  d__law_in_box : FunD K "_law_in_box" "_law_in_box" (defArgs (top 27)) (defBody (top 27)) (defScope (top 27)) [] [] (He.ga K "_law_in_box") (q 17)
  g__law_right : mg "_law_right" = some (.ref (He.ga K "_law_right"))
  d__law_right : FunD K "_law_right" "_law_right" (defArgs (top 28)) (defBody (top 28)) (defScope (top 28)) [] [] (He.ga K "_law_right") (q 18)
  g_law : mg "law" = some (.ref (He.ga K "law"))
  d_law : FunD K "law" "law" (defArgs (top 29)) (defBody (top 29)) (defScope (top 29)) [] [] (He.ga K "law") (q 19)
section
variable {G : Pg} {q : Nat → FuncData}
theorem sc_is_whole : FnScope N_is_whole P_is_whole (defScope (top 4)) := ⟨rfl, rfl, rfl, by decide +kernel, rfl, by decide +kernel, by decide +kernel⟩
theorem b_is_whole (h : Wd G.mg G.K q) : Binds G.K (q 0) P_is_whole [] := h.d_is_whole.bindsN fun _ _ _ _ _ _ us hl => match us, hl with | [_], _ => rfl
theorem sc_is_number : FnScope N_is_number P_is_number (defScope (top 5)) := ⟨rfl, rfl, rfl, by decide +kernel, rfl, by decide +kernel, by decide +kernel⟩
theorem b_is_number (h : Wd G.mg G.K q) : Binds G.K (q 1) P_is_number [] := h.d_is_number.bindsN fun _ _ _ _ _ _ us hl => match us, hl with | [_, _, _], _ => rfl
theorem sc_is_tuple_of : FnScope N_is_tuple_of P_is_tuple_of (defScope (top 6)) := ⟨rfl, rfl, rfl, by decide +kernel, rfl, by decide +kernel, by decide +kernel⟩
theorem b_is_tuple_of (h : Wd G.mg G.K q) : Binds G.K (q 2) P_is_tuple_of [] := h.d_is_tuple_of.bindsN fun _ _ _ _ _ _ us hl => match us, hl with | [_, _], _ => rfl
theorem sc_is_box_form : FnScope N_is_box_form P_is_box_form (defScope (top 9)) := ⟨rfl, rfl, rfl, by decide +kernel, rfl, by decide +kernel, by decide +kernel⟩
theorem b_is_box_form (h : Wd G.mg G.K q) : Binds G.K (q 3) P_is_box_form [] := h.d_is_box_form.bindsN fun _ _ _ _ _ _ us hl => match us, hl with | [_], _ => rfl
theorem sc_check_box : FnScope N_check_box P_check_box (defScope (top 10)) := ⟨rfl, rfl, rfl, by decide +kernel, rfl, by decide +kernel, by decide +kernel⟩
theorem b_check_box (h : Wd G.mg G.K q) : Binds G.K (q 4) P_check_box [] := h.d_check_box.bindsN fun _ _ _ _ _ _ us hl => match us, hl with | [_], _ => rfl
theorem sc_apart_in : FnScope N_apart_in P_apart_in (defScope (top 13)) := ⟨rfl, rfl, rfl, by decide +kernel, rfl, by decide +kernel, by decide +kernel⟩
theorem b_apart_in (h : Wd G.mg G.K q) : Binds G.K (q 5) P_apart_in [] := h.d_apart_in.bindsN fun _ _ _ _ _ _ us hl => match us, hl with | [_, _], _ => rfl
theorem sc_are_near_in : FnScope N_are_near_in P_are_near_in (defScope (top 14)) := ⟨rfl, rfl, rfl, by decide +kernel, rfl, by decide +kernel, by decide +kernel⟩
theorem b_are_near_in (h : Wd G.mg G.K q) : Binds G.K (q 6) P_are_near_in [] := h.d_are_near_in.bindsN fun _ _ _ _ _ _ us hl => match us, hl with | [_, _], _ => rfl
theorem sc_both_of : FnScope N_both_of P_both_of (defScope (top 15)) := ⟨rfl, rfl, rfl, by decide +kernel, rfl, by decide +kernel, by decide +kernel⟩
theorem b_both_of (h : Wd G.mg G.K q) : Binds G.K (q 7) P_both_of [] := h.d_both_of.bindsN fun _ _ _ _ _ _ us hl => match us, hl with | [_, _], _ => rfl
theorem sc_half_rim_of : FnScope N_half_rim_of P_half_rim_of (defScope (top 16)) := ⟨rfl, rfl, rfl, by decide +kernel, rfl, by decide +kernel, by decide +kernel⟩
theorem b_half_rim_of (h : Wd G.mg G.K q) : Binds G.K (q 8) P_half_rim_of [] := h.d_half_rim_of.bindsN fun _ _ _ _ _ _ us hl => match us, hl with | [_], _ => rfl
theorem sc_check_boxes : FnScope N_check_boxes P_check_boxes (defScope (top 18)) := ⟨rfl, rfl, rfl, by decide +kernel, rfl, by decide +kernel, by decide +kernel⟩
theorem b_check_boxes (h : Wd G.mg G.K q) : Binds G.K (q 9) P_check_boxes [] := h.d_check_boxes.bindsN fun _ _ _ _ _ _ us hl => match us, hl with | [_, _], _ => rfl
theorem sc_are_near : FnScope N_are_near P_are_near (defScope (top 19)) := ⟨rfl, rfl, rfl, by decide +kernel, rfl, by decide +kernel, by decide +kernel⟩
theorem b_are_near (h : Wd G.mg G.K q) : Binds G.K (q 10) P_are_near [] := h.d_are_near.bindsN fun _ _ _ _ _ _ us hl => match us, hl with | [_, _], _ => rfl
theorem sc_box_with : FnScope N_box_with P_box_with (defScope (top 20)) := ⟨rfl, rfl, rfl, by decide +kernel, rfl, by decide +kernel, by decide +kernel⟩
theorem b_box_with (h : Wd G.mg G.K q) : Binds G.K (q 11) P_box_with [] := h.d_box_with.bindsN fun _ _ _ _ _ _ us hl => match us, hl with | [_, _], _ => rfl
theorem sc_half_rim : FnScope N_half_rim P_half_rim (defScope (top 21)) := ⟨rfl, rfl, rfl, by decide +kernel, rfl, by decide +kernel, by decide +kernel⟩
theorem b_half_rim (h : Wd G.mg G.K q) : Binds G.K (q 12) P_half_rim [] := h.d_half_rim.bindsN fun _ _ _ _ _ _ us hl => match us, hl with | [_], _ => rfl
theorem sc__law_pail : FnScope N__law_pail P__law_pail (defScope (top 23)) := ⟨rfl, rfl, rfl, by decide +kernel, rfl, by decide +kernel, by decide +kernel⟩
theorem b__law_pail (h : Wd G.mg G.K q) : Binds G.K (q 13) P__law_pail [] := h.d__law_pail.bindsN fun _ _ _ _ _ _ us hl => match us, hl with | [_, _], _ => rfl
theorem sc__law_deal : FnScope N__law_deal P__law_deal (defScope (top 24)) := ⟨rfl, rfl, rfl, by decide +kernel, rfl, by decide +kernel, by decide +kernel⟩
theorem b__law_deal (h : Wd G.mg G.K q) : Binds G.K (q 14) P__law_deal [] := h.d__law_deal.bindsN fun _ _ _ _ _ _ us hl => match us, hl with | [_, _], _ => rfl
theorem sc__law_box : FnScope N__law_box P__law_box (defScope (top 25)) := ⟨rfl, rfl, rfl, by decide +kernel, rfl, by decide +kernel, by decide +kernel⟩
theorem b__law_box (h : Wd G.mg G.K q) : Binds G.K (q 15) P__law_box [] := h.d__law_box.bindsN fun _ _ _ _ _ _ us hl => match us, hl with | [_], _ => rfl
theorem sc__law_box_with : FnScope N__law_box_with P__law_box_with (defScope (top 26)) := ⟨rfl, rfl, rfl, by decide +kernel, rfl, by decide +kernel, by decide +kernel⟩
theorem b__law_box_with (h : Wd G.mg G.K q) : Binds G.K (q 16) P__law_box_with [] := h.d__law_box_with.bindsN fun _ _ _ _ _ _ us hl => match us, hl with | [_, _], _ => rfl
theorem sc__law_in_box : FnScope N__law_in_box P__law_in_box (defScope (top 27)) := ⟨rfl, rfl, rfl, by decide +kernel, rfl, by decide +kernel, by decide +kernel⟩
theorem b__law_in_box (h : Wd G.mg G.K q) : Binds G.K (q 17) P__law_in_box [] := h.d__law_in_box.bindsN fun _ _ _ _ _ _ us hl => match us, hl with | [_], _ => rfl
theorem sc__law_right : FnScope N__law_right P__law_right (defScope (top 28)) := ⟨rfl, rfl, rfl, by decide +kernel, rfl, by decide +kernel, by decide +kernel⟩
theorem b__law_right (h : Wd G.mg G.K q) : Binds G.K (q 18) P__law_right [] := h.d__law_right.bindsN fun _ _ _ _ _ _ us hl => match us, hl with | [_], _ => rfl
theorem sc_law : FnScope N_law P_law (defScope (top 29)) := ⟨rfl, rfl, rfl, by decide +kernel, rfl, by decide +kernel, by decide +kernel⟩
theorem b_law (h : Wd G.mg G.K q) : Binds G.K (q 19) P_law [] := h.d_law.bindsN fun _ _ _ _ _ _ us hl => match us, hl with | [_], _ => rfl
theorem kb_half_rim_0 (h : Wd G.mg G.K q) : KB (q 12) P_half_rim ["box"] [0] := kb_of h.d_half_rim fun _ _ _ _ _ _ us hl => match us, hl with | [_], _ => rfl
theorem kb_box_with_1_0 (h : Wd G.mg G.K q) : KB (q 11) P_box_with ["box2", "box"] [1, 0] := kb_of h.d_box_with fun _ _ _ _ _ _ us hl => match us, hl with | [_, _], _ => rfl
theorem kb_are_near_1_0 (h : Wd G.mg G.K q) : KB (q 10) P_are_near ["box2", "box"] [1, 0] := kb_of h.d_are_near fun _ _ _ _ _ _ us hl => match us, hl with | [_, _], _ => rfl
theorem ok_is_whole (h : Wd G.mg G.K q) : FnD G 1 0 (He.ga G.K "is_whole") (q 0) P_is_whole false S_is_whole :=
  fnd_of (k := 0) h.d_is_whole sc_is_whole g_is_whole fun cdv A outer s H E S0 pw fns Φ hr hg hh hp hn => by
    have k := wk_def (G := G) (outer := outer) (H := H) (E := E) (S0 := S0) (pw := pw) (fns := fns) hr hg (by decide +kernel : namesOk N_is_whole = true) sc_is_whole.nd
    have q0 := hn rfl
    exact ds_one (ds_ret (de_and (de_isi (T := "int") k.t rfl h.m_isinstance rfl h.m_int b_int (dv (i := 0) k rfl rfl)) (de_one (de_not (de_isi (T := "bool") k.t rfl h.m_isinstance rfl h.m_bool b_bool (dv (i := 0) k rfl rfl))))))
theorem ok_is_tuple_of (h : Wd G.mg G.K q) : FnD G 1 0 (He.ga G.K "is_tuple_of") (q 2) P_is_tuple_of false S_is_tuple_of :=
  fnd_of (k := 0) h.d_is_tuple_of sc_is_tuple_of g_is_tuple_of fun cdv A outer s H E S0 pw fns Φ hr hg hh hp hn => by
    have k := wk_def (G := G) (outer := outer) (H := H) (E := E) (S0 := S0) (pw := pw) (fns := fns) hr hg (by decide +kernel : namesOk N_is_tuple_of = true) sc_is_tuple_of.nd
    have q0 := hn rfl
    exact ds_one (ds_ret (de_and (de_isi (T := "tuple") k.t rfl h.m_isinstance rfl h.m_tuple b_tuple (dv (i := 0) k rfl rfl)) (de_one (de_cmp (op_eq' k.t) (de_callB (call_len' k.t) rfl h.m_len b_len (da_cons (dv (i := 0) k rfl rfl) (da_nil))) (dv (i := 1) k rfl rfl)))))
theorem ok_apart_in (h : Wd G.mg G.K q) : FnD G 1 0 (He.ga G.K "apart_in") (q 5) P_apart_in false S_apart_in :=
  fnd_of (k := 0) h.d_apart_in sc_apart_in g_apart_in fun cdv A outer s H E S0 pw fns Φ hr hg hh hp hn => by
    have k := wk_def (G := G) (outer := outer) (H := H) (E := E) (S0 := S0) (pw := pw) (fns := fns) hr hg (by decide +kernel : namesOk N_apart_in = true) sc_apart_in.nd
    have q0 := hn rfl
    exact ds_cons (ds_asg (de_callB (call_max' k.t) rfl h.m_max b_max (da_cons (de_int) (da_cons (de_op op_sub' (de_ix (ix' k.t) (dv (i := 1) k rfl rfl) (de_int)) (de_ix (ix' k.t) (dv (i := 0) k rfl rfl) (de_int))) (da_cons (de_op op_sub' (de_ix (ix' k.t) (dv (i := 0) k rfl rfl) (de_int)) (de_ix (ix' k.t) (dv (i := 1) k rfl rfl) (de_int))) (da_nil))))) (dgn (i := 2) k (.inl q0) rfl rfl)) (ds_one (ds_ret (de_tup (da_cons (dv (i := 2) k rfl rfl) (da_cons (de_callB (call_max' k.t) rfl h.m_max b_max (da_cons (de_int) (da_cons (de_op op_sub' (de_ix (ix' k.t) (dv (i := 1) k rfl rfl) (de_int)) (de_ix (ix' k.t) (dv (i := 0) k rfl rfl) (de_int))) (da_cons (de_op op_sub' (de_ix (ix' k.t) (dv (i := 0) k rfl rfl) (de_int)) (de_ix (ix' k.t) (dv (i := 1) k rfl rfl) (de_int))) (da_nil))))) (da_nil))))))
theorem ok_both_of (h : Wd G.mg G.K q) : FnD G 1 0 (He.ga G.K "both_of") (q 7) P_both_of false S_both_of :=
  fnd_of (k := 0) h.d_both_of sc_both_of g_both_of fun cdv A outer s H E S0 pw fns Φ hr hg hh hp hn => by
    have k := wk_def (G := G) (outer := outer) (H := H) (E := E) (S0 := S0) (pw := pw) (fns := fns) hr hg (by decide +kernel : namesOk N_both_of = true) sc_both_of.nd
    have q0 := hn rfl
    exact ds_one (ds_ret (de_tup (da_cons (de_callB (call_min' k.t) rfl h.m_min b_min (da_cons (de_ix (ix' k.t) (dv (i := 0) k rfl rfl) (de_int)) (da_cons (de_ix (ix' k.t) (dv (i := 1) k rfl rfl) (de_int)) (da_nil)))) (da_cons (de_callB (call_min' k.t) rfl h.m_min b_min (da_cons (de_ix (ix' k.t) (dv (i := 0) k rfl rfl) (de_int)) (da_cons (de_ix (ix' k.t) (dv (i := 1) k rfl rfl) (de_int)) (da_nil)))) (da_cons (de_callB (call_max' k.t) rfl h.m_max b_max (da_cons (de_ix (ix' k.t) (dv (i := 0) k rfl rfl) (de_int)) (da_cons (de_ix (ix' k.t) (dv (i := 1) k rfl rfl) (de_int)) (da_nil)))) (da_cons (de_callB (call_max' k.t) rfl h.m_max b_max (da_cons (de_ix (ix' k.t) (dv (i := 0) k rfl rfl) (de_int)) (da_cons (de_ix (ix' k.t) (dv (i := 1) k rfl rfl) (de_int)) (da_nil)))) (da_nil)))))))
theorem ok_half_rim_of (h : Wd G.mg G.K q) : FnD G 1 0 (He.ga G.K "half_rim_of") (q 8) P_half_rim_of false S_half_rim_of :=
  fnd_of (k := 0) h.d_half_rim_of sc_half_rim_of g_half_rim_of fun cdv A outer s H E S0 pw fns Φ hr hg hh hp hn => by
    have k := wk_def (G := G) (outer := outer) (H := H) (E := E) (S0 := S0) (pw := pw) (fns := fns) hr hg (by decide +kernel : namesOk N_half_rim_of = true) sc_half_rim_of.nd
    have q0 := hn rfl
    exact ds_one (ds_ret (de_op (op_add' k.t) (de_op op_sub' (de_op (op_add' k.t) (de_op op_sub' (de_ix (ix' k.t) (dv (i := 0) k rfl rfl) (de_int)) (de_ix (ix' k.t) (dv (i := 0) k rfl rfl) (de_int))) (de_ix (ix' k.t) (dv (i := 0) k rfl rfl) (de_int))) (de_ix (ix' k.t) (dv (i := 0) k rfl rfl) (de_int))) (de_int)))
theorem ok__law_pail (h : Wd G.mg G.K q) : FnD G 1 0 (He.ga G.K "_law_pail") (q 13) P__law_pail false S__law_pail :=
  fnd_of (k := 0) h.d__law_pail sc__law_pail g__law_pail fun cdv A outer s H E S0 pw fns Φ hr hg hh hp hn => by
    have k := wk_def (G := G) (outer := outer) (H := H) (E := E) (S0 := S0) (pw := pw) (fns := fns) hr hg (by decide +kernel : namesOk N__law_pail = true) sc__law_pail.nd
    have q0 := hn rfl
    have pso : PassesOwn (model G.P G.w) _ _ _ := passes_of (X := cxOf (L2.CX G.P G.w) G.P G.w G.K G.mg G.base N__law_pail "_law_pail" (defScope (top 23)) (He.ga G.K "_law_pail") cdv A outer s H E) rfl
    exact ds_cons (ds_asg (de_op (op_add' k.t) (de_int) (de_op (op_mul' k.t) (de_int) (dv (i := 1) k rfl rfl))) (dgn (i := 2) k (.inl q0) rfl rfl)) (ds_cons (ds_for pso k.t (di_list k.t (de_sl k.t (dv (i := 0) k rfl rfl) (do_no) (do_so (de_int)))) (fun _ => dgn (i := 3) (k.hide) (.inl q0) rfl rfl) (fun _ => ds_one (ds_asg (de_op op_mod' (de_callTy call_int' rfl h.m_int b_int (da_cons (de_op (op_add' (k.hide).t) (de_op (op_add' (k.hide).t) (de_op (op_mul' (k.hide).t) (dv (i := 2) (k.hide) rfl rfl) (de_int)) (de_op (op_mul' (k.hide).t) (de_op op_mod' (de_callTy call_int' rfl h.m_int b_int (da_cons (dv (i := 3) (k.hide) rfl rfl) (da_nil))) (de_int)) (de_int))) (de_int)) (da_nil))) (de_int)) (dgn (i := 2) (k.hide) (.inl q0) rfl rfl)))) (ds_cons (ds_asg (de_if (dt_cmp (op_lt' k.t) (dv (i := 1) k rfl rfl) (de_callB (call_len' k.t) rfl h.m_len b_len (da_cons (dv (i := 0) k rfl rfl) (da_nil)))) (de_callTy call_int' rfl h.m_int b_int (da_cons (de_ix (ix' k.t) (dv (i := 0) k rfl rfl) (dv (i := 1) k rfl rfl)) (da_nil))) (de_int)) (dgn (i := 4) k (.inl q0) rfl rfl)) (ds_cons (ds_asg (de_op op_mod' (de_callTy call_int' rfl h.m_int b_int (da_cons (de_op (op_add' k.t) (de_op (op_add' k.t) (de_op (op_mul' k.t) (dv (i := 2) k rfl rfl) (de_int)) (de_op (op_mul' k.t) (de_op op_mod' (dv (i := 4) k rfl rfl) (de_int)) (de_int))) (de_int)) (da_nil))) (de_int)) (dgn (i := 2) k (.inl q0) rfl rfl)) (ds_one (ds_ret (de_lst (da_cons (de_if (dt_w (dw_or (dt_cmp (op_lt' k.t) (dv (i := 4) k rfl rfl) (de_int)) (dw_or1 (dt_cmp (op_ge' k.t) (dv (i := 4) k rfl rfl) (de_op op_pow' (de_int) (de_int)))))) (de_callB call_abs' rfl h.m_abs b_abs (da_cons (dv (i := 4) k rfl rfl) (da_nil))) (de_int)) (da_cons (dv (i := 2) k rfl rfl) (da_cons (de_int) (da_nil))))))))))
theorem ok__law_deal (h : Wd G.mg G.K q) : FnD G 1 0 (He.ga G.K "_law_deal") (q 14) P__law_deal true S__law_deal :=
  fnd_of (k := 0) h.d__law_deal sc__law_deal g__law_deal fun cdv A outer s H E S0 pw fns Φ hr hg hh hp hn => by
    have k := wk_def (G := G) (outer := outer) (H := H) (E := E) (S0 := S0) (pw := pw) (fns := fns) hr hg (by decide +kernel : namesOk N__law_deal = true) sc__law_deal.nd
    have q1 := hp rfl
    exact ds_cons (ds_if (dt_cmp (op_gt' k.t) (deStG (m := 0) k q1 rfl rfl rfl) (de_int)) (ds_cons (ds_stT (k := 0) (i2 := 2) k.t q1 rfl k.pi rfl (vis_of rfl) (de_callB call_divmod' rfl h.m_divmod b_divmod (da_cons (deStG (m := 0) k q1 rfl rfl rfl) (da_cons (dv (i := 1) k rfl rfl) (da_nil)))) (.inr (ne_pi k (by decide))) k.nd rfl (loc_of rfl)) (ds_one (ds_ret (dv (i := 2) k rfl rfl)))) (ds_nil)) (ds_cons (ds_stS (k := 2) q1 rfl k.pi rfl (vis_of rfl) (de_op (op_add' k.t) (deStG (m := 2) k q1 rfl rfl rfl) (de_int))) (ds_cons (ds_asg (de_op op_mod' (de_callTy call_int' rfl h.m_int b_int (da_cons (de_op (op_add' k.t) (de_op (op_mul' k.t) (deStG (m := 1) k q1 rfl rfl rfl) (de_int)) (de_op (op_mul' k.t) (de_int) (deStG (m := 2) k q1 rfl rfl rfl))) (da_nil))) (de_int)) (dgn (i := 3) k (.inr (by decide)) rfl rfl)) (ds_cons (ds_stS (k := 1) q1 rfl k.pi rfl (vis_of rfl) (de_op op_mod' (de_callTy call_int' rfl h.m_int b_int (da_cons (de_op (op_add' k.t) (de_op (op_mul' k.t) (dv (i := 3) k rfl rfl) (de_op (op_add' k.t) (de_op op_mod' (de_callTy call_int' rfl h.m_int b_int (da_cons (dv (i := 3) k rfl rfl) (da_nil))) (de_int)) (de_int))) (de_op (op_mul' k.t) (de_int) (deStG (m := 2) k q1 rfl rfl rfl))) (da_nil))) (de_int))) (ds_one (ds_ret (de_op op_mod' (de_callTy call_int' rfl h.m_int b_int (da_cons (de_op op_div' (deStG (m := 1) k q1 rfl rfl rfl) (de_int)) (da_nil))) (dv (i := 1) k rfl rfl)))))))
theorem ok__law_box_with (h : Wd G.mg G.K q) : FnD G 1 0 (He.ga G.K "_law_box_with") (q 16) P__law_box_with false S__law_box_with :=
  fnd_of (k := 0) h.d__law_box_with sc__law_box_with g__law_box_with fun cdv A outer s H E S0 pw fns Φ hr hg hh hp hn => by
    have k := wk_def (G := G) (outer := outer) (H := H) (E := E) (S0 := S0) (pw := pw) (fns := fns) hr hg (by decide +kernel : namesOk N__law_box_with = true) sc__law_box_with.nd
    have q0 := hn rfl
    exact ds_one (ds_ret (de_tup (da_cons (de_callB (call_min' k.t) rfl h.m_min b_min (da_cons (de_ix (ix' k.t) (dv (i := 0) k rfl rfl) (de_int)) (da_cons (de_ix (ix' k.t) (dv (i := 1) k rfl rfl) (de_int)) (da_nil)))) (da_cons (de_callB (call_min' k.t) rfl h.m_min b_min (da_cons (de_ix (ix' k.t) (dv (i := 0) k rfl rfl) (de_int)) (da_cons (de_ix (ix' k.t) (dv (i := 1) k rfl rfl) (de_int)) (da_nil)))) (da_cons (de_callB (call_max' k.t) rfl h.m_max b_max (da_cons (de_ix (ix' k.t) (dv (i := 0) k rfl rfl) (de_int)) (da_cons (de_ix (ix' k.t) (dv (i := 1) k rfl rfl) (de_int)) (da_nil)))) (da_cons (de_callB (call_max' k.t) rfl h.m_max b_max (da_cons (de_ix (ix' k.t) (dv (i := 0) k rfl rfl) (de_int)) (da_cons (de_ix (ix' k.t) (dv (i := 1) k rfl rfl) (de_int)) (da_nil)))) (da_nil)))))))
theorem ok__law_in_box (h : Wd G.mg G.K q) : FnD G 1 0 (He.ga G.K "_law_in_box") (q 17) P__law_in_box false S__law_in_box :=
  fnd_of (k := 0) h.d__law_in_box sc__law_in_box g__law_in_box fun cdv A outer s H E S0 pw fns Φ hr hg hh hp hn => by
    have k := wk_def (G := G) (outer := outer) (H := H) (E := E) (S0 := S0) (pw := pw) (fns := fns) hr hg (by decide +kernel : namesOk N__law_in_box = true) sc__law_in_box.nd
    have q0 := hn rfl
    have pso : PassesOwn (model G.P G.w) _ _ _ := passes_of (X := cxOf (L2.CX G.P G.w) G.P G.w G.K G.mg G.base N__law_in_box "_law_in_box" (defScope (top 27)) (He.ga G.K "_law_in_box") cdv A outer s H E) rfl
    exact ds_cons (ds_asg (de_lst (da_nil)) (dgn (i := 1) k (.inl q0) rfl rfl)) (ds_cons (ds_for pso k.t (di_rng2 rfl h.m_range (da_cons (de_ix (ix' k.t) (dv (i := 0) k rfl rfl) (de_int)) (da_cons (de_op (op_add' k.t) (de_ix (ix' k.t) (dv (i := 0) k rfl rfl) (de_int)) (de_int)) (da_nil)))) (fun _ => dgn (i := 2) (k.hide) (.inl q0) rfl rfl) (fun _ => ds_one (ds_asg (de_op (op_add' (k.hide).t) (dv (i := 1) (k.hide) rfl rfl) (deLc (own := [("j", 3)]) (k.hide) (.inl q0) (by decide) (di_rng2 rfl h.m_range (da_cons (de_ix (ix' (k.hide).t) (dv (i := 0) (k.hide) rfl rfl) (de_int)) (da_cons (de_op (op_add' (k.hide).t) (de_ix (ix' (k.hide).t) (dv (i := 0) (k.hide) rfl rfl) (de_int)) (de_int)) (da_nil)))) (by kernel_rfl) (fun _ _ _ _ _ => dgn (i := 3) ((k.hide).blk) (.inl q0) rfl rfl) (fun _ _ _ _ _ => dp_nil) (fun _ _ _ _ _ => de_tup (da_cons (dv (i := 2) ((k.hide).blk) rfl rfl) (da_cons (dv (i := 3) ((k.hide).blk) rfl rfl) (da_nil)))))) (dgn (i := 1) (k.hide) (.inl q0) rfl rfl)))) (ds_one (ds_ret (dv (i := 1) k rfl rfl))))
theorem ok_is_number (h : Wd G.mg G.K q) : FnD G 2 0 (He.ga G.K "is_number") (q 1) P_is_number false S_is_number :=
  fnd_of (k := 1) h.d_is_number sc_is_number g_is_number fun cdv A outer s H E S0 pw fns Φ hr hg hh hp hn => by
    have k := wk_def (G := G) (outer := outer) (H := H) (E := E) (S0 := S0) (pw := pw) (fns := fns) hr hg (by decide +kernel : namesOk N_is_number = true) sc_is_number.nd
    have q0 := hn rfl
    exact ds_cons (ds_if (dt_w (dw_or (dt_not (dt_val (deFn k (ok_is_whole h) rfl rfl h.g_is_whole h.d_is_whole.kp (b_is_whole h) (da_cons (dv (i := 0) k rfl rfl) (da_nil))))) (dw_or1 (dt_w (dw_and (dt_cmp op_isNot' (dv (i := 1) k rfl rfl) (de_non)) (dw_and1 (dt_cmp (op_lt' k.t) (dv (i := 0) k rfl rfl) (dv (i := 1) k rfl rfl)))))))) (ds_one (ds_ret (de_bl))) (ds_nil)) (ds_one (ds_ret (de_or (de_cmp op_is' (dv (i := 2) k rfl rfl) (de_non)) (de_one (de_cmp (op_le' k.t) (dv (i := 0) k rfl rfl) (dv (i := 2) k rfl rfl))))))
theorem ok_are_near_in (h : Wd G.mg G.K q) : FnD G 2 0 (He.ga G.K "are_near_in") (q 6) P_are_near_in false S_are_near_in :=
  fnd_of (k := 1) h.d_are_near_in sc_are_near_in g_are_near_in fun cdv A outer s H E S0 pw fns Φ hr hg hh hp hn => by
    have k := wk_def (G := G) (outer := outer) (H := H) (E := E) (S0 := S0) (pw := pw) (fns := fns) hr hg (by decide +kernel : namesOk N_are_near_in = true) sc_are_near_in.nd
    have q0 := hn rfl
    exact ds_one (ds_ret (de_cmp (op_le' k.t) (de_callB (call_sum' k.t) rfl h.m_sum b_sum (da_cons (deFn k (ok_apart_in h) rfl rfl h.g_apart_in h.d_apart_in.kp (b_apart_in h) (da_cons (dv (i := 0) k rfl rfl) (da_cons (dv (i := 1) k rfl rfl) (da_nil)))) (da_nil))) (deGI rfl h.c_MOST_STEPS)))
theorem ok__law_box (h : Wd G.mg G.K q) : FnD G 2 0 (He.ga G.K "_law_box") (q 15) P__law_box true S__law_box :=
  fnd_of (k := 1) h.d__law_box sc__law_box g__law_box fun cdv A outer s H E S0 pw fns Φ hr hg hh hp hn => by
    have k := wk_def (G := G) (outer := outer) (H := H) (E := E) (S0 := S0) (pw := pw) (fns := fns) hr hg (by decide +kernel : namesOk N__law_box = true) sc__law_box.nd
    have q1 := hp rfl
    exact ds_cons (ds_asg (de_callB (call_sorted' k.t) rfl h.m_sorted b_sorted (da_cons (de_lst (da_cons (deFnS k q1 (ok__law_deal h) rfl rfl h.g__law_deal h.d__law_deal.kp (b__law_deal h) rfl rfl (da_cons (de_int) (da_nil))) (da_cons (deFnS k q1 (ok__law_deal h) rfl rfl h.g__law_deal h.d__law_deal.kp (b__law_deal h) rfl rfl (da_cons (de_int) (da_nil))) (da_nil)))) (da_nil))) (dg_tup (n := 2) k.t (dg_cons (dgn (i := 1) k (.inr (by decide)) rfl rfl) (dg_cons (dgn (i := 2) k (.inr (by decide)) rfl rfl) (dg_nil))))) (ds_cons (ds_asg (de_callB (call_sorted' k.t) rfl h.m_sorted b_sorted (da_cons (de_lst (da_cons (deFnS k q1 (ok__law_deal h) rfl rfl h.g__law_deal h.d__law_deal.kp (b__law_deal h) rfl rfl (da_cons (de_int) (da_nil))) (da_cons (deFnS k q1 (ok__law_deal h) rfl rfl h.g__law_deal h.d__law_deal.kp (b__law_deal h) rfl rfl (da_cons (de_int) (da_nil))) (da_nil)))) (da_nil))) (dg_tup (n := 2) k.t (dg_cons (dgn (i := 3) k (.inr (by decide)) rfl rfl) (dg_cons (dgn (i := 4) k (.inr (by decide)) rfl rfl) (dg_nil))))) (ds_one (ds_ret (de_tup (da_cons (dv (i := 1) k rfl rfl) (da_cons (dv (i := 3) k rfl rfl) (da_cons (dv (i := 2) k rfl rfl) (da_cons (dv (i := 4) k rfl rfl) (da_nil)))))))))
theorem ok_is_box_form (h : Wd G.mg G.K q) : FnD G 3 0 (He.ga G.K "is_box_form") (q 3) P_is_box_form false S_is_box_form :=
  fnd_of (k := 2) h.d_is_box_form sc_is_box_form g_is_box_form fun cdv A outer s H E S0 pw fns Φ hr hg hh hp hn => by
    have k := wk_def (G := G) (outer := outer) (H := H) (E := E) (S0 := S0) (pw := pw) (fns := fns) hr hg (by decide +kernel : namesOk N_is_box_form = true) sc_is_box_form.nd
    have q0 := hn rfl
    exact ds_cons (ds_if (dt_w (dw_or (dt_not (dt_val (deFn k (ok_is_tuple_of h) rfl rfl h.g_is_tuple_of h.d_is_tuple_of.kp (b_is_tuple_of h) (da_cons (dv (i := 0) k rfl rfl) (da_cons (de_int) (da_nil)))))) (dw_or1 (dt_not (dt_val (de_callB (call_all' k.t) rfl h.m_all b_all (da_cons (deLc (own := [("each", 1)]) k (.inl q0) (by decide) (di_list k.t (dv (i := 0) k rfl rfl)) (by kernel_rfl) (fun _ _ _ _ _ => dgn (i := 1) (k.blk) (.inl q0) rfl rfl) (fun _ _ _ _ _ => dp_nil) (fun _ _ _ _ _ => deFn (k.blk) (ok_is_number h) rfl rfl h.g_is_number h.d_is_number.kp (b_is_number h) (da_cons (dv (i := 1) (k.blk) rfl rfl) (da_cons (de_int) (da_cons (deGI rfl h.c_LAST_PLACE) (da_nil)))))) (da_nil)))))))) (ds_one (ds_ret (de_bl))) (ds_nil)) (ds_one (ds_ret (de_and (de_cmp (op_le' k.t) (de_ix (ix' k.t) (dv (i := 0) k rfl rfl) (de_int)) (de_ix (ix' k.t) (dv (i := 0) k rfl rfl) (de_int))) (de_one (de_cmp (op_le' k.t) (de_ix (ix' k.t) (dv (i := 0) k rfl rfl) (de_int)) (de_ix (ix' k.t) (dv (i := 0) k rfl rfl) (de_int)))))))
theorem ok_check_box (h : Wd G.mg G.K q) : FnD G 4 0 (He.ga G.K "check_box") (q 4) P_check_box false S_check_box :=
  fnd_of (k := 3) h.d_check_box sc_check_box g_check_box fun cdv A outer s H E S0 pw fns Φ hr hg hh hp hn => by
    have k := wk_def (G := G) (outer := outer) (H := H) (E := E) (S0 := S0) (pw := pw) (fns := fns) hr hg (by decide +kernel : namesOk N_check_box = true) sc_check_box.nd
    have q0 := hn rfl
    exact ds_one (ds_if (dt_not (dt_val (deFn k (ok_is_box_form h) rfl rfl h.g_is_box_form h.d_is_box_form.kp (b_is_box_form h) (da_cons (dv (i := 0) k rfl rfl) (da_nil))))) (ds_one (ds_never)) (ds_nil))
theorem ok_check_boxes (h : Wd G.mg G.K q) : FnD G 5 0 (He.ga G.K "check_boxes") (q 9) P_check_boxes false S_check_boxes :=
  fnd_of (k := 4) h.d_check_boxes sc_check_boxes g_check_boxes fun cdv A outer s H E S0 pw fns Φ hr hg hh hp hn => by
    have k := wk_def (G := G) (outer := outer) (H := H) (E := E) (S0 := S0) (pw := pw) (fns := fns) hr hg (by decide +kernel : namesOk N_check_boxes = true) sc_check_boxes.nd
    have q0 := hn rfl
    exact ds_cons (ds_expr (deFn k (ok_check_box h) rfl rfl h.g_check_box h.d_check_box.kp (b_check_box h) (da_cons (dv (i := 0) k rfl rfl) (da_nil)))) (ds_one (ds_expr (deFn k (ok_check_box h) rfl rfl h.g_check_box h.d_check_box.kp (b_check_box h) (da_cons (dv (i := 1) k rfl rfl) (da_nil)))))
theorem ok_half_rim (h : Wd G.mg G.K q) : FnD G 5 0 (He.ga G.K "half_rim") (q 12) P_half_rim false S_half_rim :=
  fnd_of (k := 4) h.d_half_rim sc_half_rim g_half_rim fun cdv A outer s H E S0 pw fns Φ hr hg hh hp hn => by
    have k := wk_def (G := G) (outer := outer) (H := H) (E := E) (S0 := S0) (pw := pw) (fns := fns) hr hg (by decide +kernel : namesOk N_half_rim = true) sc_half_rim.nd
    have q0 := hn rfl
    exact ds_cons (ds_expr (deFn k (ok_check_box h) rfl rfl h.g_check_box h.d_check_box.kp (b_check_box h) (da_cons (dv (i := 0) k rfl rfl) (da_nil)))) (ds_one (ds_ret (deFn k (ok_half_rim_of h) rfl rfl h.g_half_rim_of h.d_half_rim_of.kp (b_half_rim_of h) (da_cons (dv (i := 0) k rfl rfl) (da_nil)))))
theorem ok_are_near (h : Wd G.mg G.K q) : FnD G 6 0 (He.ga G.K "are_near") (q 10) P_are_near false S_are_near :=
  fnd_of (k := 5) h.d_are_near sc_are_near g_are_near fun cdv A outer s H E S0 pw fns Φ hr hg hh hp hn => by
    have k := wk_def (G := G) (outer := outer) (H := H) (E := E) (S0 := S0) (pw := pw) (fns := fns) hr hg (by decide +kernel : namesOk N_are_near = true) sc_are_near.nd
    have q0 := hn rfl
    exact ds_cons (ds_expr (deFn k (ok_check_boxes h) rfl rfl h.g_check_boxes h.d_check_boxes.kp (b_check_boxes h) (da_cons (dv (i := 0) k rfl rfl) (da_cons (dv (i := 1) k rfl rfl) (da_nil))))) (ds_one (ds_ret (deFn k (ok_are_near_in h) rfl rfl h.g_are_near_in h.d_are_near_in.kp (b_are_near_in h) (da_cons (dv (i := 0) k rfl rfl) (da_cons (dv (i := 1) k rfl rfl) (da_nil))))))
theorem ok_box_with (h : Wd G.mg G.K q) : FnD G 6 0 (He.ga G.K "box_with") (q 11) P_box_with false S_box_with :=
  fnd_of (k := 5) h.d_box_with sc_box_with g_box_with fun cdv A outer s H E S0 pw fns Φ hr hg hh hp hn => by
    have k := wk_def (G := G) (outer := outer) (H := H) (E := E) (S0 := S0) (pw := pw) (fns := fns) hr hg (by decide +kernel : namesOk N_box_with = true) sc_box_with.nd
    have q0 := hn rfl
    exact ds_cons (ds_expr (deFn k (ok_check_boxes h) rfl rfl h.g_check_boxes h.d_check_boxes.kp (b_check_boxes h) (da_cons (dv (i := 0) k rfl rfl) (da_cons (dv (i := 1) k rfl rfl) (da_nil))))) (ds_one (ds_ret (deFn k (ok_both_of h) rfl rfl h.g_both_of h.d_both_of.kp (b_both_of h) (da_cons (dv (i := 0) k rfl rfl) (da_cons (dv (i := 1) k rfl rfl) (da_nil))))))
theorem ok__law_right (h : Wd G.mg G.K q) : FnD G 7 0 (He.ga G.K "_law_right") (q 18) P__law_right true S__law_right :=
  fnd_of (k := 6) h.d__law_right sc__law_right g__law_right fun cdv A outer s H E S0 pw fns Φ hr hg hh hp hn => by
    have k := wk_def (G := G) (outer := outer) (H := H) (E := E) (S0 := S0) (pw := pw) (fns := fns) hr hg (by decide +kernel : namesOk N__law_right = true) sc__law_right.nd
    have q1 := hp rfl
    have pso : PassesOwn (model G.P G.w) _ _ _ := passes_of (X := cxOf (L2.CX G.P G.w) G.P G.w G.K G.mg G.base N__law_right "_law_right" (defScope (top 28)) (He.ga G.K "_law_right") cdv A outer s H E) rfl
    exact ds_cons (ds_for pso k.t (di_rng1 rfl h.m_range (da_cons (de_int) (da_nil))) (fun _ => dgn (i := 1) (k.hide) (.inr (by decide)) rfl rfl) (fun _ => ds_cons (ds_asg (de_tup (da_cons (deFnS (k.hide) q1 (ok__law_box h) rfl rfl h.g__law_box h.d__law_box.kp (b__law_box h) rfl rfl (da_nil)) (da_cons (deFnS (k.hide) q1 (ok__law_box h) rfl rfl h.g__law_box h.d__law_box.kp (b__law_box h) rfl rfl (da_nil)) (da_nil)))) (dg_tup (n := 2) (k.hide).t (dg_cons (dgn (i := 2) (k.hide) (.inr (by decide)) rfl rfl) (dg_cons (dgn (i := 3) (k.hide) (.inr (by decide)) rfl rfl) (dg_nil))))) (ds_cons (ds_asg (de_callB (call_min' (k.hide).t) rfl h.m_min b_min (da_cons (deLc (own := [("a", 8), ("b", 9)]) (k.hide) (.inr rfl) (by decide) (di_list (k.hide).t (deFn (k.hide) (ok__law_in_box h) rfl rfl h.g__law_in_box h.d__law_in_box.kp (b__law_in_box h) (da_cons (dv (i := 2) (k.hide) rfl rfl) (da_nil)))) (by kernel_rfl) (fun _ _ _ _ _ => dg_tup (n := 2) ((k.hide).blk).t (dg_cons (dgn (i := 8) ((k.hide).blk) (.inr (by decide)) rfl rfl) (dg_cons (dgn (i := 9) ((k.hide).blk) (.inr (by decide)) rfl rfl) (dg_nil)))) (fun _ _ _ _ _ => dp_nil) (fun _ _ _ _ _ => de_callB (call_min' ((k.hide).blk).t) rfl h.m_min b_min (da_cons (deLc (own := [("c", 10), ("d", 11)]) ((k.hide).blk) (.inr rfl) (by decide) (di_list ((k.hide).blk).t (deFn ((k.hide).blk) (ok__law_in_box h) rfl rfl h.g__law_in_box h.d__law_in_box.kp (b__law_in_box h) (da_cons (dv (i := 3) ((k.hide).blk) rfl rfl) (da_nil)))) (by kernel_rfl) (fun _ _ _ _ _ => dg_tup (n := 2) (((k.hide).blk).blk).t (dg_cons (dgn (i := 10) (((k.hide).blk).blk) (.inr (by decide)) rfl rfl) (dg_cons (dgn (i := 11) (((k.hide).blk).blk) (.inr (by decide)) rfl rfl) (dg_nil)))) (fun _ _ _ _ _ => dp_nil) (fun _ _ _ _ _ => de_op (op_add' (((k.hide).blk).blk).t) (de_callB call_abs' rfl h.m_abs b_abs (da_cons (de_op op_sub' (dv (i := 8) (((k.hide).blk).blk) rfl rfl) (dv (i := 10) (((k.hide).blk).blk) rfl rfl)) (da_nil))) (de_callB call_abs' rfl h.m_abs b_abs (da_cons (de_op op_sub' (dv (i := 9) (((k.hide).blk).blk) rfl rfl) (dv (i := 11) (((k.hide).blk).blk) rfl rfl)) (da_nil))))) (da_nil)))) (da_nil))) (dgn (i := 4) (k.hide) (.inr (by decide)) rfl rfl)) (ds_cons (ds_asg (de_lst (da_cons (de_cmp (op_lt' (k.hide).t) (dv (i := 4) (k.hide) rfl rfl) (de_int)) (da_cons (deFn (k.hide) (ok__law_box_with h) rfl rfl h.g__law_box_with h.d__law_box_with.kp (b__law_box_with h) (da_cons (dv (i := 2) (k.hide) rfl rfl) (da_cons (dv (i := 3) (k.hide) rfl rfl) (da_nil)))) (da_cons (de_op (op_add' (k.hide).t) (de_op op_sub' (de_op (op_add' (k.hide).t) (de_op op_sub' (de_ix (ix' (k.hide).t) (dv (i := 2) (k.hide) rfl rfl) (de_int)) (de_ix (ix' (k.hide).t) (dv (i := 2) (k.hide) rfl rfl) (de_int))) (de_ix (ix' (k.hide).t) (dv (i := 2) (k.hide) rfl rfl) (de_int))) (de_ix (ix' (k.hide).t) (dv (i := 2) (k.hide) rfl rfl) (de_int))) (de_int)) (da_nil))))) (dgn (i := 5) (k.hide) (.inr (by decide)) rfl rfl)) (ds_cons (ds_asg (de_lst (da_cons (deFn (k.hide) (ok_are_near h) rfl rfl h.g_are_near h.d_are_near.kp (b_are_near h) (da_cons (dv (i := 2) (k.hide) rfl rfl) (da_cons (dv (i := 3) (k.hide) rfl rfl) (da_nil)))) (da_cons (deFn (k.hide) (ok_box_with h) rfl rfl h.g_box_with h.d_box_with.kp (b_box_with h) (da_cons (dv (i := 2) (k.hide) rfl rfl) (da_cons (dv (i := 3) (k.hide) rfl rfl) (da_nil)))) (da_cons (deFn (k.hide) (ok_half_rim h) rfl rfl h.g_half_rim h.d_half_rim.kp (b_half_rim h) (da_cons (dv (i := 2) (k.hide) rfl rfl) (da_nil))) (da_nil))))) (dgn (i := 6) (k.hide) (.inr (by decide)) rfl rfl)) (ds_cons (ds_asg (de_lst (da_cons (deFnK (ks := ["box2", "box"]) (k.hide) (ok_are_near h) rfl rfl h.g_are_near h.d_are_near.kp (kb_are_near_1_0 h) (dk_cons (dv (i := 3) (k.hide) rfl rfl) (dk_cons (dv (i := 2) (k.hide) rfl rfl) (dk_nil)))) (da_cons (deFnK (ks := ["box2", "box"]) (k.hide) (ok_box_with h) rfl rfl h.g_box_with h.d_box_with.kp (kb_box_with_1_0 h) (dk_cons (dv (i := 3) (k.hide) rfl rfl) (dk_cons (dv (i := 2) (k.hide) rfl rfl) (dk_nil)))) (da_cons (deFnK (ks := ["box"]) (k.hide) (ok_half_rim h) rfl rfl h.g_half_rim h.d_half_rim.kp (kb_half_rim_0 h) (dk_cons (dv (i := 2) (k.hide) rfl rfl) (dk_nil))) (da_nil))))) (dgn (i := 7) (k.hide) (.inr (by decide)) rfl rfl)) (ds_cons (ds_if (dt_w (dw_or (dt_cmp (op_ne' (k.hide).t) (de_callB (call_repr' (k.hide).t) rfl h.m_repr b_repr (da_cons (de_lst (da_cons (dv (i := 6) (k.hide) rfl rfl) (da_cons (dv (i := 7) (k.hide) rfl rfl) (da_nil)))) (da_nil))) (de_callB (call_repr' (k.hide).t) rfl h.m_repr b_repr (da_cons (de_lst (da_cons (dv (i := 5) (k.hide) rfl rfl) (da_cons (dv (i := 5) (k.hide) rfl rfl) (da_nil)))) (da_nil)))) (dw_or (dt_cmp (op_ne' (k.hide).t) (deFn (k.hide) (ok_are_near h) rfl rfl h.g_are_near h.d_are_near.kp (b_are_near h) (da_cons (dv (i := 3) (k.hide) rfl rfl) (da_cons (dv (i := 2) (k.hide) rfl rfl) (da_nil)))) (de_ix (ix' (k.hide).t) (dv (i := 5) (k.hide) rfl rfl) (de_int))) (dw_or1 (dt_cmp (op_ne' (k.hide).t) (deFn (k.hide) (ok_box_with h) rfl rfl h.g_box_with h.d_box_with.kp (b_box_with h) (da_cons (dv (i := 3) (k.hide) rfl rfl) (da_cons (dv (i := 2) (k.hide) rfl rfl) (da_nil)))) (de_ix (ix' (k.hide).t) (dv (i := 5) (k.hide) rfl rfl) (de_int))))))) (ds_one (ds_ret (de_bl))) (ds_nil)) (ds_one (ds_if (dt_w (dw_and (dt_val (de_ix (ix' (k.hide).t) (dv (i := 5) (k.hide) rfl rfl) (de_int))) (dw_and1 (dt_cmp (op_gt' (k.hide).t) (deFn (k.hide) (ok_half_rim h) rfl rfl h.g_half_rim h.d_half_rim.kp (b_half_rim h) (da_cons (de_ix (ix' (k.hide).t) (dv (i := 5) (k.hide) rfl rfl) (de_int)) (da_nil))) (de_op (op_add' (k.hide).t) (deFn (k.hide) (ok_half_rim h) rfl rfl h.g_half_rim h.d_half_rim.kp (b_half_rim h) (da_cons (dv (i := 2) (k.hide) rfl rfl) (da_nil))) (deFn (k.hide) (ok_half_rim h) rfl rfl h.g_half_rim h.d_half_rim.kp (b_half_rim h) (da_cons (dv (i := 3) (k.hide) rfl rfl) (da_nil)))))))) (ds_one (ds_ret (de_bl))) (ds_nil)))))))))) (ds_one (ds_ret (de_bl)))
theorem ok_law (h : Wd G.mg G.K q) : FnD G 8 0 (He.ga G.K "law") (q 19) P_law false S_law :=
  fnd_of (k := 7) h.d_law sc_law g_law fun cdv A outer s H E S0 pw fns Φ hr hg hh hp hn => by
    have k := wk_def (G := G) (outer := outer) (H := H) (E := E) (S0 := S0) (pw := pw) (fns := fns) hr hg (by decide +kernel : namesOk N_law = true) sc_law.nd
    have q0 := hn rfl
    exact ds_one (ds_ret (de_callB (call_all' k.t) rfl h.m_all b_all (da_cons (deLc (own := [("turn", 1)]) k (.inl q0) (by decide) (di_rng1 rfl h.m_range (da_cons (de_callB (call_max' k.t) rfl h.m_max b_max (da_cons (de_int) (da_cons (de_callB (call_min' k.t) rfl h.m_min b_min (da_cons (de_callB (call_len' k.t) rfl h.m_len b_len (da_cons (dv (i := 0) k rfl rfl) (da_nil))) (da_cons (de_int) (da_nil)))) (da_nil)))) (da_nil))) (by kernel_rfl) (fun _ _ _ _ _ => dgn (i := 1) (k.blk) (.inl q0) rfl rfl) (fun _ _ _ _ _ => dp_nil) (fun _ _ _ _ _ => deFnF (k.blk) (ok__law_right h) rfl rfl h.g__law_right h.d__law_right.kp (b__law_right h) (da_cons (deFn (k.blk) (ok__law_pail h) rfl rfl h.g__law_pail h.d__law_pail.kp (b__law_pail h) (da_cons (dv (i := 0) (k.blk) rfl rfl) (da_cons (dv (i := 1) (k.blk) rfl rfl) (da_nil)))) (da_nil)))) (da_nil))))
end
def hNames_0 : List PySem.Str := ["DampError", "InvalidBox", "is_whole", "is_number", "is_tuple_of", "LAST_PLACE", "is_box_form", "check_box", "MOST_STEPS", "apart_in", "are_near_in", "both_of", "half_rim_of", "check_boxes", "are_near", "box_with", "half_rim", "_law_pail", "_law_deal", "_law_box", "_law_box_with", "_law_in_box", "_law_right"]
def hNames : List PySem.Str := hNames_0
def hFacts_0 : List He.Fa := [.glo "is_whole", .glo "is_number", .glo "is_tuple_of", .glo "is_box_form", .glo "check_box", .glo "apart_in", .glo "are_near_in", .glo "both_of", .glo "half_rim_of", .glo "check_boxes", .glo "are_near", .glo "box_with", .glo "half_rim", .glo "_law_pail", .glo "_law_deal", .glo "_law_box", .glo "_law_box_with", .glo "_law_in_box", .glo "_law_right", .glo "law", .free "abs", .free "all", .free "bool", .free "divmod", .free "int", .free "isinstance", .free "len", .free "max", .free "min", .free "range"]
def hFacts_1 : List He.Fa := [.free "repr", .free "sorted", .free "sum", .free "tuple", .int "LAST_PLACE" 5, .int "MOST_STEPS" 2]
def hFacts : List He.Fa := hFacts_0 ++ hFacts_1
def hDefs_0 : List He.DefD := [⟨("is_whole", none), "is_whole", "is_whole", defArgs (top 4), defBody (top 4), defScope (top 4), [], []⟩, ⟨("is_number", none), "is_number", "is_number", defArgs (top 5), defBody (top 5), defScope (top 5), [], []⟩, ⟨("is_tuple_of", none), "is_tuple_of", "is_tuple_of", defArgs (top 6), defBody (top 6), defScope (top 6), [], []⟩, ⟨("is_box_form", none), "is_box_form", "is_box_form", defArgs (top 9), defBody (top 9), defScope (top 9), [], []⟩, ⟨("check_box", none), "check_box", "check_box", defArgs (top 10), defBody (top 10), defScope (top 10), [], []⟩, ⟨("apart_in", none), "apart_in", "apart_in", defArgs (top 13), defBody (top 13), defScope (top 13), [], []⟩, ⟨("are_near_in", none), "are_near_in", "are_near_in", defArgs (top 14), defBody (top 14), defScope (top 14), [], []⟩, ⟨("both_of", none), "both_of", "both_of", defArgs (top 15), defBody (top 15), defScope (top 15), [], []⟩, ⟨("half_rim_of", none), "half_rim_of", "half_rim_of", defArgs (top 16), defBody (top 16), defScope (top 16), [], []⟩, ⟨("check_boxes", none), "check_boxes", "check_boxes", defArgs (top 18), defBody (top 18), defScope (top 18), [], []⟩, ⟨("are_near", none), "are_near", "are_near", defArgs (top 19), defBody (top 19), defScope (top 19), [], []⟩, ⟨("box_with", none), "box_with", "box_with", defArgs (top 20), defBody (top 20), defScope (top 20), [], []⟩, ⟨("half_rim", none), "half_rim", "half_rim", defArgs (top 21), defBody (top 21), defScope (top 21), [], []⟩, ⟨("_law_pail", none), "_law_pail", "_law_pail", defArgs (top 23), defBody (top 23), defScope (top 23), [], []⟩, ⟨("_law_deal", none), "_law_deal", "_law_deal", defArgs (top 24), defBody (top 24), defScope (top 24), [], []⟩, ⟨("_law_box", none), "_law_box", "_law_box", defArgs (top 25), defBody (top 25), defScope (top 25), [], []⟩, ⟨("_law_box_with", none), "_law_box_with", "_law_box_with", defArgs (top 26), defBody (top 26), defScope (top 26), [], []⟩, ⟨("_law_in_box", none), "_law_in_box", "_law_in_box", defArgs (top 27), defBody (top 27), defScope (top 27), [], []⟩, ⟨("_law_right", none), "_law_right", "_law_right", defArgs (top 28), defBody (top 28), defScope (top 28), [], []⟩, ⟨("law", none), "law", "law", defArgs (top 29), defBody (top 29), defScope (top 29), [], []⟩]
def hDefs : List He.DefD := hDefs_0
abbrev hRow : PySem.W.OpenRow := PySem.W.OpenLaw.row PySem.Challenge.rw_damptiles_k40_whole_two_boxes
abbrev hHook : PySem.W.Hook := He.hookX 4 hFacts hDefs [] [] noList
def hOb (s : PySem.W.SharedT) : He.AlX := He.obsX 4 hFacts hDefs [] [] noList (HandSHeadRun.getT s)
theorem hOb_eq (s : PySem.W.SharedT) : hOb s = hHook.obs s.abs := He.obsX_eq (HandSHeadRun.getT_eq s)
theorem hRun (w : World) : HandSHeadRun.RunEq hRow (PySem.W.view hRow.prog [29]) hHook hOb 2200 hNames w := fun os => by
  kernel_rfl
theorem wd_of {mg : PySem.Str → Option Value} {K : PySem.W.Frag} {h : Heap} (X : K.In h) (N : h.Ns mainGlobals mg) (c : He.SaysD hFacts hDefs K) : ∃ q, Wd mg K q := by
  obtain ⟨fd0, F0⟩ := c.def_ 0 (d := ⟨("is_whole", none), "is_whole", "is_whole", defArgs (top 4), defBody (top 4), defScope (top 4), [], []⟩) rfl
  obtain ⟨fd1, F1⟩ := c.def_ 1 (d := ⟨("is_number", none), "is_number", "is_number", defArgs (top 5), defBody (top 5), defScope (top 5), [], []⟩) rfl
  obtain ⟨fd2, F2⟩ := c.def_ 2 (d := ⟨("is_tuple_of", none), "is_tuple_of", "is_tuple_of", defArgs (top 6), defBody (top 6), defScope (top 6), [], []⟩) rfl
  obtain ⟨fd3, F3⟩ := c.def_ 3 (d := ⟨("is_box_form", none), "is_box_form", "is_box_form", defArgs (top 9), defBody (top 9), defScope (top 9), [], []⟩) rfl
  obtain ⟨fd4, F4⟩ := c.def_ 4 (d := ⟨("check_box", none), "check_box", "check_box", defArgs (top 10), defBody (top 10), defScope (top 10), [], []⟩) rfl
  obtain ⟨fd5, F5⟩ := c.def_ 5 (d := ⟨("apart_in", none), "apart_in", "apart_in", defArgs (top 13), defBody (top 13), defScope (top 13), [], []⟩) rfl
  obtain ⟨fd6, F6⟩ := c.def_ 6 (d := ⟨("are_near_in", none), "are_near_in", "are_near_in", defArgs (top 14), defBody (top 14), defScope (top 14), [], []⟩) rfl
  obtain ⟨fd7, F7⟩ := c.def_ 7 (d := ⟨("both_of", none), "both_of", "both_of", defArgs (top 15), defBody (top 15), defScope (top 15), [], []⟩) rfl
  obtain ⟨fd8, F8⟩ := c.def_ 8 (d := ⟨("half_rim_of", none), "half_rim_of", "half_rim_of", defArgs (top 16), defBody (top 16), defScope (top 16), [], []⟩) rfl
  obtain ⟨fd9, F9⟩ := c.def_ 9 (d := ⟨("check_boxes", none), "check_boxes", "check_boxes", defArgs (top 18), defBody (top 18), defScope (top 18), [], []⟩) rfl
  obtain ⟨fd10, F10⟩ := c.def_ 10 (d := ⟨("are_near", none), "are_near", "are_near", defArgs (top 19), defBody (top 19), defScope (top 19), [], []⟩) rfl
  obtain ⟨fd11, F11⟩ := c.def_ 11 (d := ⟨("box_with", none), "box_with", "box_with", defArgs (top 20), defBody (top 20), defScope (top 20), [], []⟩) rfl
  obtain ⟨fd12, F12⟩ := c.def_ 12 (d := ⟨("half_rim", none), "half_rim", "half_rim", defArgs (top 21), defBody (top 21), defScope (top 21), [], []⟩) rfl
  obtain ⟨fd13, F13⟩ := c.def_ 13 (d := ⟨("_law_pail", none), "_law_pail", "_law_pail", defArgs (top 23), defBody (top 23), defScope (top 23), [], []⟩) rfl
  obtain ⟨fd14, F14⟩ := c.def_ 14 (d := ⟨("_law_deal", none), "_law_deal", "_law_deal", defArgs (top 24), defBody (top 24), defScope (top 24), [], []⟩) rfl
  obtain ⟨fd15, F15⟩ := c.def_ 15 (d := ⟨("_law_box", none), "_law_box", "_law_box", defArgs (top 25), defBody (top 25), defScope (top 25), [], []⟩) rfl
  obtain ⟨fd16, F16⟩ := c.def_ 16 (d := ⟨("_law_box_with", none), "_law_box_with", "_law_box_with", defArgs (top 26), defBody (top 26), defScope (top 26), [], []⟩) rfl
  obtain ⟨fd17, F17⟩ := c.def_ 17 (d := ⟨("_law_in_box", none), "_law_in_box", "_law_in_box", defArgs (top 27), defBody (top 27), defScope (top 27), [], []⟩) rfl
  obtain ⟨fd18, F18⟩ := c.def_ 18 (d := ⟨("_law_right", none), "_law_right", "_law_right", defArgs (top 28), defBody (top 28), defScope (top 28), [], []⟩) rfl
  obtain ⟨fd19, F19⟩ := c.def_ 19 (d := ⟨("law", none), "law", "law", defArgs (top 29), defBody (top 29), defScope (top 29), [], []⟩) rfl
  refine ⟨fun i => [fd0, fd1, fd2, fd3, fd4, fd5, fd6, fd7, fd8, fd9, fd10, fd11, fd12, fd13, fd14, fd15, fd16, fd17, fd18, fd19].getD i fd0, ?_⟩
  exact {
    m_abs := He.free_ok X N (c.fact 20 (f := .free "abs") rfl)
    m_all := He.free_ok X N (c.fact 21 (f := .free "all") rfl)
    m_bool := He.free_ok X N (c.fact 22 (f := .free "bool") rfl)
    m_divmod := He.free_ok X N (c.fact 23 (f := .free "divmod") rfl)
    m_int := He.free_ok X N (c.fact 24 (f := .free "int") rfl)
    m_isinstance := He.free_ok X N (c.fact 25 (f := .free "isinstance") rfl)
    m_len := He.free_ok X N (c.fact 26 (f := .free "len") rfl)
    m_max := He.free_ok X N (c.fact 27 (f := .free "max") rfl)
    m_min := He.free_ok X N (c.fact 28 (f := .free "min") rfl)
    m_range := He.free_ok X N (c.fact 29 (f := .free "range") rfl)
    m_repr := He.free_ok X N (c.fact 30 (f := .free "repr") rfl)
    m_sorted := He.free_ok X N (c.fact 31 (f := .free "sorted") rfl)
    m_sum := He.free_ok X N (c.fact 32 (f := .free "sum") rfl)
    m_tuple := He.free_ok X N (c.fact 33 (f := .free "tuple") rfl)
    c_LAST_PLACE := He.int_ok X N (c.fact 34 (f := .int "LAST_PLACE" 5) rfl)
    c_MOST_STEPS := He.int_ok X N (c.fact 35 (f := .int "MOST_STEPS" 2) rfl)
    g_is_whole := He.glo_ok X N (c.fact 0 (f := .glo "is_whole") rfl)
    d_is_whole := F0
    g_is_number := He.glo_ok X N (c.fact 1 (f := .glo "is_number") rfl)
    d_is_number := F1
    g_is_tuple_of := He.glo_ok X N (c.fact 2 (f := .glo "is_tuple_of") rfl)
    d_is_tuple_of := F2
    g_is_box_form := He.glo_ok X N (c.fact 3 (f := .glo "is_box_form") rfl)
    d_is_box_form := F3
    g_check_box := He.glo_ok X N (c.fact 4 (f := .glo "check_box") rfl)
    d_check_box := F4
    g_apart_in := He.glo_ok X N (c.fact 5 (f := .glo "apart_in") rfl)
    d_apart_in := F5
    g_are_near_in := He.glo_ok X N (c.fact 6 (f := .glo "are_near_in") rfl)
    d_are_near_in := F6
    g_both_of := He.glo_ok X N (c.fact 7 (f := .glo "both_of") rfl)
    d_both_of := F7
    g_half_rim_of := He.glo_ok X N (c.fact 8 (f := .glo "half_rim_of") rfl)
    d_half_rim_of := F8
    g_check_boxes := He.glo_ok X N (c.fact 9 (f := .glo "check_boxes") rfl)
    d_check_boxes := F9
    g_are_near := He.glo_ok X N (c.fact 10 (f := .glo "are_near") rfl)
    d_are_near := F10
    g_box_with := He.glo_ok X N (c.fact 11 (f := .glo "box_with") rfl)
    d_box_with := F11
    g_half_rim := He.glo_ok X N (c.fact 12 (f := .glo "half_rim") rfl)
    d_half_rim := F12
    g__law_pail := He.glo_ok X N (c.fact 13 (f := .glo "_law_pail") rfl)
    d__law_pail := F13
    g__law_deal := He.glo_ok X N (c.fact 14 (f := .glo "_law_deal") rfl)
    d__law_deal := F14
    g__law_box := He.glo_ok X N (c.fact 15 (f := .glo "_law_box") rfl)
    d__law_box := F15
    g__law_box_with := He.glo_ok X N (c.fact 16 (f := .glo "_law_box_with") rfl)
    d__law_box_with := F16
    g__law_in_box := He.glo_ok X N (c.fact 17 (f := .glo "_law_in_box") rfl)
    d__law_in_box := F17
    g__law_right := He.glo_ok X N (c.fact 18 (f := .glo "_law_right") rfl)
    d__law_right := F18
    g_law := He.glo_ok X N (c.fact 19 (f := .glo "law") rfl)
    d_law := F19
  }

theorem law_says {w : World} {mg : PySem.Str → Option Value} {K : PySem.W.Frag} {h : Heap} (X : K.In h) (N : h.Ns mainGlobals mg) (c : He.SaysD hFacts hDefs K) (m : noList K = true) : DL.LawOk hRow.prog w K mg 8 :=
  let ⟨q, W⟩ := wd_of X N c
  DL.lawOk_of (fd := q 19) m W.g_law (fun base bi bn => ok_law (G := ⟨hRow.prog, w, K, mg, base, [], fun _ => .none, fun _ _ _ _ => False⟩) W) (fun s u => FunD.bindsA (ps := P_law) W.d_law (fun _ _ _ _ _ _ us hl => match us, hl with | [_], _ => rfl) s [u] rfl) fun zs => p_law zs
end Dk40
open PySem PySem.W PySem.Calls PyProof.Rows

theorem PySem.Challenge.cw_damptiles_k40_whole_two_boxes_holds : PySem.Challenge.rw_damptiles_k40_whole_two_boxes.Holds := by
  w_on; o_law
  refine HandSHeadRun.head_any (r := PySem.W.OpenLaw.row PySem.Challenge.rw_damptiles_k40_whole_two_boxes) (q := PySem.W.view (PySem.W.OpenLaw.row PySem.Challenge.rw_damptiles_k40_whole_two_boxes).prog [29]) (H := Dk40.hHook) (ob := Dk40.hOb) (M := 2200) (loose := Dk40.hNames) (d := HandSHeadRun.topDef (PySem.W.OpenLaw.row PySem.Challenge.rw_damptiles_k40_whole_two_boxes).prog 29) (kwd := []) Dk40.hOb_eq
    (by kernel_rfl) (fun s => by kernel_rfl) Dk40.hRun (by kernel_rfl) (by kernel_rfl) (by kernel_rfl) (by rfl) (by first | assumption | decide +kernel) (by decide +kernel) ⟨rfl, rfl, rfl, rfl, rfl, by decide +kernel⟩ ?hw ?hc
  case hw => w_witness2
  case hc =>
    exact DL.law_walk (l := PySem.Challenge.rw_damptiles_k40_whole_two_boxes) (n := 63) (k := 8) rfl (by decide) (by kernel_rfl) (by kernel_rfl) ⟨rfl, by decide, by decide⟩ (fun w mg K h X N c => Dk40.law_says (w := w) X N c.t.d c.more)
