import PyProof.Rows.All
import Wide.All
import OpenK.AllK
import Wide.FinOn
import HandS.ForMost
import HandS.ForExc
import HandS.Flow
import HandS.Nested
import HandS.IsInst
import HandS.TryMany
import HandS.Conv
import HandS.Deep
import HandS.CallSlots
import HandS.CallLocal
import KE.KDictKeyed
import HandS.TupAny
import HandS.TupMul
import HandS.Wide
import KE.DataCmp
import PyProof.P3In
import PyProof.ReprRoads
import KE.SortData
import KE.DataMinMax
import HandS.Flt
import PyProof.Rows.RowBridgeK
import HandS.ExcSuper
import HandS.Lambda
import HandS.Defaults
import HandS.NoneIn
import PyProof.Rows.SortWalk
import HandS.EndBits
import HandS.EndTab
import HandS.Head0
import HandS.Head1
import HandS.Head2
import HandS.HeadHook4
import HandS.Style
import PyProof.ReprBulk
import KE.GoesMore
import KE.GoesEnum
import PyProof.EnumMake
import HandS.Iter
import HandS.Zip
import HandS.DictComp
import HandS.DictTup
import KE.SortKeyHeap
import KE.KSortKey
import HandS.SortKw
import PySem.Challenge.RW_damptiles_k31_whole_drier_floors
set_option Elab.async false
set_option linter.all false
set_option maxRecDepth 100000
set_option maxHeartbeats 4000000
namespace DL
open PySem PySem.Spec PyProof.Rows L2

abbrev D := PyData

/-! ### what stands for data -/
/-- a dict whose keys are tuples (nested), its entries: key, where its tuple stands, value -/
def DNφ (P : Program) (w : World) (a : Addr) (xs : List (NestedKey × Addr × V)) : Heap → Prop := fun h =>
  ∃ (o : Obj) (es : Array DictEntry) (ep : Nat) (ys : List (NestedKey × Addr × Value)), h.get? a = some o ∧ o.ExactDict ∧ o.data = .dict es ep ∧
    es.toList = ys.map (entryOfKey (nestedKind P w)) ∧ Paired (fun (x : NestedKey × Addr × V) (y : NestedKey × Addr × Value) => x.1 = y.1 ∧ x.2.1 = y.2.1 ∧ RelV x.2.2 y.2.2) xs ys ∧
    (xs.map (·.1)).Nodup ∧ (a == sysModules) = false ∧ xs.length ≤ sizeLine
def DN (P : Program) (w : World) (a : Addr) (xs : List (NestedKey × Addr × V)) : HO := .ext (DNφ P w a xs)

mutual
/-- a key as data -/
def keyD : NestedKey → D
  | .none => .none
  | .num i => .int i
  | .text x => .str x
  | .tup ks => .tuple (keyDs ks)
def keyDs : List NestedKey → List D
  | [] => []
  | k :: ks => keyD k :: keyDs ks
end

section
variable (P : Program) (w : World) (K : PySem.W.Frag) (H : Hp)
mutual
/-- v is the data d; its lists and dicts stand at addresses that S lets -/
inductive Rp (S : Addr → Prop) : V → D → Prop
  | non : Rp S .non .none
  | bl (b : Bool) : Rp S (.bl b) (.bool b)
  | int (i : Int) : Rp S (.int i) (.int i)
  | str (x : Str) : Rp S (.str x) (.str x)
  | tup {a : Addr} {vs : List V} {ds : List D} : SqT K H a vs → Rps S vs ds → Rp S (.ref a) (.tuple ds)
  | lst {a : Addr} {vs : List V} {ds : List D} : S a → Rd H a (.lst vs) → Rps S vs ds → Rp S (.ref a) (.list ds)
  | dct {a : Addr} {xs : List (NestedKey × Addr × V)} {kvs : List (D × D)} : S a → Rd H a (DN P w a xs) → Rpk S xs kvs → Rp S (.ref a) (.dict kvs)
inductive Rps (S : Addr → Prop) : List V → List D → Prop
  | nil : Rps S [] []
  | cons {v : V} {vs : List V} {d : D} {ds : List D} : Rp S v d → Rps S vs ds → Rps S (v :: vs) (d :: ds)
inductive Rpk (S : Addr → Prop) : List (NestedKey × Addr × V) → List (D × D) → Prop
  | nil : Rpk S [] []
  | cons {k : NestedKey} {b : Addr} {v : V} {xs : List (NestedKey × Addr × V)} {d : D} {kvs : List (D × D)} : Rp S (.ref b) (keyD k) → k.depth ≤ 8 → Rp S v d → Rpk S xs kvs → Rpk S ((k, b, v) :: xs) ((keyD k, d) :: kvs)
end
end

section
variable {P : Program} {w : World} {K : PySem.W.Frag} {H H' : Hp} {S S' : Addr → Prop}
/-- what Rp leans on is kept -/
structure Kept (S : Addr → Prop) (H H' : Hp) : Prop where
  tup : ∀ a vs, Rd H a (.tup vs) → Rd H' a (.tup vs)
  lst : ∀ a vs, S a → Rd H a (.lst vs) → Rd H' a (.lst vs)
  dct : ∀ P w a xs, S a → Rd H a (DN P w a xs) → Rd H' a (DN P w a xs)
theorem sqT_kept (k : Kept S H H') {a : Addr} {vs : List V} (h : SqT K H a vs) : SqT K H' a vs := h.elim (fun h => .inl (k.tup _ _ h)) .inr
mutual
theorem Rp.mono (k : Kept S H H') (hS : ∀ a, S a → S' a) : ∀ {v : V} {d : D}, Rp P w K H S v d → Rp P w K H' S' v d
  | _, _, .non => .non
  | _, _, .bl b => .bl b
  | _, _, .int i => .int i
  | _, _, .str x => .str x
  | _, _, .tup h r => .tup (sqT_kept k h) (Rps.mono k hS r)
  | _, _, .lst s h r => .lst (hS _ s) (k.lst _ _ s h) (Rps.mono k hS r)
  | _, _, .dct s h r => .dct (hS _ s) (k.dct _ _ _ _ s h) (Rpk.mono k hS r)
theorem Rps.mono (k : Kept S H H') (hS : ∀ a, S a → S' a) : ∀ {vs : List V} {ds : List D}, Rps P w K H S vs ds → Rps P w K H' S' vs ds
  | _, _, .nil => .nil
  | _, _, .cons h r => .cons (Rp.mono k hS h) (Rps.mono k hS r)
theorem Rpk.mono (k : Kept S H H') (hS : ∀ a, S a → S' a) : ∀ {xs : List (NestedKey × Addr × V)} {kvs : List (D × D)}, Rpk P w K H S xs kvs → Rpk P w K H' S' xs kvs
  | _, _, .nil => .nil
  | _, _, .cons h n h' r => .cons (Rp.mono k hS h) n (Rp.mono k hS h') (Rpk.mono k hS r)
end
theorem Kept.refl : Kept S H H := ⟨fun _ _ h => h, fun _ _ _ h => h, fun _ _ _ _ _ h => h⟩
mutual
/-- an address that holds nothing is not in it -/
theorem Rp.avoid {p : Addr} (hp : H p = none) : ∀ {v : V} {d : D}, Rp P w K H S v d → Rp P w K H (fun a => S a ∧ a ≠ p) v d
  | _, _, .non => .non
  | _, _, .bl b => .bl b
  | _, _, .int i => .int i
  | _, _, .str x => .str x
  | _, _, .tup h r => .tup h (Rps.avoid hp r)
  | _, _, .lst s h r => .lst ⟨s, fun e => by subst e; rcases h with h | ⟨o, h⟩ <;> rw [hp] at h <;> cases h⟩ h (Rps.avoid hp r)
  | _, _, .dct s h r => .dct ⟨s, fun e => by subst e; rcases h with h | ⟨o, h⟩ <;> rw [hp] at h <;> cases h⟩ h (Rpk.avoid hp r)
theorem Rps.avoid {p : Addr} (hp : H p = none) : ∀ {vs : List V} {ds : List D}, Rps P w K H S vs ds → Rps P w K H (fun a => S a ∧ a ≠ p) vs ds
  | _, _, .nil => .nil
  | _, _, .cons h r => .cons (Rp.avoid hp h) (Rps.avoid hp r)
theorem Rpk.avoid {p : Addr} (hp : H p = none) : ∀ {xs : List (NestedKey × Addr × V)} {kvs : List (D × D)}, Rpk P w K H S xs kvs → Rpk P w K H (fun a => S a ∧ a ≠ p) xs kvs
  | _, _, .nil => .nil
  | _, _, .cons h n h' r => .cons (Rp.avoid hp h) n (Rp.avoid hp h') (Rpk.avoid hp r)
end
theorem Rps.length : ∀ {vs : List V} {ds : List D}, Rps P w K H S vs ds → vs.length = ds.length
  | _, _, .nil => rfl
  | _, _, .cons _ r => by rw [List.length_cons, List.length_cons, Rps.length r]
theorem Rps.get : ∀ {vs : List V} {ds : List D} {i : Nat} {v : V}, Rps P w K H S vs ds → vs[i]? = some v → ∃ d, ds[i]? = some d ∧ Rp P w K H S v d
  | _, _, _, _, .nil, e => by simp at e
  | _, _, 0, _, .cons h _, e => by simp at e; subst e; exact ⟨_, rfl, h⟩
  | _, _, i + 1, v, .cons _ r, e => by
    obtain ⟨d, e', h⟩ := Rps.get (i := i) r (by simpa using e)
    exact ⟨d, by simpa using e', h⟩
theorem Rps.getD : ∀ {vs : List V} {ds : List D} {i : Nat} {d : D}, Rps P w K H S vs ds → ds[i]? = some d → ∃ v, vs[i]? = some v ∧ Rp P w K H S v d
  | _, _, _, _, .nil, e => by simp at e
  | _, _, 0, _, .cons h _, e => by simp at e; subst e; exact ⟨_, rfl, h⟩
  | _, _, i + 1, v, .cons _ r, e => by
    obtain ⟨d, e', h⟩ := Rps.getD (i := i) r (by simpa using e)
    exact ⟨d, by simpa using e', h⟩
theorem Rps.append : ∀ {vs us : List V} {ds es : List D}, Rps P w K H S vs ds → Rps P w K H S us es → Rps P w K H S (vs ++ us) (ds ++ es)
  | _, _, _, _, .nil, s => s
  | _, _, _, _, .cons h r, s => .cons h (Rps.append r s)
mutual
/-- data without lists and dicts -/
def pure? : D → Bool
  | .list _ => false
  | .dict _ => false
  | .tuple ds => pures? ds
  | _ => true
def pures? : List D → Bool
  | [] => true
  | d :: ds => pure? d && pures? ds
end
mutual
theorem Rp.pure : ∀ {v : V} {d : D}, Rp P w K H S v d → pure? d = true → Rp P w K H S' v d
  | _, _, .non, _ => .non
  | _, _, .bl b, _ => .bl b
  | _, _, .int i, _ => .int i
  | _, _, .str x, _ => .str x
  | _, _, .tup h r, e => .tup h (Rps.pure r (by unfold pure? at e; exact e))
  | _, _, .lst s h r, e => by unfold pure? at e; cases e
  | _, _, .dct s h r, e => by unfold pure? at e; cases e
theorem Rps.pure : ∀ {vs : List V} {ds : List D}, Rps P w K H S vs ds → pures? ds = true → Rps P w K H S' vs ds
  | _, _, .nil, _ => .nil
  | _, _, .cons h r, e => by
    unfold pures? at e
    have e := Bool.and_eq_true_iff.mp e
    exact .cons (Rp.pure h e.1) (Rps.pure r e.2)
end
mutual
/-- no dict in it -/
def flatD : D → Bool
  | .list ds => flatDs ds
  | .tuple ds => flatDs ds
  | .dict _ => false
  | _ => true
def flatDs : List D → Bool
  | [] => true
  | d :: ds => flatD d && flatDs ds
end
mutual
theorem Rp.dp : ∀ {v : V} {d : D}, Rp P w K H S v d → flatD d = true → Dp K H v d
  | _, _, .non, _ => .non
  | _, _, .bl b, _ => .bl b
  | _, _, .int i, _ => .int i
  | _, _, .str x, _ => .str x
  | _, _, .tup h r, e => .tup h (Rps.dp r (by unfold flatD at e; exact e))
  | _, _, .lst s h r, e => .lst (.inl h) (Rps.dp r (by unfold flatD at e; exact e))
  | _, _, .dct s h r, e => by unfold flatD at e; cases e
theorem Rps.dp : ∀ {vs : List V} {ds : List D}, Rps P w K H S vs ds → flatDs ds = true → DpAll K H vs ds
  | _, _, .nil, _ => .nil
  | _, _, .cons h r, e => by
    unfold flatDs at e
    have e := Bool.and_eq_true_iff.mp e
    exact .cons (Rp.dp h e.1) (Rps.dp r e.2)
end
end

/-! ### results, names, what runs -/
/-- a value: frozen, just made, or a name's own (lent) -/
inductive RV where
  | fz (d : D) | ow (d : D) | bw (d : D)
def RV.d : RV → D
  | .fz d => d | .ow d => d | .bw d => d
/-- what a name holds: data that stays, data of its own, a function that was handed over -/
inductive EV where
  | fz (d : D) | ow (d : D) | fn (k : Nat)
  /-- a dict that is locked: it is walked -/
  | lk (kvs : List (D × D))
inductive Res (α : Type) where
  | ok (a : α) | exc (c : Nat) (d : D) | err
def Res.bind {α β : Type} (r : Res α) (f : α → Res β) : Res β := match r with
  | .ok a => f a
  | .exc c d => .exc c d
  | .err => .err
abbrev DEnv := List (Option EV)
abbrev Ex := DEnv → List Int → Res (RV × List Int)
abbrev Tx := DEnv → List Int → Res (Bool × List Int)
abbrev Ax := DEnv → List Int → Res (List RV × List Int)
inductive Out where
  | nx (ρ : DEnv) (w : List Int) | rt (r : RV) (w : List Int) | bk (ρ : DEnv) (w : List Int) | ct (ρ : DEnv) (w : List Int) | exc (c : Nat) (d : D) | err
abbrev Sx := DEnv → List Int → Out

/-- what stays the same through a def's run -/
structure Cn where
  P : Program
  w : World
  K : PySem.W.Frag
  /-- the heap at the entry, the addresses that the arguments may stand at -/
  H0 : Hp
  S0 : Addr → Prop
  /-- the state's list, the place of its name -/
  pw : Option Addr
  pi : Nat
  /-- dicts that are walked -/
  lk : List (Addr × Obj × HO)
  /-- what a loop walks -/
  hid : List (V × D)
  /-- functions that were handed over -/
  fns : List Addr
  T : List NdefX.NTab
  /-- the class with a number -/
  cls : Nat → Value
  /-- which exceptions of it may come -/
  pay : Nat → Option Addr → D → Hp → Prop

/-- all that stands stays, but for the state's list and the tables -/
structure Grow (pw : Option Addr) (H H' : Hp) : Prop where
  keep : ∀ a o, H a = some o → (∀ ps, o ≠ .tbl ps) → pw ≠ some a → H' a = some o
  nn : ∀ a, H' a = none → H a = none
theorem Grow.refl {pw : Option Addr} {H : Hp} : Grow pw H H := ⟨fun _ _ h _ _ => h, fun _ h => h⟩
theorem Grow.trans {pw : Option Addr} {H H1 H2 : Hp} (a : Grow pw H H1) (b : Grow pw H1 H2) : Grow pw H H2 :=
  ⟨fun c o h n q => b.keep c o (a.keep c o h n q) n q, fun c h => a.nn c (b.nn c h)⟩
theorem Grow.new {pw : Option Addr} {H : Hp} {p : Addr} {o : HO} (hp : H p = none) : Grow pw H (upd H p o) :=
  ⟨fun a u h _ _ => by rw [upd_ne (ne_of_none h hp)]; exact h, fun a h => by
    by_cases e : a = p
    · rw [e]; exact hp
    · rw [upd_ne e] at h; exact h⟩
theorem DN_tbl {P : Program} {w : World} {a : Addr} {xs : List (NestedKey × Addr × V)} (ps : Array Value) : DN P w a xs ≠ .tbl ps := fun z => by unfold DN at z; cases z
theorem Grow.kept {pw : Option Addr} {H H' : Hp} {S : Addr → Prop} (g : Grow pw H H') (hS : ∀ p, pw = some p → ¬ S p ∧ ∃ xs, H p = some (.lst xs)) : Kept S H H' := by
  have ne : ∀ a, S a → pw ≠ some a := fun a s e => (hS a e).1 s
  refine ⟨fun a vs h => ?_, fun a vs s h => ?_, fun P w a xs s h => ?_⟩
  · rcases h with h | ⟨o, h⟩
    · refine .inl (g.keep _ _ h (fun _ z => nomatch z) fun e => ?_)
      obtain ⟨_, xs, q⟩ := hS a e
      rw [h] at q; cases q
    · refine .inr ⟨o, g.keep _ _ h (fun _ z => nomatch z) fun e => ?_⟩
      obtain ⟨_, xs, q⟩ := hS a e
      rw [h] at q; cases q
  · rcases h with h | ⟨o, h⟩
    · exact .inl (g.keep _ _ h (fun _ z => nomatch z) (ne a s))
    · exact .inr ⟨o, g.keep _ _ h (fun _ z => nomatch z) (ne a s)⟩
  · rcases h with h | ⟨o, h⟩
    · exact .inl (g.keep _ _ h (fun ps => DN_tbl ps) (ne a s))
    · exact .inr ⟨o, g.keep _ _ h (fun _ z => nomatch z) (ne a s)⟩

/-- a thing of one's own at p: a list or a dict, what is in it frozen -/
inductive Own (P : Program) (w : World) (K : PySem.W.Frag) (H : Hp) (S : Addr → Prop) (p : Addr) : D → Prop
  | lst {vs : List V} {ds : List D} : H p = some (.lst vs) → Rps P w K H S vs ds → Own P w K H S p (.list ds)
  | dct {xs : List (NestedKey × Addr × V)} {kvs : List (D × D)} : H p = some (DN P w p xs) → Rpk P w K H S xs kvs → Own P w K H S p (.dict kvs)
theorem Own.rp {P : Program} {w : World} {K : PySem.W.Frag} {H : Hp} {S S' : Addr → Prop} {p : Addr} {d : D} (h : Own P w K H S p d) (hS : ∀ a, S a → S' a) (hp : S' p) : Rp P w K H S' (.ref p) d := by
  cases h with
  | lst e r => exact .lst hp (.inl e) (r.mono .refl hS)
  | dct e r => exact .dct hp (.inl e) (r.mono .refl hS)
theorem Own.mono {P : Program} {w : World} {K : PySem.W.Frag} {H : Hp} {S S' : Addr → Prop} {p : Addr} {d : D} (h : Own P w K H S p d) (hS : ∀ a, S a → S' a) : Own P w K H S' p d := by
  cases h with
  | lst e r => exact .lst e (r.mono .refl hS)
  | dct e r => exact .dct e (r.mono .refl hS)
theorem Own.ne {P : Program} {w : World} {K : PySem.W.Frag} {H : Hp} {S : Addr → Prop} {p : Addr} {d : D} (h : Own P w K H S p d) : H p ≠ none := by
  cases h with
  | lst e r => rw [e]; exact fun z => nomatch z
  | dct e r => rw [e]; exact fun z => nomatch z
theorem Own.grow {P : Program} {w : World} {K : PySem.W.Frag} {H H' : Hp} {S : Addr → Prop} {p : Addr} {d : D} {pw : Option Addr} (h : Own P w K H S p d) (g : Grow pw H H') (hS : ∀ p, pw = some p → ¬ S p ∧ ∃ xs, H p = some (.lst xs)) (hp : pw ≠ some p) : Own P w K H' S p d := by
  cases h with
  | lst e r => exact .lst (g.keep _ _ e (fun _ z => nomatch z) hp) (r.mono (g.kept hS) fun _ z => z)
  | dct e r => exact .dct (g.keep _ _ e (fun ps => DN_tbl ps) hp) (r.mono (g.kept hS) fun _ z => z)

/-- the state's list holds w -/
def StOk (C : Cn) (w : List Int) (H : Hp) : Prop := ∀ p, C.pw = some p → H p = some (.lst (w.map V.int))

def EvOk (C : Cn) (H : Hp) (S : Addr → Prop) (v : V) : EV → Prop
  | .fz d => Rp C.P C.w C.K H S v d
  | .ow d => ∃ p, v = .ref p ∧ Own C.P C.w C.K H S p d ∧ C.H0 p = none ∧ ¬ S p ∧ C.pw ≠ some p
  | .fn k => ∃ f, v = .ref f ∧ C.fns[k]? = some f
  | .lk kvs => ∃ a o xs, v = .ref a ∧ S a ∧ (a, o, DN C.P C.w a xs) ∈ C.lk ∧ Rpk C.P C.w C.K H S xs kvs
def RvOk (C : Cn) (H H' : Hp) (S : Addr → Prop) (v : V) : RV → Prop
  | .fz d => Rp C.P C.w C.K H' S v d
  | .ow d => ∃ p, v = .ref p ∧ Own C.P C.w C.K H' (fun a => S a ∧ a ≠ p) p d ∧ H p = none
  | .bw d => ∃ p, v = .ref p ∧ Own C.P C.w C.K H' S p d ∧ C.pw ≠ some p ∧ C.H0 p = none ∧ ¬ S p

structure EnvOk (C : Cn) (ρ : DEnv) (w : List Int) (S : Addr → Prop) (σ : L2.St) (H : Hp) : Prop where
  len : σ.length = ρ.length
  val : ∀ (i : Nat) (e : EV), ρ[i]? = some (some e) → ∃ v, σ[i]? = some (some v) ∧ EvOk C H S v e
  apart : ∀ (i j : Nat) (d e : D) (p : Addr), ρ[i]? = some (some (.ow d)) → ρ[j]? = some (some (.ow e)) → σ[i]? = some (some (.ref p)) → σ[j]? = some (some (.ref p)) → i = j
  sN : ∀ a, H a = none → S a
  sB : ∀ a, S a → C.S0 a ∨ C.H0 a = none
  st : StOk C w H
  sW : ∀ p, C.pw = some p → ¬ S p
  gk : ∀ a o, C.H0 a = some o → (∀ ps, o ≠ .tbl ps) → C.pw ≠ some a → (a ∉ C.lk.map (fun p => p.1) → H a = some o) ∧ (a ∈ C.lk.map (fun p => p.1) → H a = some o ∨ ∃ ob, H a = some (.frz ob o))
  gn : ∀ a, H a = none → C.H0 a = none
  tb : NdefX.TabsN C.T H
  sl : ∀ p, C.pw = some p → σ[C.pi]? = some (some (.ref p)) ∧ ρ[C.pi]? = some none
  hi : ∀ v d, (v, d) ∈ C.hid → Rp C.P C.w C.K H S v d
  lo : ∀ p, p ∈ C.lk → H p.1 = some (.frz p.2.1 p.2.2)

section
variable {C : Cn} {ρ : DEnv} {w w' : List Int} {S : Addr → Prop} {σ : L2.St} {H H' H1 : Hp}
theorem EnvOk.pS (E : EnvOk C ρ w S σ H) : ∀ p, C.pw = some p → ¬ S p ∧ ∃ xs, H p = some (.lst xs) := fun p e => ⟨E.sW p e, _, E.st p e⟩
theorem EnvOk.kept (E : EnvOk C ρ w S σ H) (g : Grow C.pw H H') : Kept S H H' := g.kept E.pS
theorem EvOk.grow {v : V} {e : EV} (E : EnvOk C ρ w S σ H) (g : Grow C.pw H H') (h : EvOk C H S v e) : EvOk C H' S v e := by
  cases e with
  | fz d => exact Rp.mono (E.kept g) (fun _ z => z) h
  | ow d =>
    obtain ⟨p, e, o, n, s, q⟩ := h
    exact ⟨p, e, o.grow g E.pS q, n, s, q⟩
  | fn k => exact h
  | lk kvs =>
    obtain ⟨a, o, xs, e, s, f, r⟩ := h
    exact ⟨a, o, xs, e, s, f, r.mono (E.kept g) fun _ z => z⟩
theorem EnvOk.grow (E : EnvOk C ρ w S σ H) (g : Grow C.pw H H') (st : StOk C w' H') (tb : NdefX.TabsN C.T H') : EnvOk C ρ w' S σ H' where
  len := E.len
  val := fun i e h => let ⟨v, a, b⟩ := E.val i e h; ⟨v, a, b.grow E g⟩
  apart := E.apart
  sN := fun a h => E.sN a (g.nn a h)
  sB := E.sB
  st := st
  sW := E.sW
  gk := fun a o h n q => ⟨fun l => g.keep _ _ ((E.gk a o h n q).1 l) n q, fun l => by
    rcases (E.gk a o h n q).2 l with z | ⟨ob, z⟩
    · exact .inl (g.keep _ _ z n q)
    · exact .inr ⟨ob, g.keep _ _ z (fun _ z => nomatch z) q⟩⟩
  gn := fun a h => E.gn a (g.nn a h)
  tb := tb
  sl := E.sl
  hi := fun v d m => Rp.mono (E.kept g) (fun _ z => z) (E.hi v d m)
  lo := fun p m => g.keep _ _ (E.lo p m) (fun _ z => nomatch z) fun z => by have := E.st _ z; rw [E.lo p m] at this; cases this
/-- a value that was reckoned lies behind further reckoning -/
theorem RvOk.grow {v : V} {r : RV} (E : EnvOk C ρ w S σ H) (E1 : EnvOk C ρ w' S σ H1) (g : Grow C.pw H1 H') (h : RvOk C H H1 S v r) : RvOk C H H' S v r := by
  cases r with
  | fz d => exact Rp.mono (E1.kept g) (fun _ z => z) h
  | ow d =>
    obtain ⟨p, e, o, n⟩ := h
    refine ⟨p, e, o.grow g (fun q e => ⟨fun z => (E1.pS q e).1 z.1, (E1.pS q e).2⟩) (fun q => ?_), n⟩
    have := E.st p q
    rw [n] at this; cases this
  | bw d =>
    obtain ⟨p, e, o, q, n⟩ := h
    exact ⟨p, e, o.grow g E1.pS q, q, n⟩
/-- as a value that stays: not for one that is lent -/
theorem RvOk.rp {v : V} {r : RV} (E : EnvOk C ρ w S σ H) (h : RvOk C H H' S v r) (nb : ∀ d, r ≠ .bw d) : Rp C.P C.w C.K H' S v r.d := by
  cases r with
  | fz d => exact h
  | ow d =>
    obtain ⟨p, e, o, n⟩ := h
    subst e
    exact o.rp (fun _ z => z.1) (E.sN p n)
  | bw d => exact absurd rfl (nb d)
/-- to be read -/
theorem RvOk.rpT {v : V} {r : RV} (h : RvOk C H H' S v r) : Rp C.P C.w C.K H' (fun _ => True) v r.d := by
  cases r with
  | fz d => exact Rp.mono .refl (fun _ _ => trivial) h
  | ow d =>
    obtain ⟨p, e, o, n⟩ := h
    subst e
    exact o.rp (fun _ _ => trivial) trivial
  | bw d =>
    obtain ⟨p, e, o, _⟩ := h
    subst e
    exact o.rp (fun _ _ => trivial) trivial
/-- from an earlier heap -/
theorem RvOk.back {H0 : Hp} {v : V} {r : RV} (g : Grow C.pw H0 H) (h : RvOk C H H' S v r) : RvOk C H0 H' S v r := by
  cases r with
  | fz d => exact h
  | ow d => obtain ⟨p, e, o, n⟩ := h; exact ⟨p, e, o, g.nn p n⟩
  | bw d => exact h
end

/-! ### the judgements -/
/-- how an exception lies -/
def ExOk (C : Cn) (H : Hp) (c : Nat) (d : D) (W : WX) (σ : L2.St) : Prop := ∀ (H' : Hp) (da : Option Addr) (w' : List Int), Grow C.pw H H' → StOk C w' H' → NdefX.TabsN C.T H' → C.pay c da d H' → W (C.cls c) da σ H'
/-- an expression's reading: it reckons f -/
def eT (C : Cn) (W : WX) (f : Ex) : TE := fun σ H Q => ∃ ρ w S, EnvOk C ρ w S σ H ∧ match f ρ w with
  | .ok (r, w') => ∀ v H', Grow C.pw H H' → StOk C w' H' → NdefX.TabsN C.T H' → RvOk C H H' S v r → Q v H'
  | .exc c d => ExOk C H c d W σ
  | .err => False
def tT (C : Cn) (W : WX) (f : Tx) : TT := fun σ H Q => ∃ ρ w S, EnvOk C ρ w S σ H ∧ match f ρ w with
  | .ok (b, w') => ∀ H', Grow C.pw H H' → StOk C w' H' → NdefX.TabsN C.T H' → Q b H'
  | .exc c d => ExOk C H c d W σ
  | .err => False
inductive RvsOk (C : Cn) (H H' : Hp) (S : Addr → Prop) : List V → List RV → Prop
  | nil : RvsOk C H H' S [] []
  | cons {v : V} {r : RV} {vs : List V} {rs : List RV} : RvOk C H H' S v r → RvsOk C H H' S vs rs → RvsOk C H H' S (v :: vs) (r :: rs)
def aT (C : Cn) (W : WX) (f : Ax) : TA := fun σ H Q => ∃ ρ w S, EnvOk C ρ w S σ H ∧ match f ρ w with
  | .ok (rs, w') => ∀ vs H', Grow C.pw H H' → StOk C w' H' → NdefX.TabsN C.T H' → RvsOk C H H' S vs rs → Q vs H'
  | .exc c d => ExOk C H c d W σ
  | .err => False
abbrev DE (X : Cx) (C : Cn) (W : WX) (e : Expr) (f : Ex) : Prop := PE X e (eT C W f)
abbrev DT (X : Cx) (C : Cn) (W : WX) (e : Expr) (f : Tx) : Prop := PT X e (tT C W f)
abbrev DW (X : Cx) (C : Cn) (W : WX) (e : Expr) (f : Tx) : Prop := PW X e (tT C W f)
abbrev DA (X : Cx) (C : Cn) (W : WX) (es : List Expr) (f : Ax) : Prop := PA X es (aT C W f)
theorem pe_imp {X : Cx} {e : Expr} {t t' : TE} (h : PE X e t) (i : ∀ σ H Q, t' σ H Q → t σ H Q) : PE X e t' := ⟨fun pins s σ H Q I q => h.run pins s σ H Q I (i σ H Q q)⟩
theorem pt_imp {X : Cx} {e : Expr} {t t' : TT} (h : PT X e t) (i : ∀ σ H Q, t' σ H Q → t σ H Q) : PT X e t' := ⟨fun pins s σ H Q I q => h.run pins s σ H Q I (i σ H Q q)⟩
theorem pw_imp {X : Cx} {e : Expr} {t t' : TT} (h : PW X e t) (i : ∀ σ H Q, t' σ H Q → t σ H Q) : PW X e t' := ⟨fun wh pins s σ H Q I q => h.run wh pins s σ H Q I (i σ H Q q)⟩
theorem pa_imp {X : Cx} {e : List Expr} {t t' : TA} (h : PA X e t) (i : ∀ σ H Q, t' σ H Q → t σ H Q) : PA X e t' := ⟨fun pos pins s σ H Q I q => h.run pos pins s σ H Q I (i σ H Q q)⟩
theorem ps_imp {X : Cx} {e : Stmt} {t t' : TS} (h : PS X e t) (i : ∀ σ H Q, t' Q σ H → t Q σ H) : PS X e t' := ⟨fun pins s σ H Q I q => h.run pins s σ H Q I (i σ H Q q)⟩
theorem pss_imp {X : Cx} {e : List Stmt} {t t' : TS} (h : PSs X e t) (i : ∀ σ H Q, t' Q σ H → t Q σ H) : PSs X e t' := ⟨fun pins s σ H Q I q => h.run pins s σ H Q I (i σ H Q q)⟩
end DL
namespace DL
open PySem PySem.Spec PyProof.Rows L2

/-! ### endings -/
def Good {α : Type} (C : Cn) (W : WX) (σ : L2.St) (H : Hp) (R : Res α) (P : α → Prop) : Prop := match R with
  | .ok a => P a
  | .exc c d => ExOk C H c d W σ
  | .err => False
theorem Good.imp {α : Type} {C : Cn} {W : WX} {σ : L2.St} {H : Hp} {R : Res α} {P P' : α → Prop} (h : Good C W σ H R P) (i : ∀ a, P a → P' a) : Good C W σ H R P' := by
  cases R with
  | ok a => exact i a h
  | exc c d => exact h
  | err => exact h
theorem Good.bind {α β : Type} {C : Cn} {W : WX} {σ : L2.St} {H : Hp} {R : Res α} {f : α → Res β} {P : β → Prop} (h : Good C W σ H (R.bind f) P) : Good C W σ H R (fun a => Good C W σ H (f a) P) := by
  cases R with
  | ok a => exact h
  | exc c d => exact h
  | err => exact h
/-- how far the heap may go: the state's list holds w' -/
structure Pst (C : Cn) (H H' : Hp) (w' : List Int) : Prop where
  g : Grow C.pw H H'
  st : StOk C w' H'
  tb : NdefX.TabsN C.T H'
theorem EnvOk.go {C : Cn} {ρ : DEnv} {w w' : List Int} {S : Addr → Prop} {σ : L2.St} {H H' : Hp} (E : EnvOk C ρ w S σ H) (p : Pst C H H' w') : EnvOk C ρ w' S σ H' := E.grow p.g p.st p.tb
theorem EnvOk.rf {C : Cn} {ρ : DEnv} {w : List Int} {S : Addr → Prop} {σ : L2.St} {H : Hp} (E : EnvOk C ρ w S σ H) : Pst C H H w := ⟨.refl, E.st, E.tb⟩
theorem ExOk.go {C : Cn} {W : WX} {σ : L2.St} {H H1 : Hp} {w1 : List Int} {c : Nat} {d : D} (p : Pst C H H1 w1) (h : ExOk C H c d W σ) : ExOk C H1 c d W σ := fun H' da w' g st tb q => h H' da w' (p.g.trans g) st tb q
theorem Good.go {α : Type} {C : Cn} {W : WX} {σ : L2.St} {H H1 : Hp} {w1 : List Int} {R : Res α} {P : α → Prop} (p : Pst C H H1 w1) (h : Good C W σ H R P) : Good C W σ H1 R P := by
  cases R with
  | ok a => exact h
  | exc c d => exact ExOk.go p h
  | err => exact h
theorem Pst.trans {C : Cn} {H H1 H2 : Hp} {w1 w2 : List Int} (a : Pst C H H1 w1) (b : Pst C H1 H2 w2) : Pst C H H2 w2 := ⟨a.g.trans b.g, b.st, b.tb⟩
theorem eT_of {C : Cn} {W : WX} {f : Ex} {ρ : DEnv} {w : List Int} {S : Addr → Prop} {σ : L2.St} {H H0 : Hp} {Q : VK} (E : EnvOk C ρ w S σ H) (pg : Pst C H0 H w) (h : Good C W σ H0 (f ρ w) fun p => ∀ v H', Pst C H H' p.2 → RvOk C H H' S v p.1 → Q v H') : eT C W f σ H Q := by
  refine ⟨ρ, w, S, E, ?_⟩
  replace h := Good.go pg h
  revert h
  cases f ρ w with
  | ok p => exact fun h v H' a b c d => h v H' ⟨a, b, c⟩ d
  | exc c d => exact fun h => h
  | err => exact fun h => h
theorem eT_to {C : Cn} {W : WX} {f : Ex} {σ : L2.St} {H : Hp} {Q : VK} (h : eT C W f σ H Q) : ∃ ρ w S, EnvOk C ρ w S σ H ∧ Good C W σ H (f ρ w) fun p => ∀ v H', Pst C H H' p.2 → RvOk C H H' S v p.1 → Q v H' := by
  obtain ⟨ρ, w, S, E, h⟩ := h
  refine ⟨ρ, w, S, E, ?_⟩
  revert h
  cases f ρ w with
  | ok p => exact fun h v H' a d => h v H' a.g a.st a.tb d
  | exc c d => exact fun h => h
  | err => exact fun h => h
theorem tT_of {C : Cn} {W : WX} {f : Tx} {ρ : DEnv} {w : List Int} {S : Addr → Prop} {σ : L2.St} {H H0 : Hp} {Q : Bool → Hp → Prop} (E : EnvOk C ρ w S σ H) (pg : Pst C H0 H w) (h : Good C W σ H0 (f ρ w) fun p => ∀ H', Pst C H H' p.2 → Q p.1 H') : tT C W f σ H Q := by
  refine ⟨ρ, w, S, E, ?_⟩
  replace h := Good.go pg h
  revert h
  cases f ρ w with
  | ok p => exact fun h H' a b c => h H' ⟨a, b, c⟩
  | exc c d => exact fun h => h
  | err => exact fun h => h
theorem tT_to {C : Cn} {W : WX} {f : Tx} {σ : L2.St} {H : Hp} {Q : Bool → Hp → Prop} (h : tT C W f σ H Q) : ∃ ρ w S, EnvOk C ρ w S σ H ∧ Good C W σ H (f ρ w) fun p => ∀ H', Pst C H H' p.2 → Q p.1 H' := by
  obtain ⟨ρ, w, S, E, h⟩ := h
  refine ⟨ρ, w, S, E, ?_⟩
  revert h
  cases f ρ w with
  | ok p => exact fun h H' a => h H' a.g a.st a.tb
  | exc c d => exact fun h => h
  | err => exact fun h => h
theorem aT_of {C : Cn} {W : WX} {f : Ax} {ρ : DEnv} {w : List Int} {S : Addr → Prop} {σ : L2.St} {H H0 : Hp} {Q : List V → Hp → Prop} (E : EnvOk C ρ w S σ H) (pg : Pst C H0 H w) (h : Good C W σ H0 (f ρ w) fun p => ∀ v H', Pst C H H' p.2 → RvsOk C H H' S v p.1 → Q v H') : aT C W f σ H Q := by
  refine ⟨ρ, w, S, E, ?_⟩
  replace h := Good.go pg h
  revert h
  cases f ρ w with
  | ok p => exact fun h v H' a b c d => h v H' ⟨a, b, c⟩ d
  | exc c d => exact fun h => h
  | err => exact fun h => h
theorem aT_to {C : Cn} {W : WX} {f : Ax} {σ : L2.St} {H : Hp} {Q : List V → Hp → Prop} (h : aT C W f σ H Q) : ∃ ρ w S, EnvOk C ρ w S σ H ∧ Good C W σ H (f ρ w) fun p => ∀ v H', Pst C H H' p.2 → RvsOk C H H' S v p.1 → Q v H' := by
  obtain ⟨ρ, w, S, E, h⟩ := h
  refine ⟨ρ, w, S, E, ?_⟩
  revert h
  cases f ρ w with
  | ok p => exact fun h v H' a d => h v H' a.g a.st a.tb d
  | exc c d => exact fun h => h
  | err => exact fun h => h

/-! ### what a rule of the library makes: nothing that stands is changed -/
structure Ext (H H' : Hp) : Prop where
  keep : ∀ a o, H a = some o → H' a = some o
  nn : ∀ a, H' a = none → H a = none
theorem Ext.refl {H : Hp} : Ext H H := ⟨fun _ _ h => h, fun _ h => h⟩
theorem Ext.new {H : Hp} {p : Addr} {o : HO} (hp : H p = none) : Ext H (upd H p o) :=
  ⟨fun a u h => by rw [upd_ne (ne_of_none h hp)]; exact h, fun a h => by
    by_cases e : a = p
    · rw [e]; exact hp
    · rw [upd_ne e] at h; exact h⟩
theorem Ext.kept {H H' : Hp} {S : Addr → Prop} (e : Ext H H') : Kept S H H' := by
  have rd : ∀ a u, Rd H a u → Rd H' a u := fun a u h => h.elim (fun h => .inl (e.keep _ _ h)) fun ⟨o, h⟩ => .inr ⟨o, e.keep _ _ h⟩
  exact ⟨fun a vs h => rd _ _ h, fun a vs _ h => rd _ _ h, fun P w a xs _ h => rd _ _ h⟩
theorem Ext.pst {C : Cn} {ρ : DEnv} {w : List Int} {S : Addr → Prop} {σ : L2.St} {H H' : Hp} (e : Ext H H') (E : EnvOk C ρ w S σ H) : Pst C H H' w :=
  ⟨⟨fun a o h _ _ => e.keep a o h, e.nn⟩, fun p h => e.keep _ _ (E.st p h), E.tb.ext e.keep⟩

/-- a value to be read: its top may be lent -/
def Lt (C : Cn) (H : Hp) (S : Addr → Prop) (v : V) (d : D) : Prop := Rp C.P C.w C.K H S v d ∨ ∃ p, v = .ref p ∧ Own C.P C.w C.K H S p d
theorem RvOk.lt {C : Cn} {ρ : DEnv} {w : List Int} {S : Addr → Prop} {σ : L2.St} {H H' : Hp} {v : V} {r : RV} (h : RvOk C H H' S v r) : Lt C H' S v r.d := by
  cases r with
  | fz d => exact .inl h
  | ow d => obtain ⟨p, e, o, _⟩ := h; exact .inr ⟨p, e, o.mono fun _ z => z.1⟩
  | bw d => obtain ⟨p, e, o, _⟩ := h; exact .inr ⟨p, e, o⟩
theorem Lt.rpT {C : Cn} {H : Hp} {S : Addr → Prop} {v : V} {d : D} (h : Lt C H S v d) : Rp C.P C.w C.K H (fun _ => True) v d := by
  rcases h with h | ⟨p, e, o⟩
  · exact h.mono .refl fun _ _ => trivial
  · subst e; exact o.rp (fun _ _ => trivial) trivial
theorem Lt.list {C : Cn} {H : Hp} {S : Addr → Prop} {v : V} {ds : List D} (h : Lt C H S v (.list ds)) : ∃ a vs, v = .ref a ∧ Rd H a (.lst vs) ∧ Rps C.P C.w C.K H S vs ds := by
  rcases h with h | ⟨p, e, o⟩
  · cases h with
    | lst s r q => exact ⟨_, _, rfl, r, q⟩
  · cases o with
    | lst r q => exact ⟨_, _, e, .inl r, q⟩
theorem Lt.dict {C : Cn} {H : Hp} {S : Addr → Prop} {v : V} {ds : List (D × D)} (h : Lt C H S v (.dict ds)) : ∃ a vs, v = .ref a ∧ Rd H a (DN C.P C.w a vs) ∧ Rpk C.P C.w C.K H S vs ds := by
  rcases h with h | ⟨p, e, o⟩
  · cases h with
    | dct s r q => exact ⟨_, _, rfl, r, q⟩
  · cases o with
    | dct r q => exact ⟨_, _, e, .inl r, q⟩
theorem Lt.tuple {C : Cn} {H : Hp} {S : Addr → Prop} {v : V} {ds : List D} (h : Lt C H S v (.tuple ds)) : ∃ a vs, v = .ref a ∧ SqT C.K H a vs ∧ Rps C.P C.w C.K H S vs ds := by
  rcases h with h | ⟨p, e, o⟩
  · cases h with
    | tup s r => exact ⟨_, _, rfl, s, r⟩
  · cases o
theorem Lt.int {C : Cn} {H : Hp} {S : Addr → Prop} {v : V} {i : Int} (h : Lt C H S v (.int i)) : v = .int i := by
  rcases h with h | ⟨p, e, o⟩
  · cases h; rfl
  · cases o
theorem Lt.bool {C : Cn} {H : Hp} {S : Addr → Prop} {v : V} {i : Bool} (h : Lt C H S v (.bool i)) : v = .bl i := by
  rcases h with h | ⟨p, e, o⟩
  · cases h; rfl
  · cases o
theorem Lt.str {C : Cn} {H : Hp} {S : Addr → Prop} {v : V} {i : Str} (h : Lt C H S v (.str i)) : v = .str i := by
  rcases h with h | ⟨p, e, o⟩
  · cases h; rfl
  · cases o
theorem Lt.none {C : Cn} {H : Hp} {S : Addr → Prop} {v : V} (h : Lt C H S v .none) : v = .non := by
  rcases h with h | ⟨p, e, o⟩
  · cases h; rfl
  · cases o

/-- what an operation's rule gives: F of the data -/
def opQ (C : Cn) (S : Addr → Prop) (o : Option RV) (H : Hp) (Q : VK) : Prop := match o with
  | some r => ∀ v H', Ext H H' → RvOk C H H' S v r → Q v H'
  | none => False
def op1 (C : Cn) (F : D → Option RV) : V → Hp → VK → Prop := fun x H Q => ∃ (S : Addr → Prop) (d : D), (∀ a, H a = none → S a) ∧ Lt C H S x d ∧ opQ C S (F d) H Q
def op2 (C : Cn) (F : D → D → Option RV) : R2 := fun x y H Q => ∃ (S : Addr → Prop) (d e : D), (∀ a, H a = none → S a) ∧ Lt C H S x d ∧ Lt C H S y e ∧ opQ C S (F d e) H Q
inductive Lts (C : Cn) (H : Hp) (S : Addr → Prop) : List V → List D → Prop
  | nil : Lts C H S [] []
  | cons {v : V} {d : D} {vs : List V} {ds : List D} : Lt C H S v d → Lts C H S vs ds → Lts C H S (v :: vs) (d :: ds)
def opN (C : Cn) (F : List D → Option RV) : List V → Hp → VK → Prop := fun xs H Q => ∃ (S : Addr → Prop) (ds : List D), (∀ a, H a = none → S a) ∧ Lts C H S xs ds ∧ opQ C S (F ds) H Q
theorem RvsOk.lts {C : Cn} {ρ : DEnv} {w : List Int} {S : Addr → Prop} {σ : L2.St} {H H' : Hp} : ∀ {vs : List V} {rs : List RV}, RvsOk C H H' S vs rs → Lts C H' S vs (rs.map RV.d)
  | _, _, .nil => .nil
  | _, _, .cons h r => .cons (RvOk.lt (ρ := ρ) (w := w) (σ := σ) h) (RvsOk.lts (ρ := ρ) (w := w) (σ := σ) r)

/-! ### names, constants -/
def eVar (i : Nat) : Ex := fun ρ w => match ρ[i]? with
  | some (some (.fz d)) => .ok (.fz d, w)
  | some (some (.ow d)) => .ok (.bw d, w)
  | some (some (.lk kvs)) => .ok (.fz (.dict kvs), w)
  | _ => .err
def eC (d : D) : Ex := fun _ w => .ok (.fz d, w)
section
variable {X : Cx} {C : Cn} {W : WX}
theorem de_var {i : Nat} {x : Str} {pos : Pos} (hN : X.N[i]? = some x) (hv : Vis X.env.scope x) (hd : (x == ("__debug__" : Str)) = false := by decide) (hcd : (x == ("__classdict__" : Str)) = false := by decide) : DE X C W (.Name x pos) (eVar i) := by
  refine pe_imp (pe_var hN hv hd hcd) fun σ H Q h => ?_
  obtain ⟨ρ, w, S, E, h⟩ := eT_to h
  unfold eVar at h
  cases e : ρ[i]? with
  | none => rw [e] at h; exact False.elim h
  | some o =>
    rw [e] at h
    cases o with
    | none => exact False.elim h
    | some ev =>
      obtain ⟨v, hσ, hv⟩ := E.val i ev e
      refine ⟨v, hσ, ?_⟩
      cases ev with
      | fz d => exact h v H E.rf hv
      | ow d =>
        obtain ⟨p, e1, o, n, s, q⟩ := hv
        exact h v H E.rf ⟨p, e1, o, q, n, s⟩
      | fn k => exact False.elim h
      | lk kvs =>
        obtain ⟨a, o, xs, e1, s, f, r⟩ := hv
        subst e1
        exact h _ H E.rf (.dct s (.inr ⟨o, E.lo _ f⟩) r)
theorem de_const {v : V} {d : D} {e : Expr} (h : PE X e (tC v)) (r : ∀ P w K H S, Rp P w K H S v d) : DE X C W e (eC d) := pe_imp h fun σ H Q h => by
  obtain ⟨ρ, w, S, E, h⟩ := eT_to h
  exact h v H E.rf (r _ _ _ _ _)
theorem de_int {i j pos} : DE X C W (.Constant (.int i) j pos) (eC (.int i)) := de_const pe_int fun _ _ _ _ _ => .int _
theorem de_bl {b j pos} : DE X C W (.Constant (.bool b) j pos) (eC (.bool b)) := de_const pe_bl fun _ _ _ _ _ => .bl _
theorem de_non {j pos} : DE X C W (.Constant .none j pos) (eC .none) := de_const pe_non fun _ _ _ _ _ => .non
theorem de_str {x j pos} : DE X C W (.Constant (.str x) j pos) (eC (.str x)) := de_const pe_str fun _ _ _ _ _ => .str _
/-- a module's constant that is a number -/
theorem de_globI {x : Str} {i : Int} {t : Tok} {pos : Pos} (hg : Gl X x) (hm : X.mg x = some (.int i t)) (hd : (x == ("__debug__" : Str)) = false := by decide) : DE X C W (.Name x pos) (eC (.int i)) :=
  de_const (v := .int i) (pe_glob hg hm ⟨_, rfl⟩ hd) fun _ _ _ _ _ => .int _
theorem de_globS {x : Str} {i : Str} {t : Tok} {pos : Pos} (hg : Gl X x) (hm : X.mg x = some (.str i t)) (hd : (x == ("__debug__" : Str)) = false := by decide) : DE X C W (.Name x pos) (eC (.str i)) :=
  de_const (v := .str i) (pe_glob hg hm ⟨_, rfl⟩ hd) fun _ _ _ _ _ => .str _

/-! ### operations -/
def lift (o : Option RV) (w : List Int) : Res (RV × List Int) := match o with
  | some r => .ok (r, w)
  | none => .err
def eOp (F : D → D → Option RV) (f g : Ex) : Ex := fun ρ w => (f ρ w).bind fun p => (g ρ p.2).bind fun q => lift (F p.1.d q.1.d) q.2
def eUn (F : D → Option RV) (f : Ex) : Ex := fun ρ w => (f ρ w).bind fun p => lift (F p.1.d) p.2
def eCall (F : List D → Option RV) (f : Ax) : Ex := fun ρ w => (f ρ w).bind fun p => lift (F (p.1.map RV.d)) p.2
variable {a b c : Expr} {f g h : Ex} {pos : Pos}
theorem opQ_of {ρ : DEnv} {w : List Int} {S : Addr → Prop} {σ : L2.St} {H H0 : Hp} {o : Option RV} {Q : VK} (E : EnvOk C ρ w S σ H) (g : Grow C.pw H0 H) {H3 : Hp} (h : Good C W σ H3 (lift o w) fun p => ∀ v H', Pst C H H' p.2 → RvOk C H0 H' S v p.1 → Q v H') : opQ C S o H Q := by
  cases o with
  | none => exact h
  | some r => exact fun v H' e rv => h v H' (e.pst E) (rv.back g)
theorem go_op2 {F : D → D → Option RV} {r : R2} (hr : ∀ x y H Q, op2 C F x y H Q → r x y H Q) : ∀ (σ : L2.St) (H : Hp) (Q : VK), eT C W (eOp F f g) σ H Q → tOp r (eT C W f) (eT C W g) σ H Q := by
  intro σ H Q hq
  obtain ⟨ρ, w, S, E, hq⟩ := eT_to hq
  unfold eOp at hq
  refine eT_of E E.rf (hq.bind.imp fun p hp v H1 p1 r1 => ?_)
  have E1 := E.go p1
  refine eT_of E1 p1 (hp.bind.imp fun q hq u H2 p2 r2 => ?_)
  have E2 := E1.go p2
  refine hr _ _ _ _ ⟨S, _, _, E2.sN, (RvOk.grow E E1 p2.g r1).lt (ρ := ρ) (w := w) (σ := σ), r2.lt (ρ := ρ) (w := w) (σ := σ), ?_⟩
  refine opQ_of E2 (p1.g.trans p2.g) (hq.imp fun z hz v' H' p3 r3 => hz v' H' ((p1.trans p2).trans p3) r3)
theorem de_op {op : Operator} {F : D → D → Option RV} (ho : OpR X (binaryOp op) (op2 C F)) (ha : DE X C W a f) (hb : DE X C W b g) : DE X C W (.BinOp a op b pos) (eOp F f g) :=
  pe_imp (pe_op ho ha hb) (go_op2 fun _ _ _ _ h => h)
theorem de_cmp {op : CmpOp} {F : D → D → Option RV} (ho : OpR X (compareOp op) (op2 C F)) (ha : DE X C W a f) (hb : DE X C W b g) (hm : behindInMarks op b = false := by rfl) : DE X C W (.Compare a [op] [b] pos) (eOp F f g) :=
  pe_imp (pe_cmpR ho ha hb hm) (go_op2 fun _ _ _ _ h => h)
theorem de_ix {F : D → D → Option RV} (hr : IxR X (op2 C F)) (ha : DE X C W a f) (hb : DE X C W b g) (hs : PlainIx b := by exact fun _ _ => rfl) : DE X C W (.Subscript a b pos) (eOp F f g) :=
  pe_imp (pe_ix hr ha hb hs) (go_op2 fun _ _ _ _ h => h)
theorem de_un {op : UnaryOp} {F : D → Option RV} (ho : UnR X (unaryOp op) (op1 C F)) (ha : DE X C W a f) : DE X C W (.UnaryOp op a pos) (eUn F f) := by
  refine pe_imp (pe_un ho ha) fun σ H Q hq => ?_
  obtain ⟨ρ, w, S, E, hq⟩ := eT_to hq
  unfold eUn at hq
  refine eT_of E E.rf (hq.bind.imp fun p hp v H1 p1 r1 => ?_)
  have E1 := E.go p1
  exact ⟨S, _, E1.sN, r1.lt (ρ := ρ) (w := w) (σ := σ), opQ_of E1 p1.g (hp.imp fun z hz v' H' p3 r3 => hz v' H' (p1.trans p3) r3)⟩

/-! ### tests -/
/-- an expression that gives True or False -/
def asB (f : Ex) : Tx := fun ρ w => (f ρ w).bind fun p => match p.1.d with
  | .bool b => .ok (b, p.2)
  | _ => .err
def ofB (f : Tx) : Ex := fun ρ w => (f ρ w).bind fun p => .ok (.fz (.bool p.1), p.2)
theorem go_asB : ∀ (σ : L2.St) (H : Hp) (Q : Bool → Hp → Prop), tT C W (asB f) σ H Q → eT C W f σ H fun x H' => ∃ k, x = .bl k ∧ Q k H' := by
  intro σ H Q hq
  obtain ⟨ρ, w, S, E, hq⟩ := tT_to hq
  unfold asB at hq
  refine eT_of E E.rf (hq.bind.imp fun p hp v H1 p1 r1 => ?_)
  revert hp
  cases e : p.1.d with
  | bool b =>
    intro hp
    have l := r1.lt (ρ := ρ) (w := w) (σ := σ)
    rw [e] at l
    exact ⟨b, l.bool, hp H1 p1⟩
  | _ => exact fun hp => False.elim hp
theorem dt_val (ha : DE X C W a f) (he : ∀ whole, isTrue a X.env whole = (do let v ← whole; standAt a.pos; holding [v] (truthy v)) := by intro _; rfl) : DT X C W a (asB f) :=
  pt_imp (pt_val ha he) go_asB
theorem dt_cmp {op : CmpOp} {F : D → D → Option RV} (ho : OpR X (compareOp op) (op2 C F)) (ha : DE X C W a f) (hb : DE X C W b g) (hm : behindInMarks op b = false := by rfl) : DT X C W (.Compare a [op] [b] pos) (asB (eOp F f g)) :=
  pt_imp (pt_cmpR ho ha hb hm) fun σ H Q hq => by
    have z := go_asB σ H Q hq
    obtain ⟨ρ, w, S, E, hq⟩ := eT_to z
    refine go_op2 (W := W) (fun _ _ _ _ h => h) σ H _ (eT_of E E.rf (hq.imp fun p hp v H1 p1 r1 => hp v H1 p1 r1))
def tAnd' (f g : Tx) : Tx := fun ρ w => (f ρ w).bind fun p => if p.1 then g ρ p.2 else .ok (false, p.2)
def tOr' (f g : Tx) : Tx := fun ρ w => (f ρ w).bind fun p => if p.1 then .ok (true, p.2) else g ρ p.2
def tNot' (f : Tx) : Tx := fun ρ w => (f ρ w).bind fun p => .ok (!p.1, p.2)
variable {tf tg : Tx} {rest : List Expr}
theorem dw_and1 (ha : DT X C W a tf) : DW X C W (.BoolOp .And [a] pos) tf := pw_and1 ha
theorem dw_or1 (ha : DT X C W a tf) : DW X C W (.BoolOp .Or [a] pos) tf := pw_or1 ha
theorem dw_and (ha : DT X C W a tf) (hb : DW X C W (.BoolOp .And (b :: rest) pos) tg) : DW X C W (.BoolOp .And (a :: b :: rest) pos) (tAnd' tf tg) := by
  refine pw_imp (pw_and ha hb) fun σ H Q hq => ?_
  obtain ⟨ρ, w, S, E, hq⟩ := tT_to hq
  unfold tAnd' at hq
  refine tT_of E E.rf (hq.bind.imp fun p hp H1 p1 => ?_)
  obtain ⟨k, w1⟩ := p
  cases k with
  | true => exact tT_of (E.go p1) p1 (Good.imp (R := tg ρ w1) hp fun q hq H2 p2 => hq H2 (p1.trans p2))
  | false => exact hp H1 p1
theorem dw_or (ha : DT X C W a tf) (hb : DW X C W (.BoolOp .Or (b :: rest) pos) tg) : DW X C W (.BoolOp .Or (a :: b :: rest) pos) (tOr' tf tg) := by
  refine pw_imp (pw_or ha hb) fun σ H Q hq => ?_
  obtain ⟨ρ, w, S, E, hq⟩ := tT_to hq
  unfold tOr' at hq
  refine tT_of E E.rf (hq.bind.imp fun p hp H1 p1 => ?_)
  obtain ⟨k, w1⟩ := p
  cases k with
  | true => exact hp H1 p1
  | false => exact tT_of (E.go p1) p1 (Good.imp (R := tg ρ w1) hp fun q hq H2 p2 => hq H2 (p1.trans p2))
theorem dt_w (h : DW X C W a tf) : DT X C W a tf := h.pt
theorem dt_not (ha : DT X C W a tf) : DT X C W (.UnaryOp .Not a pos) (tNot' tf) := by
  refine pt_imp (pt_not ha) fun σ H Q hq => ?_
  obtain ⟨ρ, w, S, E, hq⟩ := tT_to hq
  unfold tNot' at hq
  exact tT_of E E.rf (hq.bind.imp fun p hp H1 p1 => hp H1 p1)
/-- as values -/
def eAnd (f g : Ex) : Ex := fun ρ w => (asB f ρ w).bind fun p => if p.1 then g ρ p.2 else .ok (.fz (.bool false), p.2)
def eOr (f g : Ex) : Ex := fun ρ w => (asB f ρ w).bind fun p => if p.1 then .ok (.fz (.bool true), p.2) else g ρ p.2
def eNot (f : Ex) : Ex := fun ρ w => (asB f ρ w).bind fun p => .ok (.fz (.bool (!p.1)), p.2)
theorem de_one {op} (ha : DE X C W a f) : DE X C W (.BoolOp op [a] pos) f := pe_one ha
theorem de_and (ha : DE X C W a f) (hb : DE X C W (.BoolOp .And (b :: rest) pos) g) : DE X C W (.BoolOp .And (a :: b :: rest) pos) (eAnd f g) := by
  refine pe_imp (pe_and ha hb) fun σ H Q hq => ?_
  obtain ⟨ρ, w, S, E, hq⟩ := eT_to hq
  unfold eAnd at hq
  refine go_asB σ H (fun k H1 => if k = true then eT C W g σ H1 Q else Q (.bl false) H1) (tT_of E E.rf (hq.bind.imp fun p hp H1 p1 => ?_))
  obtain ⟨k, w1⟩ := p
  cases k with
  | true => exact eT_of (E.go p1) p1 (Good.imp (R := g ρ w1) hp fun q hq v H2 p2 r2 => hq v H2 (p1.trans p2) (r2.back p1.g))
  | false => exact hp _ _ p1 (.bl _)
theorem de_or (ha : DE X C W a f) (hb : DE X C W (.BoolOp .Or (b :: rest) pos) g) : DE X C W (.BoolOp .Or (a :: b :: rest) pos) (eOr f g) := by
  refine pe_imp (pe_or ha hb) fun σ H Q hq => ?_
  obtain ⟨ρ, w, S, E, hq⟩ := eT_to hq
  unfold eOr at hq
  refine go_asB σ H (fun k H1 => if k = true then Q (.bl true) H1 else eT C W g σ H1 Q) (tT_of E E.rf (hq.bind.imp fun p hp H1 p1 => ?_))
  obtain ⟨k, w1⟩ := p
  cases k with
  | true => exact hp _ _ p1 (.bl _)
  | false => exact eT_of (E.go p1) p1 (Good.imp (R := g ρ w1) hp fun q hq v H2 p2 r2 => hq v H2 (p1.trans p2) (r2.back p1.g))
theorem de_not (ha : DE X C W a f) : DE X C W (.UnaryOp .Not a pos) (eNot f) := by
  refine pe_imp (pe_not ha) fun σ H Q hq => ?_
  obtain ⟨ρ, w, S, E, hq⟩ := eT_to hq
  unfold eNot at hq
  exact go_asB σ H (fun k H1 => Q (.bl (!k)) H1) (tT_of E E.rf (hq.bind.imp fun p hp H1 p1 => hp _ _ p1 (.bl _)))
def eIf (t : Tx) (f g : Ex) : Ex := fun ρ w => (t ρ w).bind fun p => if p.1 then f ρ p.2 else g ρ p.2
theorem de_if (hc : DT X C W c tf) (ha : DE X C W a f) (hb : DE X C W b g) : DE X C W (.IfExp c a b pos) (eIf tf f g) := by
  refine pe_imp (pe_ifExp hc ha hb) fun σ H Q hq => ?_
  obtain ⟨ρ, w, S, E, hq⟩ := eT_to hq
  unfold eIf at hq
  refine tT_of E E.rf (hq.bind.imp fun p hp H1 p1 => ?_)
  obtain ⟨k, w1⟩ := p
  cases k with
  | true => exact eT_of (E.go p1) p1 (Good.imp (R := f ρ w1) hp fun q hq v H2 p2 r2 => hq v H2 (p1.trans p2) (r2.back p1.g))
  | false => exact eT_of (E.go p1) p1 (Good.imp (R := g ρ w1) hp fun q hq v H2 p2 r2 => hq v H2 (p1.trans p2) (r2.back p1.g))
/-- a op b op' c -/
def eChain (F G : D → D → Option RV) (f g h : Ex) : Ex := fun ρ w => (f ρ w).bind fun p => (g ρ p.2).bind fun q => (lift (F p.1.d q.1.d) q.2).bind fun z => match z.1.d with
  | .bool true => (h ρ z.2).bind fun r => lift (G q.1.d r.1.d) r.2
  | .bool false => .ok (.fz (.bool false), z.2)
  | _ => .err

/-! ### arguments, displays -/
def aNil : Ax := fun _ w => .ok ([], w)
def aCons (f : Ex) (g : Ax) : Ax := fun ρ w => (f ρ w).bind fun p => (g ρ p.2).bind fun q => .ok (p.1 :: q.1, q.2)
variable {es : List Expr} {af : Ax}
theorem da_nil : DA X C W [] aNil := pa_imp pa_nil fun σ H Q hq => by
  obtain ⟨ρ, w, S, E, hq⟩ := aT_to hq
  exact hq [] H E.rf .nil
theorem da_cons (ha : DE X C W a f) (hr : DA X C W es af) (hs : starEach (a :: es) X.env = (false, eval a X.env) :: starEach es X.env := by rfl) : DA X C W (a :: es) (aCons f af) := by
  refine pa_imp (pa_cons ha hr hs) fun σ H Q hq => ?_
  obtain ⟨ρ, w, S, E, hq⟩ := aT_to hq
  unfold aCons at hq
  refine eT_of E E.rf (hq.bind.imp fun p hp v H1 p1 r1 => ?_)
  refine aT_of (E.go p1) p1 (hp.bind.imp fun q hq vs H2 p2 r2 => hq _ _ (p1.trans p2) (.cons (RvOk.grow E (E.go p1) p2.g r1) ?_))
  clear hq hp
  have back : ∀ {vs : List V} {rs : List RV}, RvsOk C H1 H2 S vs rs → RvsOk C H H2 S vs rs := by
    intro vs rs r
    induction r with
    | nil => exact .nil
    | cons h _ ih => exact .cons (h.back p1.g) ih
  exact back r2
/-- none of them lent -/
def noBw : List RV → Bool
  | [] => true
  | .bw _ :: _ => false
  | _ :: rs => noBw rs
theorem RvsOk.rps {ρ : DEnv} {w : List Int} {S : Addr → Prop} {σ : L2.St} {H H' : Hp} (E : EnvOk C ρ w S σ H) : ∀ {vs : List V} {rs : List RV}, RvsOk C H H' S vs rs → noBw rs = true → Rps C.P C.w C.K H' S vs (rs.map RV.d)
  | _, _, .nil, _ => .nil
  | _, _, .cons (r := .fz d) h r, e => .cons h (RvsOk.rps E r e)
  | _, _, .cons (r := .ow d) h r, e => .cons (h.rp E fun _ z => nomatch z) (RvsOk.rps E r e)
  | _, _, .cons (r := .bw d) h r, e => by cases e
theorem RvsOk.length {S : Addr → Prop} {H H' : Hp} : ∀ {vs : List V} {rs : List RV}, RvsOk C H H' S vs rs → vs.length = rs.length
  | _, _, .nil => rfl
  | _, _, .cons _ r => by rw [List.length_cons, List.length_cons, RvsOk.length r]
def eTup (f : Ax) : Ex := fun ρ w => (f ρ w).bind fun p => if noBw p.1 && decide (p.1.length ≤ sizeLine) then .ok (.fz (.tuple (p.1.map RV.d)), p.2) else .err
def eLst (f : Ax) : Ex := fun ρ w => (f ρ w).bind fun p => if noBw p.1 && decide (p.1.length ≤ sizeLine) then .ok (.ow (.list (p.1.map RV.d)), p.2) else .err
theorem de_tup {x1} (ha : DA X C W es af) : DE X C W (.Tuple es x1 pos) (eTup af) := by
  refine pe_imp (pe_tup ha) fun σ H Q hq => ?_
  obtain ⟨ρ, w, S, E, hq⟩ := eT_to hq
  unfold eTup at hq
  refine aT_of E E.rf (hq.bind.imp fun p hp vs H1 p1 r1 => ?_)
  split at hp
  · rename_i hc
    have hc := Bool.and_eq_true_iff.mp hc
    have hz : vs.length ≤ sizeLine := by rw [r1.length]; exact of_decide_eq_true hc.2
    have E1 := E.go p1
    refine ⟨hz, fun q hn => hp _ _ (p1.trans ((Ext.new hn).pst E1)) ?_⟩
    exact .tup (.inl (.inl upd_same)) (Rps.mono (Ext.new hn).kept (fun _ z => z) (r1.rps E hc.1))
  · exact False.elim hp
theorem de_lst (ha : DA X C W es af) : DE X C W (.List es pos) (eLst af) := by
  refine pe_imp (pe_lst ha) fun σ H Q hq => ?_
  obtain ⟨ρ, w, S, E, hq⟩ := eT_to hq
  unfold eLst at hq
  refine aT_of E E.rf (hq.bind.imp fun p hp vs H1 p1 r1 => ?_)
  split at hp
  · rename_i hc
    have hc := Bool.and_eq_true_iff.mp hc
    have hz : vs.length ≤ sizeLine := by rw [r1.length]; exact of_decide_eq_true hc.2
    have E1 := E.go p1
    refine ⟨hz, fun q hn => hp _ _ (p1.trans ((Ext.new hn).pst E1)) ?_⟩
    exact ⟨q, rfl, .lst upd_same (Rps.mono (Ext.new hn).kept (fun _ z => z) ((r1.rps E hc.1).avoid hn)), p1.g.nn _ hn⟩
  · exact False.elim hp
/-- a call of a built-in by its name -/
theorem de_callB {x : Str} {id : String} {F : List D → Option RV} {p : Pos} (hc : CallR X (.builtin id) (opN C F)) (hg : Gl X x) (hm : X.mg x = none) (hv : bootBuiltins x = some (.builtin id)) (ha : DA X C W (a :: es) af) (hn : x ≠ "__name__" := by decide) (hdb : (x == ("__debug__" : Str)) = false := by decide)
    (he : starEach (a :: es) X.env = (false, eval a X.env) :: starEach es X.env := by rfl) (hpl : (backTo pos (starEach es X.env)).any (·.1) = false := by rfl) : DE X C W (.Call (.Name x p) (a :: es) [] pos) (eCall F af) := by
  refine pe_imp (pe_callB hc hg hm hv ha hn hdb he hpl) fun σ H Q hq => ?_
  obtain ⟨ρ, w, S, E, hq⟩ := eT_to hq
  unfold eCall at hq
  refine aT_of E E.rf (hq.bind.imp fun p hp vs H1 p1 r1 => ?_)
  exact ⟨S, _, (E.go p1).sN, r1.lts (ρ := ρ) (w := w) (σ := σ), opQ_of (E.go p1) p1.g (hp.imp fun z hz v' H' p3 r3 => hz v' H' (p1.trans p3) r3)⟩
theorem de_callTy {x : Str} {T : String} {F : List D → Option RV} {p : Pos} (hc : CallR X (.type T) (opN C F)) (hg : Gl X x) (hm : X.mg x = none) (hv : bootBuiltins x = some (.type T)) (ha : DA X C W (a :: es) af) (hn : x ≠ "__name__" := by decide) (hdb : (x == ("__debug__" : Str)) = false := by decide)
    (he : starEach (a :: es) X.env = (false, eval a X.env) :: starEach es X.env := by rfl) (hpl : (backTo pos (starEach es X.env)).any (·.1) = false := by rfl) : DE X C W (.Call (.Name x p) (a :: es) [] pos) (eCall F af) := by
  refine pe_imp (pe_callTy hc hg hm hv ha hn hdb he hpl) fun σ H Q hq => ?_
  obtain ⟨ρ, w, S, E, hq⟩ := eT_to hq
  unfold eCall at hq
  refine aT_of E E.rf (hq.bind.imp fun p hp vs H1 p1 r1 => ?_)
  exact ⟨S, _, (E.go p1).sN, r1.lts (ρ := ρ) (w := w) (σ := σ), opQ_of (E.go p1) p1.g (hp.imp fun z hz v' H' p3 r3 => hz v' H' (p1.trans p3) r3)⟩
end
end DL
namespace DL
open PySem PySem.Spec PyProof.Rows L2

/-- the context's own program, world and written part -/
structure Tie (X : Cx) (C : Cn) : Prop where
  P : C.P = X.prog
  w : C.w = X.w
  K : C.K = X.K
  calm : X.calm = true
  room : X.A.units + 70 < cLine
  gd : X.A.guards = some []

section
variable {X : Cx} {C : Cn} {pins : List (Addr × Obj)} {σ : L2.St} {H : Hp} {s : Shared} {S : Addr → Prop}
theorem Lt.reads (t : Tie X C) (I : Inv X pins σ H s) {v : V} {d : D} {u : Value} (h : Lt C H S v d) (f : flatD d = true) (r : RelV v u) : ∃ as, Reads s.heap u d as := by
  have q := h.rpT.dp f
  rw [t.K] at q
  exact Dp.reads I d v u q r
/-- data that == may compare -/
def cmpD (d : D) : Bool := flatD d && SeqAt.shaped d
def bz (n : Nat) : Bool := decide (n ≤ sizeLine)
theorem opQ_val {o : Option RV} {Q : VK} {v : V} {d : D} (h : opQ C S o H Q) (e : o = some (.fz d)) (r : ∀ P w K H S, Rp P w K H S v d) : Q v H := by
  subst e; exact h v H .refl (r _ _ _ _ _)
theorem opQ_lst {o : Option RV} {Q : VK} {vs : List V} {ds : List D} (h : opQ C S o H Q) (e : o = some (.ow (.list ds))) (r : Rps C.P C.w C.K H S vs ds) : ∀ p, H p = none → Q (.ref p) (upd H p (.lst vs)) := by
  subst e
  exact fun p hn => h (.ref p) _ (.new hn) ⟨p, rfl, .lst upd_same ((r.avoid hn).mono (Ext.new hn).kept fun _ z => z), hn⟩
theorem opQ_tup {o : Option RV} {Q : VK} {vs : List V} {ds : List D} (h : opQ C S o H Q) (e : o = some (.fz (.tuple ds))) (r : Rps C.P C.w C.K H S vs ds) : ∀ p, H p = none → Q (.ref p) (upd H p (.tup vs)) := by
  subst e
  exact fun p hn => h (.ref p) _ (.new hn) (.tup (.inl (.inl upd_same)) (r.mono (Ext.new hn).kept fun _ z => z))
end

/-! ### arithmetic -/
def fI2 (c : Int → Int → Bool) (g : Int → Int → Int) : D → D → Option RV
  | .int i, .int j => if c i j then some (.fz (.int (g i j))) else none
  | _, _ => none
def smallB (i : Int) : Bool := decide (i.natAbs < 18446744073709551616)
theorem smallB_and {i : Int} (h : smallB i = true) : (decide (-(2 ^ 64) < i) && decide (i < 2 ^ 64)) = true := by
  have h := of_decide_eq_true h
  have e : (2 : Int) ^ 64 = 18446744073709551616 := by decide
  rw [e, Bool.and_eq_true, decide_eq_true_eq, decide_eq_true_eq]
  omega
def fSub : D → D → Option RV := fI2 (fun _ _ => true) fun i j => i - j
def fMod : D → D → Option RV := fI2 (fun _ j => decide (j ≠ 0)) Int.fmod
def fDiv : D → D → Option RV := fI2 (fun _ j => decide (j ≠ 0) && decide (j.natAbs < 1073741824)) Int.fdiv
def fPow : D → D → Option RV := fI2 (fun i j => decide (0 ≤ j) && decide (j ≤ 1000000) && decide (i.natAbs < 2 ^ 64)) fun i j => i ^ j.toNat
def fAdd : D → D → Option RV
  | .int i, .int j => some (.fz (.int (i + j)))
  | .str x, .str y => if bz (x.length + y.length) then some (.fz (.str (x ++ y))) else none
  | .list xs, .list ys => if bz (xs.length + ys.length) then some (.ow (.list (xs ++ ys))) else none
  | .tuple xs, .tuple ys => if bz (xs.length + ys.length) then some (.fz (.tuple (xs ++ ys))) else none
  | _, _ => none
/-- so many times in a row -/
def rept (k : Int) (xs : List D) : List D := (List.replicate k.toNat xs).flatten
def fMul : D → D → Option RV
  | .int i, .int j => if smallB i || smallB j then some (.fz (.int (i * j))) else none
  | .tuple xs, .int k => if decide (xs ≠ []) && decide (2 ≤ k) && decide (k ≤ 1000) && decide (xs.length ≤ 1000) then some (.fz (.tuple (rept k xs))) else none
  | _, _ => none
section
variable {X : Cx} {C : Cn}
theorem opI2 {f : Value → Value → Sem Value} {P : Int → Int → Prop} {c : Int → Int → Bool} {g : Int → Int → Int} (h : OpR X f (rI P fun i j => .int (g i j))) (hc : ∀ i j, c i j = true → P i j) : OpR X f (op2 C (fI2 c g)) := by
  intro pins s σ H x y v u Q I rx ry q
  obtain ⟨S, d, e, sN, l1, l2, q⟩ := q
  revert q
  unfold fI2
  split
  · intro q
    have e1 := l1.int; have e2 := l2.int
    subst e1; subst e2
    refine h pins s σ H _ _ v u Q I rx ry ⟨_, _, rfl, rfl, ?_, ?_⟩
    · split at q
      · rename_i hh; exact hc _ _ hh
      · exact q.elim
    · split at q
      · exact opQ_val q rfl fun _ _ _ _ _ => .int _
      · exact q.elim
  · exact fun q => q.elim
theorem op_sub' : OpR X (binaryOp .Sub) (op2 C fSub) := opI2 (P := fun _ _ => True) (fun pins s σ H x y v u Q I rx ry ⟨i, j, a, b, _, q⟩ => op_sub pins s σ H x y v u Q I rx ry ⟨i, j, a, b, q⟩) fun _ _ _ => trivial
theorem op_mod' : OpR X (binaryOp .Mod) (op2 C fMod) := opI2 op_modN fun _ _ h => of_decide_eq_true h
theorem op_div' : OpR X (binaryOp .FloorDiv) (op2 C fDiv) := opI2 op_fdivN fun _ _ h => ⟨of_decide_eq_true (Bool.and_eq_true_iff.mp h).1, of_decide_eq_true (Bool.and_eq_true_iff.mp h).2⟩
theorem op_pow' : OpR X (binaryOp .Pow) (op2 C fPow) := opI2 op_pow fun _ _ h => by
  have h1 := Bool.and_eq_true_iff.mp h
  have h2 := Bool.and_eq_true_iff.mp h1.1
  exact ⟨of_decide_eq_true h2.1, of_decide_eq_true h2.2, of_decide_eq_true h1.2⟩
theorem rd_list {pins : List (Addr × Obj)} {σ : L2.St} {H : Hp} {s : Shared} (I : Inv X pins σ H s) {a : Addr} {vs : List V} (h : Rd H a (.lst vs)) :
    ∃ (its : List Value) (n : Nat), Vals vs its ∧ s.heap.get? a = some { cls := .type "list", data := .seq its.toArray n } ∧ vs.length ≤ sizeLine := by
  obtain ⟨z, its, n, r, e⟩ := h.ok I.hok
  exact ⟨its, n, r, e, z⟩
theorem ite_some {c : Bool} {C' : Cn} {S : Addr → Prop} {H : Hp} {Q : VK} {r : RV} (q : opQ C' S (if c = true then some r else none) H Q) : c = true ∧ opQ C' S (some r) H Q := by
  cases c with
  | true => exact ⟨rfl, q⟩
  | false => exact q.elim
theorem op_add' (t : Tie X C) : OpR X (binaryOp .Add) (op2 C fAdd) := by
  intro pins s σ H x y v u Q I rx ry q
  obtain ⟨S, d, e, sN, l1, l2, q⟩ := q
  revert q
  unfold fAdd
  split
  · intro q
    have e1 := l1.int; have e2 := l2.int
    subst e1; subst e2
    exact op_add pins s σ H _ _ v u Q I rx ry ⟨_, _, rfl, rfl, opQ_val q rfl fun _ _ _ _ _ => .int _⟩
  · intro q
    have e1 := l1.str; have e2 := l2.str
    subst e1; subst e2
    obtain ⟨hc, q⟩ := ite_some q
    exact op_add_str pins s σ H _ _ v u Q I rx ry ⟨_, _, rfl, rfl, of_decide_eq_true hc, opQ_val q rfl fun _ _ _ _ _ => .str _⟩
  · intro q
    obtain ⟨a, vs, rfl, ra, pa⟩ := l1.list
    obtain ⟨b, us, rfl, rb, pb⟩ := l2.list
    obtain ⟨hc, q⟩ := ite_some q
    cases rx
    cases ry
    obtain ⟨is, n1, r1, h1, z1⟩ := rd_list I ra
    obtain ⟨js, n2, r2, h2, z2⟩ := rd_list I rb
    have hz : vs.length + us.length ≤ sizeLine := by rw [pa.length, pb.length]; exact of_decide_eq_true hc
    have hl1 := r1.length; have hl2 := r2.length
    refine PySem.P.add_list h1 h2 ?_ (by rw [List.size_toArray, List.size_toArray]; omega)
    have ea : is.toArray ++ js.toArray = (is ++ js).toArray := by simp
    rw [ea]
    exact ⟨.ref _, _, I.lnew (t' := s.toks) (r1.append r2) (by rw [List.length_append]; omega), rfl, opQ_lst q rfl (pa.append pb) _ I.fresh⟩
  · intro q
    obtain ⟨a, vs, rfl, ra, pa⟩ := l1.tuple
    obtain ⟨b, us, rfl, rb, pb⟩ := l2.tuple
    obtain ⟨hc, q⟩ := ite_some q
    have za : SqT C.K H a vs := ra
    have zb : SqT C.K H b us := rb
    rw [t.K] at ra rb
    refine op_catA pins s σ H _ _ v u Q I rx ry ⟨a, b, vs, us, rfl, rfl, ra, rb, ?_, fun e => ?_, fun e1 e2 => ?_, fun _ _ => opQ_tup q rfl (pa.append pb)⟩
    · rw [pa.length, pb.length]; exact of_decide_eq_true hc
    · subst e
      cases pa
      exact q _ H .refl (.tup zb pb)
    · subst e2
      cases pb
      refine q _ H .refl ?_
      rw [List.append_nil]
      exact .tup za pa
  · exact fun q => q.elim
theorem rps_rep {P : Program} {w : World} {K : PySem.W.Frag} {H : Hp} {S : Addr → Prop} {vs : List V} {ds : List D} (r : Rps P w K H S vs ds) : ∀ n : Nat, Rps P w K H S (List.replicate n vs).flatten (List.replicate n ds).flatten
  | 0 => .nil
  | n + 1 => by
    rw [List.replicate_succ, List.replicate_succ, List.flatten_cons, List.flatten_cons]
    exact r.append (rps_rep r n)
theorem op_mul' (t : Tie X C) : OpR X (binaryOp .Mult) (op2 C fMul) := by
  intro pins s σ H x y v u Q I rx ry q
  obtain ⟨S, d, e, sN, l1, l2, q⟩ := q
  revert q
  unfold fMul
  split
  · intro q
    have e1 := l1.int; have e2 := l2.int
    subst e1; subst e2
    obtain ⟨hc, q⟩ := ite_some q
    refine op_mul pins s σ H _ _ v u Q I rx ry ⟨_, _, rfl, rfl, ?_, opQ_val q rfl fun _ _ _ _ _ => .int _⟩
    rcases Bool.or_eq_true_iff.mp hc with h | h
    · have h := Bool.and_eq_true_iff.mp (smallB_and h)
      exact .inl ⟨of_decide_eq_true h.1, of_decide_eq_true h.2⟩
    · have h := Bool.and_eq_true_iff.mp (smallB_and h)
      exact .inr ⟨of_decide_eq_true h.1, of_decide_eq_true h.2⟩
  · intro q
    obtain ⟨a, vs, rfl, ra, pa⟩ := l1.tuple
    have e2 := l2.int
    subst e2
    obtain ⟨hc, q⟩ := ite_some q
    rw [t.K] at ra
    have h1 := Bool.and_eq_true_iff.mp hc
    have h2 := Bool.and_eq_true_iff.mp h1.1
    have h3 := Bool.and_eq_true_iff.mp h2.1
    refine op_repT pins s σ H _ _ v u Q I rx ry ⟨a, _, vs, rfl, rfl, ra, fun z => ?_, of_decide_eq_true h3.2, of_decide_eq_true h2.2, by rw [pa.length]; exact of_decide_eq_true h1.2, opQ_tup q rfl (rps_rep pa _)⟩
    subst z
    cases pa
    exact of_decide_eq_true h3.1 rfl
  · exact fun q => q.elim

/-! ### comparisons -/
/-- two texts -/
def strEq : D → D → Option Bool
  | .str x, .str y => some (decide (x = y))
  | _, _ => none
theorem strEq_some {d e : D} {b : Bool} (h : strEq d e = some b) : ∃ x y, d = .str x ∧ e = .str y ∧ b = decide (x = y) := by
  unfold strEq at h
  split at h
  · cases h
    exact ⟨_, _, rfl, rfl, rfl⟩
  · cases h
def fEq (d e : D) : Option RV := match strEq d e with
  | some b => some (.fz (.bool b))
  | none => if cmpD d && cmpD e then some (.fz (.bool (PyData.eqv d e))) else none
def fNe (d e : D) : Option RV := match strEq d e with
  | some b => some (.fz (.bool (!b)))
  | none => if cmpD d && cmpD e then some (.fz (.bool (!PyData.eqv d e))) else none
theorem cmpD_iff {d e : D} (h : (cmpD d && cmpD e) = true) : flatD d = true ∧ SeqAt.shaped d = true ∧ flatD e = true ∧ SeqAt.shaped e = true := by
  have h := Bool.and_eq_true_iff.mp h
  have h1 := Bool.and_eq_true_iff.mp h.1
  have h2 := Bool.and_eq_true_iff.mp h.2
  exact ⟨h1.1, h1.2, h2.1, h2.2⟩
theorem op_eq' (t : Tie X C) : OpR X (compareOp .Eq) (op2 C fEq) := by
  intro pins s σ H x y v u Q I rx ry q
  obtain ⟨S, d, e, sN, l1, l2, q⟩ := q
  unfold fEq at q
  split at q
  · rename_i b hb
    obtain ⟨x1, y1, rfl, rfl, rfl⟩ := strEq_some hb
    obtain rfl := l1.str
    obtain rfl := l2.str
    refine op_eq pins s σ H _ _ v u Q I rx ry ⟨rfl, ?_⟩
    have z := q _ _ .refl (.bl _)
    have ez : decide (V.str x1 = V.str y1) = decide (x1 = y1) := by
      rw [Bool.eq_iff_iff]
      simp
    rw [ez]
    exact z
  obtain ⟨hc, q⟩ := ite_some q
  obtain ⟨f1, s1, f2, s2⟩ := cmpD_iff hc
  obtain ⟨as, r1⟩ := l1.reads t I f1 rx
  obtain ⟨bs, r2⟩ := l2.reads t I f2 ry
  have hr := t.room
  exact SeqAt.compareEq_shaped r1 r2 s1 s2 (by omega) ⟨.bl _, H, I, rfl, opQ_val q rfl fun _ _ _ _ _ => .bl _⟩
theorem op_ne' (t : Tie X C) : OpR X (compareOp .NotEq) (op2 C fNe) := by
  intro pins s σ H x y v u Q I rx ry q
  obtain ⟨S, d, e, sN, l1, l2, q⟩ := q
  unfold fNe at q
  split at q
  · rename_i b hb
    obtain ⟨x1, y1, rfl, rfl, rfl⟩ := strEq_some hb
    obtain rfl := l1.str
    obtain rfl := l2.str
    refine op_ne pins s σ H _ _ v u Q I rx ry ⟨rfl, ?_⟩
    have z := q _ _ .refl (.bl _)
    have ez : decide (V.str x1 = V.str y1) = decide (x1 = y1) := by
      rw [Bool.eq_iff_iff]
      simp
    rw [ez]
    exact z
  obtain ⟨hc, q⟩ := ite_some q
  obtain ⟨f1, s1, f2, s2⟩ := cmpD_iff hc
  obtain ⟨as, r1⟩ := l1.reads t I f1 rx
  obtain ⟨bs, r2⟩ := l2.reads t I f2 ry
  have hr := t.room
  exact SeqAt.compareNe_shaped r1 r2 s1 s2 (by omega) ⟨.bl _, H, I, rfl, opQ_val q rfl fun _ _ _ _ _ => .bl _⟩
/-- data that < may compare -/
def ordD (d e : D) : Bool := flatD d && flatD e && PySem.W.alike d e && decide (d.depth ≤ 60) && (match d with | .none => false | _ => true)
theorem ordD_iff {d e : D} (h : ordD d e = true) : flatD d = true ∧ flatD e = true ∧ PySem.W.alike d e = true ∧ d.depth ≤ 60 ∧ d ≠ .none := by
  unfold ordD at h
  have h1 := Bool.and_eq_true_iff.mp h
  have h2 := Bool.and_eq_true_iff.mp h1.1
  have h3 := Bool.and_eq_true_iff.mp h2.1
  have h4 := Bool.and_eq_true_iff.mp h3.1
  exact ⟨h4.1, h4.2, h3.2, of_decide_eq_true h2.2, fun z => by subst z; exact Bool.false_ne_true h1.2⟩
def fOrd (g : D → D → Bool) (d e : D) : Option RV := if ordD d e then some (.fz (.bool (g d e))) else none
def fLt : D → D → Option RV := fOrd PySem.W.dataLt
def fGt : D → D → Option RV := fOrd fun d e => PySem.W.dataLt e d
def fLe : D → D → Option RV := fOrd fun d e => !PySem.W.dataLt e d
def fGe : D → D → Option RV := fOrd fun d e => !PySem.W.dataLt d e
theorem op_ord {op : CmpOp} {g : D → D → Bool} (t : Tie X C)
    (h : ∀ {A : Around} {s : Shared} {a b : Value} {da db : D} {as bs : List Addr} {E : Value → Shared → Prop} {Q : Value → Shared → Prop}, Reads s.heap a da as → Reads s.heap b db bs → PySem.W.alike da db = true → da ≠ .none → A.units + min da.depth db.depth < cLine → Q (.bool (g da db)) s → wpAny (model X.prog X.w) A (compareOp op a b) Q E s) :
    OpR X (compareOp op) (op2 C (fOrd g)) := by
  intro pins s σ H x y v u Q I rx ry q
  obtain ⟨S, d, e, sN, l1, l2, q⟩ := q
  obtain ⟨hc, q⟩ := ite_some q
  obtain ⟨f1, f2, al, dp, nn⟩ := ordD_iff hc
  obtain ⟨as, r1⟩ := l1.reads t I f1 rx
  obtain ⟨bs, r2⟩ := l2.reads t I f2 ry
  have hr := t.room
  have hm : min d.depth e.depth ≤ d.depth := Nat.min_le_left _ _
  exact h r1 r2 al nn (by omega) ⟨.bl _, H, I, rfl, opQ_val q rfl fun _ _ _ _ _ => .bl _⟩
theorem op_lt' (t : Tie X C) : OpR X (compareOp .Lt) (op2 C fLt) := op_ord t fun a b c d e f => PySem.W.lt_data a b c d e f
theorem op_gt' (t : Tie X C) : OpR X (compareOp .Gt) (op2 C fGt) := op_ord t fun a b c d e f => PySem.W.gt_data a b c d e f
theorem op_le' (t : Tie X C) : OpR X (compareOp .LtE) (op2 C fLe) := op_ord t fun a b c d e f => PySem.W.le_data a b c d e f
theorem op_ge' (t : Tie X C) : OpR X (compareOp .GtE) (op2 C fGe) := op_ord t fun a b c d e f => PySem.W.ge_data a b c d e f
def isN : D → Bool
  | .none => true
  | _ => false
def fIs (d e : D) : Option RV := if isN e then some (.fz (.bool (isN d))) else none
def fIsNot (d e : D) : Option RV := if isN e then some (.fz (.bool (!isN d))) else none
theorem Lt.isN {H : Hp} {S : Addr → Prop} {x : V} {d : D} (l : Lt C H S x d) : decide (x = .non) = isN d := by
  cases d with
  | none => have := l.none; subst this; rfl
  | bool b => have := l.bool; subst this; rfl
  | int b => have := l.int; subst this; rfl
  | str b => have := l.str; subst this; rfl
  | list b => obtain ⟨a, _, e, _⟩ := l.list; subst e; rfl
  | tuple b => obtain ⟨a, _, e, _⟩ := l.tuple; subst e; rfl
  | dict b => obtain ⟨a, _, e, _⟩ := l.dict; subst e; rfl
theorem op_is' : OpR X (compareOp .Is) (op2 C fIs) := by
  intro pins s σ H x y v u Q I rx ry q
  obtain ⟨S, d, e, sN, l1, l2, q⟩ := q
  obtain ⟨hc, q⟩ := ite_some q
  refine op_isN pins s σ H _ _ v u Q I rx ry ⟨of_decide_eq_true (l2.isN.trans hc), ?_⟩
  rw [l1.isN]
  exact opQ_val q rfl fun _ _ _ _ _ => .bl _
theorem op_isNot' : OpR X (compareOp .IsNot) (op2 C fIsNot) := by
  intro pins s σ H x y v u Q I rx ry q
  obtain ⟨S, d, e, sN, l1, l2, q⟩ := q
  obtain ⟨hc, q⟩ := ite_some q
  refine op_notN pins s σ H _ _ v u Q I rx ry ⟨of_decide_eq_true (l2.isN.trans hc), ?_⟩
  rw [l1.isN]
  exact opQ_val q rfl fun _ _ _ _ _ => .bl _
/-- x in y: lists, tuples (dicts: DLd) -/
def fIn (d e : D) : Option RV := match e with
  | .list es => if cmpD d && cmpD (.list es) then some (.fz (.bool (es.any fun z => PyData.eqv z d))) else none
  | .tuple es => if cmpD d && cmpD (.tuple es) then some (.fz (.bool (es.any fun z => PyData.eqv z d))) else none
  | _ => none
def fNotIn (d e : D) : Option RV := match e with
  | .list es => if cmpD d && cmpD (.list es) then some (.fz (.bool (!es.any fun z => PyData.eqv z d))) else none
  | .tuple es => if cmpD d && cmpD (.tuple es) then some (.fz (.bool (!es.any fun z => PyData.eqv z d))) else none
  | _ => none
theorem op_in' (t : Tie X C) : OpR X (compareOp .In) (op2 C fIn) := by
  intro pins s σ H x y v u Q I rx ry q
  obtain ⟨S, d, e, sN, l1, l2, q⟩ := q
  have hr := t.room
  revert q
  unfold fIn
  split
  · intro q
    obtain ⟨hc, q⟩ := ite_some q
    obtain ⟨f1, s1, f2, s2⟩ := cmpD_iff hc
    obtain ⟨as, r1⟩ := l1.reads t I f1 rx
    obtain ⟨bs, r2⟩ := l2.reads t I f2 ry
    exact SeqAt.in_list_reads r2 r1 (SeqAt.canLay_of_shaped s2) (SeqAt.canLay_of_shaped s1) (room_in_shaped s1 (by omega)) ⟨.bl _, H, I, rfl, opQ_val q rfl fun _ _ _ _ _ => .bl _⟩
  · intro q
    obtain ⟨hc, q⟩ := ite_some q
    obtain ⟨f1, s1, f2, s2⟩ := cmpD_iff hc
    obtain ⟨as, r1⟩ := l1.reads t I f1 rx
    obtain ⟨bs, r2⟩ := l2.reads t I f2 ry
    exact SeqAt.in_tuple_reads r2 r1 (SeqAt.canLay_of_shaped s2) (SeqAt.canLay_of_shaped s1) (room_in_shaped s1 (by omega)) ⟨.bl _, H, I, rfl, opQ_val q rfl fun _ _ _ _ _ => .bl _⟩
  · exact fun q => q.elim
theorem op_notIn' (t : Tie X C) : OpR X (compareOp .NotIn) (op2 C fNotIn) := by
  intro pins s σ H x y v u Q I rx ry q
  obtain ⟨S, d, e, sN, l1, l2, q⟩ := q
  have hr := t.room
  revert q
  unfold fNotIn
  split
  · intro q
    obtain ⟨hc, q⟩ := ite_some q
    obtain ⟨f1, s1, f2, s2⟩ := cmpD_iff hc
    obtain ⟨as, r1⟩ := l1.reads t I f1 rx
    obtain ⟨bs, r2⟩ := l2.reads t I f2 ry
    exact SeqAt.notIn_list_reads r2 r1 (SeqAt.canLay_of_shaped s2) (SeqAt.canLay_of_shaped s1) (room_in_shaped s1 (by omega)) ⟨.bl _, H, I, rfl, opQ_val q rfl fun _ _ _ _ _ => .bl _⟩
  · intro q
    obtain ⟨hc, q⟩ := ite_some q
    obtain ⟨f1, s1, f2, s2⟩ := cmpD_iff hc
    obtain ⟨as, r1⟩ := l1.reads t I f1 rx
    obtain ⟨bs, r2⟩ := l2.reads t I f2 ry
    exact SeqAt.notIn_tuple_reads r2 r1 (SeqAt.canLay_of_shaped s2) (SeqAt.canLay_of_shaped s1) (room_in_shaped s1 (by omega)) ⟨.bl _, H, I, rfl, opQ_val q rfl fun _ _ _ _ _ => .bl _⟩
  · exact fun q => q.elim

/-! ### places, slices -/
def fIx : D → D → Option RV
  | .list ds, .int i => (atI ds i).map .fz
  | .tuple ds, .int i => (atI ds i).map .fz
  | _, _ => none
theorem rps_atI {P : Program} {w : World} {K : PySem.W.Frag} {H : Hp} {S : Addr → Prop} {vs : List V} {ds : List D} {i : Int} {d : D} (r : Rps P w K H S vs ds) (e : atI ds i = some d) : ∃ v, atI vs i = some v ∧ Rp P w K H S v d := by
  unfold atI at e ⊢
  rw [r.length]
  cases h : ixN ds.length i with
  | none => rw [h] at e; cases e
  | some j =>
    rw [h] at e
    obtain ⟨v, e1, q⟩ := r.getD (i := j) e
    exact ⟨v, e1, q⟩
theorem ix' (t : Tie X C) : IxR X (op2 C fIx) := by
  intro value slice pins s σ H x y v u Q I rx ry q hs
  obtain ⟨S, d, e, sN, l1, l2, q⟩ := q
  revert q
  unfold fIx
  split
  · intro q
    obtain ⟨a, vs, rfl, ra, pa⟩ := l1.list
    have e2 := l2.int
    subst e2
    rename_i ds i
    cases hd : atI ds i with
    | none => rw [hd] at q; exact q.elim
    | some z =>
      rw [hd] at q
      obtain ⟨v1, e1, r1⟩ := rps_atI pa hd
      exact ix_list value slice pins s σ H _ _ v u Q I rx ry ⟨a, vs, i, v1, rfl, rfl, .inl ra, e1, q v1 H .refl r1⟩ hs
  · intro q
    obtain ⟨a, vs, rfl, ra, pa⟩ := l1.tuple
    have e2 := l2.int
    subst e2
    rename_i ds i
    rw [t.K] at ra
    cases hd : atI ds i with
    | none => rw [hd] at q; exact q.elim
    | some z =>
      rw [hd] at q
      obtain ⟨v1, e1, r1⟩ := rps_atI pa hd
      exact ix_tup value slice pins s σ H _ _ v u Q I rx ry ⟨a, vs, i, v1, rfl, rfl, ra, e1, q v1 H .refl r1⟩ hs
  · exact fun q => q.elim
/-- the part of a list from lo to hi -/
def cutD (ds : List D) (lo hi : Option Int) : List D := List.take (HT.sIx ds.length ds.length hi - HT.sIx ds.length 0 lo) (List.drop (HT.sIx ds.length 0 lo) ds)
def fSl (d : D) (lo hi : Option Int) : Option RV := match d with
  | .list ds => some (.ow (.list (cutD ds lo hi)))
  | .tuple ds => some (.fz (.tuple (cutD ds lo hi)))
  | .str x => if bz x.length then some (.fz (.str (cutS x lo hi))) else none
  | _ => none
theorem rps_take {P : Program} {w : World} {K : PySem.W.Frag} {H : Hp} {S : Addr → Prop} : ∀ {vs : List V} {ds : List D} (n : Nat), Rps P w K H S vs ds → Rps P w K H S (vs.take n) (ds.take n)
  | _, _, 0, _ => .nil
  | _, _, _ + 1, .nil => .nil
  | _, _, n + 1, .cons h r => .cons h (rps_take n r)
theorem rps_drop {P : Program} {w : World} {K : PySem.W.Frag} {H : Hp} {S : Addr → Prop} : ∀ {vs : List V} {ds : List D} (n : Nat), Rps P w K H S vs ds → Rps P w K H S (vs.drop n) (ds.drop n)
  | _, _, 0, r => r
  | _, _, _ + 1, .nil => .nil
  | _, _, n + 1, .cons _ r => rps_drop n r
theorem rps_cut {P : Program} {w : World} {K : PySem.W.Frag} {H : Hp} {S : Addr → Prop} {vs : List V} {ds : List D} (lo hi : Option Int) (r : Rps P w K H S vs ds) : Rps P w K H S (cutV vs lo hi) (cutD ds lo hi) := by
  unfold cutV cutD
  rw [r.length]
  exact rps_take _ (rps_drop _ r)
def slQ (C : Cn) (F : D → Option Int → Option Int → Option RV) : V → Option Int → Option Int → Hp → VK → Prop := fun x lo hi H Q => ∃ (S : Addr → Prop) (d : D), (∀ a, H a = none → S a) ∧ Lt C H S x d ∧ opQ C S (F d lo hi) H Q
theorem sl' (t : Tie X C) : SlR X (slQ C fSl) := by
  intro pins s σ H x v vl vu lo hi sl Q I rx hs pl pu q
  obtain ⟨S, d, sN, l1, q⟩ := q
  revert q
  unfold fSl
  split
  · intro q
    obtain ⟨a, vs, rfl, ra, pa⟩ := l1.list
    exact sl_list pins s σ H _ v vl vu lo hi sl Q I rx hs pl pu ⟨a, vs, rfl, .inl ra, opQ_lst q rfl (rps_cut lo hi pa)⟩
  · intro q
    obtain ⟨a, vs, rfl, ra, pa⟩ := l1.tuple
    have za : SqT C.K H a vs := ra
    rw [t.K] at ra
    refine sl_tupA pins s σ H _ v vl vu lo hi sl Q I rx hs pl pu ⟨a, vs, rfl, ra, fun e => ?_, fun _ => opQ_tup q rfl (rps_cut lo hi pa)⟩
    refine q _ H .refl ?_
    have := rps_cut lo hi pa
    have ev : cutV vs lo hi = vs := by
      unfold cutV
      rw [e.1, e.2, List.drop_zero, Nat.sub_zero, List.take_length]
    rw [ev] at this
    exact .tup za this
  · intro q
    have e1 := l1.str
    subst e1
    obtain ⟨hc, q⟩ := ite_some q
    exact sl_str pins s σ H _ v vl vu lo hi sl Q I rx hs pl pu ⟨_, rfl, of_decide_eq_true hc, opQ_val q rfl fun _ _ _ _ _ => .str _⟩
  · exact fun q => q.elim
/-- a slice's bound -/
abbrev Bx := DEnv → List Int → Res (Option Int × List Int)
def bNo : Bx := fun _ w => .ok (none, w)
def bSo (f : Ex) : Bx := fun ρ w => (f ρ w).bind fun p => match p.1.d with
  | .int i => .ok (some i, p.2)
  | _ => .err
def oT (C : Cn) (W : WX) (f : Bx) : TO := fun σ H Q => ∃ ρ w S, EnvOk C ρ w S σ H ∧ Good C W σ H (f ρ w) fun p => ∀ H', Pst C H H' p.2 → Q p.1 H'
def eSl (f : Ex) (lo hi : Bx) : Ex := fun ρ w => (f ρ w).bind fun p => (lo ρ p.2).bind fun l => (hi ρ l.2).bind fun h => lift (fSl p.1.d l.1 h.1) h.2
theorem po_imp {W : WX} {e : Option Expr} {t t' : TO} (h : PO X e t) (i : ∀ σ H Q, t' σ H Q → t σ H Q) : PO X e t' := ⟨fun pins s σ H Q I q => h.run pins s σ H Q I (i σ H Q q)⟩
theorem do_no {W : WX} : PO X none (oT C W bNo) := po_imp (W := W) po_none fun σ H Q ⟨ρ, w, S, E, h⟩ => h H E.rf
theorem do_so {W : WX} {e : Expr} {f : Ex} (h : DE X C W e f) : PO X (some e) (oT C W (bSo f)) := po_imp (W := W) (po_some h) fun σ H Q ⟨ρ, w, S, E, q⟩ => by
  unfold bSo at q
  refine eT_of E E.rf (q.bind.imp fun p hp v H1 p1 r1 => ?_)
  revert hp
  cases e : p.1.d with
  | int b =>
    intro hp
    have l := r1.lt (ρ := ρ) (w := w) (σ := σ)
    rw [e] at l
    exact ⟨b, l.int, hp H1 p1⟩
  | _ => exact fun hp => hp.elim
theorem de_sl {W : WX} {e : Expr} {lo hi : Option Expr} {f : Ex} {bl bh : Bx} {pos p2 : Pos} (t : Tie X C) (he : DE X C W e f) (hl : PO X lo (oT C W bl)) (hh : PO X hi (oT C W bh)) : DE X C W (.Subscript e (.Slice lo hi none p2) pos) (eSl f bl bh) := by
  refine pe_imp (pe_slice (sl' t) he hl hh) fun σ H Q hq => ?_
  obtain ⟨ρ, w, S, E, hq⟩ := eT_to hq
  unfold eSl at hq
  refine eT_of E E.rf (hq.bind.imp fun p hp v H1 p1 r1 => ?_)
  have E1 := E.go p1
  refine ⟨ρ, _, S, E1, (hp.go p1).bind.imp fun l hp H2 p2 => ?_⟩
  have E2 := E1.go p2
  refine ⟨ρ, _, S, E2, (hp.go p2).bind.imp fun h hp H3 p3 => ?_⟩
  have E3 := E2.go p3
  refine ⟨S, _, E3.sN, (RvOk.grow E E1 (p2.g.trans p3.g) r1).lt (ρ := ρ) (w := w) (σ := σ), ?_⟩
  exact opQ_of E3 (p1.g.trans (p2.g.trans p3.g)) (hp.imp fun z hz v' H' p4 r4 => hz v' H' (p1.trans (p2.trans (p3.trans p4))) r4)
end
end DL
namespace DL
open PySem PySem.Spec PyProof.Rows L2

/-! ### calls of built-ins -/
section
variable {X : Cx} {C : Cn}
theorem Lts.one {H : Hp} {S : Addr → Prop} {xs : List V} {d : D} (h : Lts C H S xs [d]) : ∃ x, xs = [x] ∧ Lt C H S x d := by
  cases h with
  | cons h r => cases r; exact ⟨_, rfl, h⟩
theorem Lts.two {H : Hp} {S : Addr → Prop} {xs : List V} {d e : D} (h : Lts C H S xs [d, e]) : ∃ x y, xs = [x, y] ∧ Lt C H S x d ∧ Lt C H S y e := by
  cases h with
  | cons h r =>
    obtain ⟨y, rfl, q⟩ := r.one
    exact ⟨_, _, rfl, h, q⟩
theorem Lts.three {H : Hp} {S : Addr → Prop} {xs : List V} {d e f : D} (h : Lts C H S xs [d, e, f]) : ∃ x y z, xs = [x, y, z] ∧ Lt C H S x d ∧ Lt C H S y e ∧ Lt C H S z f := by
  cases h with
  | cons h r =>
    obtain ⟨y, z, rfl, q1, q2⟩ := r.two
    exact ⟨_, _, _, rfl, h, q1, q2⟩
def fLen : List D → Option RV
  | [.list ds] => some (.fz (.int ds.length))
  | [.tuple ds] => some (.fz (.int ds.length))
  | [.str x] => if bz x.length then some (.fz (.int x.length)) else none
  | _ => none
theorem call_len' (t : Tie X C) : CallR X (.builtin "len") (opN C fLen) := by
  intro pins s σ H xs us Q I r q
  obtain ⟨S, ds, sN, l, q⟩ := q
  revert q
  unfold fLen
  split
  · intro q
    obtain ⟨x, rfl, lx⟩ := l.one
    obtain ⟨a, vs, rfl, ra, pa⟩ := lx.list
    exact call_len pins s σ H _ us Q I r ⟨_, _, rfl, .inl ⟨vs, .inl ra, rfl⟩, by rw [pa.length]; exact opQ_val q rfl fun _ _ _ _ _ => .int _⟩
  · intro q
    obtain ⟨x, rfl, lx⟩ := l.one
    obtain ⟨a, vs, rfl, ra, pa⟩ := lx.tuple
    rw [t.K] at ra
    exact call_len pins s σ H _ us Q I r ⟨_, _, rfl, .inr ⟨vs, ra, rfl⟩, by rw [pa.length]; exact opQ_val q rfl fun _ _ _ _ _ => .int _⟩
  · intro q
    obtain ⟨x, rfl, lx⟩ := l.one
    have e := lx.str
    subst e
    obtain ⟨hc, q⟩ := ite_some q
    exact call_len pins s σ H _ us Q I r ⟨_, _, rfl, ⟨of_decide_eq_true hc, rfl⟩, opQ_val q rfl fun _ _ _ _ _ => .int _⟩
  · exact fun q => q.elim
def fAbs : List D → Option RV
  | [.int i] => some (.fz (.int (if i < 0 then -i else i)))
  | _ => none
theorem call_abs' : CallR X (.builtin "abs") (opN C fAbs) := by
  intro pins s σ H xs us Q I r q
  obtain ⟨S, ds, sN, l, q⟩ := q
  revert q
  unfold fAbs
  split
  · intro q
    obtain ⟨x, rfl, lx⟩ := l.one
    have e := lx.int
    subst e
    exact call_abs pins s σ H _ us Q I r ⟨_, rfl, opQ_val q rfl fun _ _ _ _ _ => .int _⟩
  · exact fun q => q.elim
def fInt : List D → Option RV
  | [.int i] => some (.fz (.int i))
  | [.bool b] => some (.fz (.int (if b then 1 else 0)))
  | _ => none
theorem call_int' : CallR X (.type "int") (opN C fInt) := by
  intro pins s σ H xs us Q I r q
  obtain ⟨S, ds, sN, l, q⟩ := q
  revert q
  unfold fInt
  split
  · intro q
    obtain ⟨x, rfl, lx⟩ := l.one
    have e := lx.int
    subst e
    exact call_int1 pins s σ H _ us Q I r (.inl ⟨_, rfl, opQ_val q rfl fun _ _ _ _ _ => .int _⟩)
  · intro q
    obtain ⟨x, rfl, lx⟩ := l.one
    have e := lx.bool
    subst e
    exact call_int1 pins s σ H _ us Q I r (.inr ⟨_, rfl, opQ_val q rfl fun _ _ _ _ _ => .int _⟩)
  · exact fun q => q.elim
def fDivmod : List D → Option RV
  | [.int i, .int j] => if decide (0 < j) && decide (j.natAbs < 1073741824) then some (.fz (.tuple [.int (i / j), .int (i % j)])) else none
  | _ => none
theorem call_divmod' : CallR X (.builtin "divmod") (opN C fDivmod) := by
  intro pins s σ H xs us Q I r q
  obtain ⟨S, ds, sN, l, q⟩ := q
  revert q
  unfold fDivmod
  split
  · intro q
    obtain ⟨x, y, rfl, l1, l2⟩ := l.two
    have e := l1.int
    subst e
    have e := l2.int
    subst e
    obtain ⟨hc, q⟩ := ite_some q
    have hc := Bool.and_eq_true_iff.mp hc
    have h1 := of_decide_eq_true hc.1
    have h2 := of_decide_eq_true hc.2
    exact call_divmod pins s σ H _ us Q I r ⟨_, _, rfl, ⟨h1, by omega⟩, opQ_tup q rfl (.cons (.int _) (.cons (.int _) .nil))⟩
  · exact fun q => q.elim
/-! list, tuple -/
def fTuple : List D → Option RV
  | [.list ds] => some (.fz (.tuple ds))
  | [.tuple ds] => some (.fz (.tuple ds))
  | _ => none
def fList : List D → Option RV
  | [.list ds] => some (.ow (.list ds))
  | [.tuple ds] => some (.ow (.list ds))
  | _ => none
theorem call_tuple' (t : Tie X C) : CallR X (.type "tuple") (opN C fTuple) := by
  intro pins s σ H xs us Q I r q
  obtain ⟨S, ds, sN, l, q⟩ := q
  revert q
  unfold fTuple
  split
  · intro q
    obtain ⟨x, rfl, lx⟩ := l.one
    obtain ⟨a, vs, rfl, ra, pa⟩ := lx.list
    exact call_tuple_of pins s σ H _ us Q I r ⟨a, vs, rfl, .inl ⟨.inl ra, opQ_tup q rfl pa⟩⟩
  · intro q
    obtain ⟨x, rfl, lx⟩ := l.one
    obtain ⟨a, vs, rfl, ra, pa⟩ := lx.tuple
    have za : SqT C.K H a vs := ra
    rw [t.K] at ra
    exact call_tuple_of pins s σ H _ us Q I r ⟨a, vs, rfl, .inr ⟨ra, q _ H .refl (.tup za pa)⟩⟩
  · exact fun q => q.elim
theorem call_list' (t : Tie X C) : CallR X (.type "list") (opN C fList) := by
  intro pins s σ H xs us Q I r q
  obtain ⟨S, ds, sN, l, q⟩ := q
  revert q
  unfold fList
  split
  · intro q
    obtain ⟨x, rfl, lx⟩ := l.one
    obtain ⟨a, vs, rfl, ra, pa⟩ := lx.list
    exact call_list_of pins s σ H _ us Q I r ⟨a, vs, rfl, .inl (.inl ra), opQ_lst q rfl pa⟩
  · intro q
    obtain ⟨x, rfl, lx⟩ := l.one
    obtain ⟨a, vs, rfl, ra, pa⟩ := lx.tuple
    rw [t.K] at ra
    exact call_list_of pins s σ H _ us Q I r ⟨a, vs, rfl, .inr ra, opQ_lst q rfl pa⟩
  · exact fun q => q.elim
/-! all, any, sum -/
def boolsD : List D → Option (List Bool)
  | [] => some []
  | .bool b :: ds => (boolsD ds).map (b :: ·)
  | _ => none
def intsD : List D → Option (List Int)
  | [] => some []
  | .int b :: ds => (intsD ds).map (b :: ·)
  | _ => none
theorem rps_bools {P : Program} {w : World} {K : PySem.W.Frag} {H : Hp} {S : Addr → Prop} : ∀ {ds : List D} {vs : List V} {bs : List Bool}, boolsD ds = some bs → Rps P w K H S vs ds → vs = bs.map V.bl
  | [], vs, bs, e, r => by cases r; cases e; rfl
  | .bool b :: ds, _, bs, e, .cons h r => by
    cases h
    unfold boolsD at e
    cases e1 : boolsD ds with
    | none => rw [e1] at e; cases e
    | some l =>
      rw [e1] at e
      cases e
      rw [rps_bools e1 r]; rfl
theorem rps_ints {P : Program} {w : World} {K : PySem.W.Frag} {H : Hp} {S : Addr → Prop} : ∀ {ds : List D} {vs : List V} {bs : List Int}, intsD ds = some bs → Rps P w K H S vs ds → vs = bs.map V.int
  | [], vs, bs, e, r => by cases r; cases e; rfl
  | .int b :: ds, _, bs, e, .cons h r => by
    cases h
    unfold intsD at e
    cases e1 : intsD ds with
    | none => rw [e1] at e; cases e
    | some l =>
      rw [e1] at e
      cases e
      rw [rps_ints e1 r]; rfl
def fAll : List D → Option RV
  | [.list ds] => (boolsD ds).map fun bs => .fz (.bool (bs.all id))
  | _ => none
def fAny : List D → Option RV
  | [.list ds] => (boolsD ds).map fun bs => .fz (.bool (bs.any id))
  | _ => none
theorem call_all' (t : Tie X C) : CallR X (.builtin "all") (opN C fAll) := by
  intro pins s σ H xs us Q I r q
  obtain ⟨S, ds, sN, l, q⟩ := q
  revert q
  unfold fAll
  split
  · rename_i ds
    intro q
    obtain ⟨x, rfl, lx⟩ := l.one
    obtain ⟨a, vs, rfl, ra, pa⟩ := lx.list
    cases e : boolsD ds with
    | none => rw [e] at q; exact q.elim
    | some bs =>
      rw [e] at q
      have := rps_bools e pa
      subst this
      exact cr_all t.calm pins s σ H _ us Q I r ⟨a, bs, rfl, .inl ra, opQ_val q rfl fun _ _ _ _ _ => .bl _⟩
  · exact fun q => q.elim
theorem call_any' (t : Tie X C) : CallR X (.builtin "any") (opN C fAny) := by
  intro pins s σ H xs us Q I r q
  obtain ⟨S, ds, sN, l, q⟩ := q
  revert q
  unfold fAny
  split
  · rename_i ds
    intro q
    obtain ⟨x, rfl, lx⟩ := l.one
    obtain ⟨a, vs, rfl, ra, pa⟩ := lx.list
    cases e : boolsD ds with
    | none => rw [e] at q; exact q.elim
    | some bs =>
      rw [e] at q
      have := rps_bools e pa
      subst this
      exact cr_any t.calm pins s σ H _ us Q I r ⟨a, bs, rfl, .inl ra, opQ_val q rfl fun _ _ _ _ _ => .bl _⟩
  · exact fun q => q.elim
def fSum : List D → Option RV
  | [.list ds] => (intsD ds).map fun bs => .fz (.int bs.sum)
  | [.tuple ds] => (intsD ds).map fun bs => .fz (.int bs.sum)
  | _ => none
theorem preSum_list (g : Nat → Int) : ∀ (ns : List Int) (k : Nat), (∀ i n, ns[i]? = some n → g (k + i) = n) → preSum (fun i => g i) (k + ns.length) = preSum (fun i => g i) k + ns.sum := by
  intro ns
  induction ns with
  | nil => intro k _; simp
  | cons n r ih =>
    intro k h
    have h0 := h 0 n rfl
    have := ih (k + 1) fun i m e => by
      have := h (i + 1) m (by simpa using e)
      rw [← this]; congr 1; omega
    rw [List.length_cons, show k + (r.length + 1) = k + 1 + r.length by omega, this, List.sum_cons]
    have e : preSum (fun i => g i) (k + 1) = preSum (fun i => g i) k + g k := rfl
    rw [e, show g k = n by simpa using h0]
    omega
theorem vals_ints : ∀ {ns : List Int} {us : List Value} (i : Nat) (v : Value), Vals (ns.map V.int) us → us[i]? = some v → ∃ n t, ns[i]? = some n ∧ v = .int n t
  | [], _, i, v, r, e => by cases r; simp at e
  | n :: ns, _, 0, v, .cons h r, e => by
    simp at e; subst e
    obtain ⟨t, rfl⟩ := h
    exact ⟨n, t, rfl, rfl⟩
  | n :: ns, _, i + 1, v, .cons h r, e => by
    obtain ⟨m, t, e1, e2⟩ := vals_ints i v r (by simpa using e)
    exact ⟨m, t, by simpa using e1, e2⟩
theorem call_sum' (t : Tie X C) : CallR X (.builtin "sum") (opN C fSum) := by
  intro pins s σ H xs us Q I r q
  obtain ⟨S, ds, sN, l, q⟩ := q
  revert q
  unfold fSum
  split
  · rename_i ds
    intro q
    obtain ⟨x, rfl, lx⟩ := l.one
    obtain ⟨a, vs, rfl, ra, pa⟩ := lx.list
    cases e : intsD ds with
    | none => rw [e] at q; exact q.elim
    | some bs =>
      rw [e] at q
      have := rps_ints e pa
      subst this
      exact cr_sum t.calm pins s σ H _ us Q I r ⟨a, bs, rfl, .inl ra, opQ_val q rfl fun _ _ _ _ _ => .int _⟩
  · rename_i ds
    intro q
    obtain ⟨x, rfl, lx⟩ := l.one
    obtain ⟨a, vs, rfl, ra, pa⟩ := lx.tuple
    rw [t.K] at ra
    cases e : intsD ds with
    | none => rw [e] at q; exact q.elim
    | some bs =>
      rw [e] at q
      have := rps_ints e pa
      subst this
      obtain ⟨its, rv, pl, hz⟩ := I.tuple ra
      rw [Vals.ref1 r]
      have ht : s.heap.IsTuple a its.toArray := by
        obtain ⟨o, ho, hc, n, hd⟩ := pl
        exact ⟨o, ho, hc, n, hd⟩
      refine call_sum_walkAnyS (PySem.W.iter_tupleW (A := X.A.in1) (I.ok.hd t.calm) ht fun s₂ e2 Wk st hfp hw hk => ?_)
      refine ⟨_, _, _, _, _, _, _, fun i => (bs[i]?).getD 0, rfl, Wk, st, hfp, fun i v hv => ?_, fun s' t' m => ?_⟩
      · obtain ⟨n, t0, e3, e4⟩ := vals_ints i v rv (by simpa using hv)
        exact ⟨t0, by show v = Value.int ((bs[i]?).getD 0) t0; rw [e3]; exact e4⟩
      · obtain ⟨h', tk, rfl, hk'⟩ := PySem.W.moved_old e2 rfl m
        have hs := preSum_list (fun i => (bs[i]?).getD 0) bs 0 fun i n e => by simp [e]
        have hl : its.toArray.size = bs.length := by
          have := rv.length
          simp only [List.length_map] at this
          simp [this]
        refine ⟨.int bs.sum, H, I.kept hk', ⟨t', ?_⟩, opQ_val q rfl fun _ _ _ _ _ => .int _⟩
        rw [hl]
        have : preSum (fun i => (bs[i]?).getD 0) bs.length = bs.sum := by simpa [preSum] using hs
        rw [this]
  · exact fun q => q.elim
/-! max, min -/
def fMax : List D → Option RV
  | [.int i, .int j] => some (.fz (.int (if j > i then j else i)))
  | [.int i, .int j, .int k] => some (.fz (.int (if (if j > i then j else i) < k then k else if j > i then j else i)))
  | [.list (d :: ds)] => if cmpD (.list (d :: ds)) && decide (PyData.depthAll (d :: ds) ≤ 60) && (d :: ds).all (fun a => (d :: ds).all fun b => PySem.W.alike a b) && (d :: ds).all (fun a => !isN a) then some (.fz (PySem.W.maxD d ds)) else none
  | [.tuple (d :: ds)] => if cmpD (.tuple (d :: ds)) && decide (PyData.depthAll (d :: ds) ≤ 60) && (d :: ds).all (fun a => (d :: ds).all fun b => PySem.W.alike a b) && (d :: ds).all (fun a => !isN a) then some (.fz (PySem.W.maxD d ds)) else none
  | _ => none
def fMin : List D → Option RV
  | [.int i, .int j] => some (.fz (.int (if j < i then j else i)))
  | [.int i, .int j, .int k] => some (.fz (.int (if k < (if j < i then j else i) then k else if j < i then j else i)))
  | [.list (d :: ds)] => if cmpD (.list (d :: ds)) && decide (PyData.depthAll (d :: ds) ≤ 60) && (d :: ds).all (fun a => (d :: ds).all fun b => PySem.W.alike a b) && (d :: ds).all (fun a => !isN a) then some (.fz (PySem.W.minD d ds)) else none
  | [.tuple (d :: ds)] => if cmpD (.tuple (d :: ds)) && decide (PyData.depthAll (d :: ds) ≤ 60) && (d :: ds).all (fun a => (d :: ds).all fun b => PySem.W.alike a b) && (d :: ds).all (fun a => !isN a) then some (.fz (PySem.W.minD d ds)) else none
  | _ => none
theorem mm_cond {e : D} {d : D} {ds : List D} (h : (cmpD e && decide (PyData.depthAll (d :: ds) ≤ 60) && (d :: ds).all (fun a => (d :: ds).all fun b => PySem.W.alike a b) && (d :: ds).all (fun a => !isN a)) = true) :
    flatD e = true ∧ PyData.depthAll (d :: ds) ≤ 60 ∧ PySem.W.AlikeAll (d :: ds) := by
  have h1 := Bool.and_eq_true_iff.mp h
  have h2 := Bool.and_eq_true_iff.mp h1.1
  have h3 := Bool.and_eq_true_iff.mp h2.1
  refine ⟨(Bool.and_eq_true_iff.mp h3.1).1, of_decide_eq_true h3.2, ?_, ?_⟩
  · intro a ha b hb
    exact List.all_eq_true.mp (List.all_eq_true.mp h2.2 a ha) b hb
  · intro a ha e
    have := List.all_eq_true.mp h1.2 a ha
    subst e
    cases this
theorem reads_item {pins : List (Addr × Obj)} {σ : L2.St} {H : Hp} {s : Shared} (t : Tie X C) (I : Inv X pins σ H s) {S : Addr → Prop} {vs : List V} {its : List Value} {ds : List D} {i : Nat} {u : Value} {m : D} {h' : Heap} {bs : List Addr} (r : Rps C.P C.w C.K H S vs ds) (rv : Vals vs its) (f : flatDs ds = true) (hi : its[i]? = some u) (hr : Reads h' u m bs) (hk : ∀ b o, s.heap.get? b = some o → h'.get? b = some o) :
    ∃ v, RelV v u ∧ Rp C.P C.w C.K H S v m := by
  have hl := rv.length
  have hlt : i < its.length := (List.getElem?_eq_some_iff.mp hi).1
  have hv : vs[i]? = some (vs[i]'(by omega)) := List.getElem?_eq_getElem _
  obtain ⟨u', e1, rr⟩ := rv.get hv
  rw [hi] at e1
  cases e1
  obtain ⟨d, e2, rd⟩ := r.get hv
  have fd : flatD d = true := by
    have : d ∈ ds := List.mem_of_getElem? e2
    clear hr e2 rd r
    induction ds with
    | nil => cases this
    | cons a l ih =>
      unfold flatDs at f
      have f := Bool.and_eq_true_iff.mp f
      rcases List.mem_cons.mp this with rfl | h
      · exact f.1
      · exact ih f.2 h
  obtain ⟨as, q⟩ := Lt.reads t I (.inl rd) fd rr
  have e3 := (reads_det (fun b o e _ => hk b o e) q hr).1
  subst e3
  exact ⟨_, rr, rd⟩
theorem flat_list {ds : List D} (h : flatD (.list ds) = true) : flatDs ds = true := by unfold flatD at h; exact h
theorem flat_tuple {ds : List D} (h : flatD (.tuple ds) = true) : flatDs ds = true := by unfold flatD at h; exact h
theorem reads_all {pins : List (Addr × Obj)} {σ : L2.St} {H : Hp} {s : Shared} (t : Tie X C) (I : Inv X pins σ H s) {S : Addr → Prop} {vs : List V} {its : List Value} {ds : List D} (r : Rps C.P C.w C.K H S vs ds) (rv : Vals vs its) (f : flatDs ds = true) : ∃ as, ReadsAll s.heap its ds as := by
  have q := r.dp f
  rw [t.K] at q
  exact Dp.readsAll I ds vs its q rv
theorem call_max' (t : Tie X C) : CallR X (.builtin "max") (opN C fMax) := by
  intro pins s σ H xs us Q I r q
  obtain ⟨S, ds, sN, l, q⟩ := q
  have hroom := t.room
  revert q
  unfold fMax
  split
  · intro q
    obtain ⟨x, y, rfl, l1, l2⟩ := l.two
    have e := l1.int; subst e
    have e := l2.int; subst e
    exact call_max2 t.calm pins s σ H _ us Q I r ⟨_, _, rfl, opQ_val q rfl fun _ _ _ _ _ => .int _⟩
  · rename_i i j k
    intro q
    obtain ⟨x, y, z, rfl, l1, l2, l3⟩ := l.three
    have e := l1.int; subst e
    have e := l2.int; subst e
    have e := l3.int; subst e
    refine call_max3Nu t.calm pins s σ H _ us Q I r ⟨_, _, _, _, rfl, ?_, opQ_val q rfl fun _ _ _ _ _ => .int _⟩
    unfold nuMax3 nuMax2 nuLt
    simp only [nuCB, Option.map_some, Option.bind_some]
    by_cases h : i < j
    · simp only [h, decide_true, if_true, gt_iff_lt, Option.map_some, Option.bind_some, nuCB]
      by_cases h2 : j < k <;> simp [h2]
    · simp only [h, decide_false, gt_iff_lt, if_false, Bool.false_eq_true, Option.map_some, Option.bind_some, nuCB]
      by_cases h2 : i < k <;> simp [h2]
  · intro q
    obtain ⟨x, rfl, lx⟩ := l.one
    obtain ⟨a, vs, rfl, ra, pa⟩ := lx.list
    obtain ⟨hc, q⟩ := ite_some q
    obtain ⟨f, dp, al⟩ := mm_cond hc
    obtain ⟨its, n, rv, hl, hz⟩ := rd_list I ra
    obtain ⟨as, hr⟩ := reads_all t I pa rv (flat_list f)
    rw [Vals.ref1 r]
    refine PySem.W.max_list_data (I.ok.hd t.calm) (vs := its.toArray) ⟨_, hl, rfl, n, rfl⟩ (by simpa using hr) al (by omega) fun i v h' tk bs hi hr' hk => ?_
    obtain ⟨v1, rr, rp⟩ := reads_item t I pa rv (flat_list f) (by simpa using hi) hr' hk
    exact ⟨v1, H, I.kept hk, rr, q _ H .refl rp⟩
  · intro q
    obtain ⟨x, rfl, lx⟩ := l.one
    obtain ⟨a, vs, rfl, ra, pa⟩ := lx.tuple
    rw [t.K] at ra
    obtain ⟨hc, q⟩ := ite_some q
    obtain ⟨f, dp, al⟩ := mm_cond hc
    obtain ⟨its, rv, ⟨o, ho, hcl, n, hd⟩, hz⟩ := I.tuple ra
    obtain ⟨as, hr⟩ := reads_all t I pa rv (flat_tuple f)
    rw [Vals.ref1 r]
    refine PySem.W.max_tuple_data (I.ok.hd t.calm) (vs := its.toArray) ⟨o, ho, hcl, n, hd⟩ (by simpa using hr) al (by omega) fun i v h' tk bs hi hr' hk => ?_
    obtain ⟨v1, rr, rp⟩ := reads_item t I pa rv (flat_tuple f) (by simpa using hi) hr' hk
    exact ⟨v1, H, I.kept hk, rr, q _ H .refl rp⟩
  · exact fun q => q.elim
theorem call_min' (t : Tie X C) : CallR X (.builtin "min") (opN C fMin) := by
  intro pins s σ H xs us Q I r q
  obtain ⟨S, ds, sN, l, q⟩ := q
  have hroom := t.room
  revert q
  unfold fMin
  split
  · intro q
    obtain ⟨x, y, rfl, l1, l2⟩ := l.two
    have e := l1.int; subst e
    have e := l2.int; subst e
    exact call_min2 t.calm pins s σ H _ us Q I r ⟨_, _, rfl, opQ_val q rfl fun _ _ _ _ _ => .int _⟩
  · rename_i i j k
    intro q
    obtain ⟨x, y, z, rfl, l1, l2, l3⟩ := l.three
    have e := l1.int; subst e
    have e := l2.int; subst e
    have e := l3.int; subst e
    refine call_min3Nu t.calm pins s σ H _ us Q I r ⟨_, _, _, _, rfl, ?_, opQ_val q rfl fun _ _ _ _ _ => .int _⟩
    unfold nuMin3 nuMin2 nuLt
    simp only [nuCB, Option.map_some, Option.bind_some]
    by_cases h : j < i
    · simp only [h, decide_true, if_true, Option.map_some, Option.bind_some, nuCB]
      by_cases h2 : k < j <;> simp [h2]
    · simp only [h, decide_false, if_false, Bool.false_eq_true, Option.map_some, Option.bind_some, nuCB]
      by_cases h2 : k < i <;> simp [h2]
  · intro q
    obtain ⟨x, rfl, lx⟩ := l.one
    obtain ⟨a, vs, rfl, ra, pa⟩ := lx.list
    obtain ⟨hc, q⟩ := ite_some q
    obtain ⟨f, dp, al⟩ := mm_cond hc
    obtain ⟨its, n, rv, hl, hz⟩ := rd_list I ra
    obtain ⟨as, hr⟩ := reads_all t I pa rv (flat_list f)
    rw [Vals.ref1 r]
    refine PySem.W.min_list_data (I.ok.hd t.calm) (vs := its.toArray) ⟨_, hl, rfl, n, rfl⟩ (by simpa using hr) al (by omega) fun i v h' tk bs hi hr' hk => ?_
    obtain ⟨v1, rr, rp⟩ := reads_item t I pa rv (flat_list f) (by simpa using hi) hr' hk
    exact ⟨v1, H, I.kept hk, rr, q _ H .refl rp⟩
  · intro q
    obtain ⟨x, rfl, lx⟩ := l.one
    obtain ⟨a, vs, rfl, ra, pa⟩ := lx.tuple
    rw [t.K] at ra
    obtain ⟨hc, q⟩ := ite_some q
    obtain ⟨f, dp, al⟩ := mm_cond hc
    obtain ⟨its, rv, ⟨o, ho, hcl, n, hd⟩, hz⟩ := I.tuple ra
    obtain ⟨as, hr⟩ := reads_all t I pa rv (flat_tuple f)
    rw [Vals.ref1 r]
    refine PySem.W.min_tuple_data (I.ok.hd t.calm) (vs := its.toArray) ⟨o, ho, hcl, n, hd⟩ (by simpa using hr) al (by omega) fun i v h' tk bs hi hr' hk => ?_
    obtain ⟨v1, rr, rp⟩ := reads_item t I pa rv (flat_tuple f) (by simpa using hi) hr' hk
    exact ⟨v1, H, I.kept hk, rr, q _ H .refl rp⟩
  · exact fun q => q.elim
end
end DL
namespace DL
open PySem PySem.Spec PyProof.Rows L2

/-! ### functions -/
abbrev CSem := List D → Res RV
abbrev FSem := List CSem → List EV → List Int → Res (RV × List Int)

/-- the program's own: what every def of it shares -/
structure Pg where
  P : Program
  w : World
  K : PySem.W.Frag
  mg : Str → Option Value
  base : Heap
  T : List NdefX.NTab
  cls : Nat → Value
  pay : Nat → Option Addr → D → Hp → Prop

/-- what lay untouched before lies so still -/
def Und (h : Heap) (H : Hp) (h1 : Heap) (H1 : Hp) : Prop := ∀ b o, h.get? b = some o → H b = none → (∃ sl, h1.get? b = some { o with slots := sl }) ∧ H1 b = none
theorem Und.trans {h h1 h2 : Heap} {H H1 H2 : Hp} (a : Und h H h1 H1) (b : Und h1 H1 h2 H2) : Und h H h2 H2 := fun c o e n => by
  obtain ⟨⟨sl, e1⟩, n1⟩ := a c o e n
  obtain ⟨⟨sl', e2⟩, n2⟩ := b c _ e1 n1
  exact ⟨⟨sl', e2⟩, n2⟩
theorem Und.of {fs : List Addr} {h h1 : Heap} {H H1 : Hp} (u : Un fs [] H H1 h h1) : Und h H h1 H1 := fun b o e n => ⟨u.any e n (by simp), u.free b o e n (by simp)⟩

/-- what a function hands back -/
def RetOk (G : Pg) (H H' : Hp) (S0 : Addr → Prop) (v : V) : RV → Prop
  | .fz d => Rp G.P G.w G.K H' (fun a => S0 a ∨ H a = none) v d
  | .ow d => ∃ p, v = .ref p ∧ Own G.P G.w G.K H' (fun a => (S0 a ∨ H a = none) ∧ a ≠ p) p d ∧ H p = none
  | .bw _ => False

/-- all that stands stays, but the tables; it may be locked -/
structure Grz (H H1 : Hp) : Prop where
  keep : ∀ a o, H a = some o → (∀ ps, o ≠ .tbl ps) → H1 a = some o ∨ ((∃ ob, H1 a = some (.frz ob o)) ∧ ∀ ob u, o ≠ .frz ob u)
  nn : ∀ a, H1 a = none → H a = none
/-- a function that was handed over, at f: what it does, from the state s, H on -/
def CloOk (G : Pg) (k : Nat) (h : Heap) (H : Hp) (f : Addr) (φ : CSem) : Prop :=
  (H f = none ∧ PySem.W.FnAt f h) ∧ ∀ (A : Around) (outer : List Env) (s1 : Shared) (H1 : Hp) (us : List Value) (vs : List V) (ds : List D) (S0 : Addr → Prop) (Q : VK) (E : XK), Room k A → A.guards = some [] → Env0 G.P G.w G.K G.mg G.base A outer s1 H1 → Und h H s1.heap H1 → Grz H H1 →
    NdefX.TabsN G.T H1 → Vals vs us → Rps G.P G.w G.K H1 S0 vs ds →
    (match φ ds with
      | .ok r => ∀ v H', Grow none H1 H' → NdefX.TabsN G.T H' → RetOk G H1 H' S0 v r → Q v H'
      | .exc c d => ∀ H' da, Grow none H1 H' → NdefX.TabsN G.T H' → G.pay c da d H' → E (G.cls c) da H'
      | .err => False) →
    codeAny (model G.P G.w) A (.call (.ref f) ⟨us, []⟩) (CR (L2.CX G.P G.w) outer G.P G.w H1 s1 Q E) s1

/-- the arguments, as they lie -/
inductive Args (G : Pg) (H : Hp) (S0 : Addr → Prop) (fns : List Addr) : List V → List EV → Prop
  | nil : Args G H S0 fns [] []
  | dat {v : V} {d : D} {vs : List V} {es : List EV} : Rp G.P G.w G.K H S0 v d → Args G H S0 fns vs es → Args G H S0 fns (v :: vs) (.fz d :: es)
  | fn {k : Nat} {f : Addr} {vs : List V} {es : List EV} : fns[k]? = some f → Args G H S0 fns vs es → Args G H S0 fns (.ref f :: vs) (.fn k :: es)
theorem Args.length {G : Pg} {H : Hp} {S0 : Addr → Prop} {fns : List Addr} : ∀ {vs : List V} {es : List EV}, Args G H S0 fns vs es → vs.length = es.length
  | _, _, .nil => rfl
  | _, _, .dat _ r => by rw [List.length_cons, List.length_cons, Args.length r]
  | _, _, .fn _ r => by rw [List.length_cons, List.length_cons, Args.length r]
theorem Args.get {G : Pg} {H : Hp} {S0 : Addr → Prop} {fns : List Addr} : ∀ {vs : List V} {es : List EV} {i : Nat} {e : EV}, Args G H S0 fns vs es → es[i]? = some e → ∃ v, vs[i]? = some v ∧ ((∃ d, e = .fz d ∧ Rp G.P G.w G.K H S0 v d) ∨ ∃ k f, e = .fn k ∧ v = .ref f ∧ fns[k]? = some f)
  | _, _, _, _, .nil, e => by simp at e
  | _, _, 0, _, .dat h _, e => by simp at e; subst e; exact ⟨_, rfl, .inl ⟨_, rfl, h⟩⟩
  | _, _, 0, _, .fn h _, e => by simp at e; subst e; exact ⟨_, rfl, .inr ⟨_, _, rfl, rfl, h⟩⟩
  | _, _, i + 1, _, .dat _ r, e => by
    obtain ⟨v, a, b⟩ := Args.get (i := i) r (by simpa using e)
    exact ⟨v, by simpa using a, b⟩
  | _, _, i + 1, _, .fn _ r, e => by
    obtain ⟨v, a, b⟩ := Args.get (i := i) r (by simpa using e)
    exact ⟨v, by simpa using a, b⟩
/-- the functions handed over keep their words -/
inductive Holds (G : Pg) (k : Nat) (h : Heap) (H : Hp) : List CSem → List Addr → Prop
  | nil : Holds G k h H [] []
  | cons {φ : CSem} {f : Addr} {φs : List CSem} {fs : List Addr} : CloOk G k h H f φ → Holds G k h H φs fs → Holds G k h H (φ :: φs) (f :: fs)

/-- a def's promise: F of the arguments; st: its first parameter is the state's list; kc: the level of what is handed over -/
def Pr (G : Pg) (kc : Nat) (st : Bool) (F : FSem) (h : Heap) : Sp := fun vs H Q E =>
  ∃ (S0 : Addr → Prop) (args : List EV) (w : List Int) (pw : Option Addr) (Φ : List CSem) (fns : List Addr) (vs' : List V),
    (match st with | true => ∃ p, vs = .ref p :: vs' ∧ pw = some p | false => vs = vs' ∧ pw = none) ∧
    (∀ p, pw = some p → H p = some (.lst (w.map V.int)) ∧ ¬ S0 p) ∧ Args G H S0 fns vs' args ∧ Holds G kc h H Φ fns ∧ NdefX.TabsN G.T H ∧
    match F Φ args w with
    | .ok (r, w') => ∀ v H', Grow pw H H' → (∀ p, pw = some p → H' p = some (.lst (w'.map V.int))) → NdefX.TabsN G.T H' → RetOk G H H' S0 v r → Q v H'
    | .exc c d => ∀ (H' : Hp) (da : Option Addr) (w' : List Int), Grow pw H H' → (∀ p, pw = some p → H' p = some (.lst (w'.map V.int))) → NdefX.TabsN G.T H' → G.pay c da d H' → E (G.cls c) da H'
    | .err => False

structure FnD (G : Pg) (k kc : Nat) (f : Addr) (fd : FuncData) (ps : List Str) (st : Bool) (F : FSem) : Prop where
  run : ∀ (A : Around) (outer : List Env) (s : Shared) (H : Hp) (args : PySem.Args) (us : List Value) (vs : List V) (Q : VK) (E : XK), Room k A → A.guards = some [] → Env0 G.P G.w G.K G.mg G.base A outer s H → BindsTo s fd args (ps.zip us) → vs.length = ps.length → Vals vs us →
    Pr G kc st F s.heap vs H Q E → codeAny (model G.P G.w) A (.call (.ref f) args) (CR (L2.CX G.P G.w) outer G.P G.w H s Q E) s
theorem FnD.mono {G : Pg} {j k kc : Nat} {f : Addr} {fd : FuncData} {ps : List Str} {st : Bool} {F : FSem} (h : FnD G j kc f fd ps st F) (l : j ≤ k) : FnD G k kc f fd ps st F :=
  ⟨fun A outer s H args us vs Q E hr => h.run A outer s H args us vs Q E (hr.mono l)⟩

/-- the context of a def's body for the data -/
def cnOf (G : Pg) (H : Hp) (S0 : Addr → Prop) (pw : Option Addr) (fns : List Addr) : Cn where
  P := G.P
  w := G.w
  K := G.K
  H0 := H
  S0 := S0
  pw := pw
  pi := 0
  lk := []
  hid := []
  fns := fns
  T := G.T
  cls := G.cls
  pay := G.pay

/-! ### statements -/
def sT (C : Cn) (W : WX) (g : Sx) : TS := fun D σ H => ∃ ρ w S, EnvOk C ρ w S σ H ∧ match g ρ w with
  | .nx ρ' w' => ∀ σ' H' S', EnvOk C ρ' w' S' σ' H' → D.nx σ' H'
  | .bk ρ' w' => ∀ σ' H' S', EnvOk C ρ' w' S' σ' H' → D.bk σ' H'
  | .ct ρ' w' => ∀ σ' H' S', EnvOk C ρ' w' S' σ' H' → D.ct σ' H'
  | .rt r w' => ∀ v H' σ1 H1 ρ1 w1 S1, EnvOk C ρ1 w1 S1 σ1 H1 → Pst C H1 H' w' → RvOk C H1 H' S1 v r → D.rt v H'
  | .exc c d => ∀ σ' H' da ρ1 w1 S1, EnvOk C ρ1 w1 S1 σ' H' → C.pay c da d H' → W (C.cls c) da σ' H'
  | .err => False
abbrev DS (X : Cx) (C : Cn) (W : WX) (st : Stmt) (g : Sx) : Prop := PS X st (sT C W g)
abbrev DSs (X : Cx) (C : Cn) (W : WX) (st : List Stmt) (g : Sx) : Prop := PSs X st (sT C W g)

/-! ### a def by its body -/
def padN (n : Nat) (l : DEnv) : DEnv := l ++ List.replicate (n - l.length) none
def env0 (n : Nat) (st : Bool) (args : List EV) : DEnv := padN n (match st with | true => none :: args.map some | false => args.map some)
/-- what is handed back: a name's own thing goes along -/
def given : RV → RV
  | .bw d => .ow d
  | r => r
def runB (n : Nat) (st : Bool) (g : List CSem → Sx) : FSem := fun Φ args w => match g Φ (env0 n st args) w with
  | .nx _ w' => .ok (.fz .none, w')
  | .rt r w' => .ok (given r, w')
  | .exc c d => .exc c d
  | _ => .err
theorem padN_get {n : Nat} {l : DEnv} {i : Nat} {e : EV} (h : (padN n l)[i]? = some (some e)) : l[i]? = some (some e) := by
  unfold padN at h
  by_cases hi : i < l.length
  · rw [List.getElem?_append_left hi] at h; exact h
  · rw [List.getElem?_append_right (by omega), List.getElem?_replicate] at h
    split at h <;> cases h
theorem start_get {N : List Str} {vs : List V} {i : Nat} {v : V} (h : vs[i]? = some v) : (L2.start N vs)[i]? = some (some v) := by
  unfold L2.start
  have hi : i < vs.length := (List.getElem?_eq_some_iff.mp h).1
  rw [List.getElem?_append_left (by rw [List.length_map]; exact hi), List.getElem?_map, h]
  rfl
theorem entry {G : Pg} {H : Hp} {S0 : Addr → Prop} {pw : Option Addr} {fns : List Addr} {args : List EV} {w : List Int} {st : Bool} {vs vs' : List V} {N : List Str} (hv : match st with | true => ∃ p, vs = .ref p :: vs' ∧ pw = some p | false => vs = vs' ∧ pw = none)
    (hw : ∀ p, pw = some p → H p = some (.lst (w.map V.int)) ∧ ¬ S0 p) (ha : Args G H S0 fns vs' args) (ht : NdefX.TabsN G.T H) (hl : vs.length ≤ N.length) :
    EnvOk (cnOf G H S0 pw fns) (env0 N.length st args) w (fun a => (S0 a ∨ H a = none) ∧ pw ≠ some a) (L2.start N vs) H := by
  have la := ha.length
  have noow : ∀ (i : Nat) (d : D), (env0 N.length st args)[i]? ≠ some (some (.ow d)) := by
    intro i d h
    have h := padN_get h
    have aux : ∀ j : Nat, (args.map some)[j]? = some (some (EV.ow d)) → False := fun j h => by
      rw [List.getElem?_map] at h
      cases e : args[j]? with
      | none => rw [e] at h; cases h
      | some x =>
        rw [e] at h; cases h
        obtain ⟨v, _, q⟩ := ha.get e
        rcases q with ⟨d', z, _⟩ | ⟨k, f, z, _⟩ <;> cases z
    cases st with
    | false => exact aux i h
    | true =>
      cases i with
      | zero => simp at h
      | succ j => exact aux j (by simpa using h)
  have rd : ∀ v d, Rp G.P G.w G.K H S0 v d → Rp G.P G.w G.K H (fun a => (S0 a ∨ H a = none) ∧ pw ≠ some a) v d := fun v d r =>
    r.mono .refl fun a s => ⟨.inl s, fun e => (hw a e).2 s⟩
  have one : ∀ (j : Nat) (e : EV), (args.map some)[j]? = some (some e) → ∃ v, vs'[j]? = some v ∧ EvOk (cnOf G H S0 pw fns) H (fun a => (S0 a ∨ H a = none) ∧ pw ≠ some a) v e := fun j e h => by
    rw [List.getElem?_map] at h
    cases e1 : args[j]? with
    | none => rw [e1] at h; cases h
    | some x =>
      rw [e1] at h; cases h
      obtain ⟨v, hv, q⟩ := ha.get e1
      refine ⟨v, hv, ?_⟩
      rcases q with ⟨d', rfl, r⟩ | ⟨k, f, rfl, rfl, hf⟩
      · exact rd _ _ r
      · exact ⟨f, rfl, hf⟩
  refine ⟨?_, fun i e h => ?_, fun i j d e p h => absurd h (noow i d), fun a h => ⟨.inr h, fun e => ?_⟩, fun a h => h.1, fun p e => (hw p e).1, fun p e h => h.2 e, fun a o h n q => ⟨fun _ => h, fun z => absurd (show a ∈ (([] : List (Addr × Obj × HO)).map fun p => p.1) from z) (by simp)⟩, fun a h => h, ht, fun p e => ?_, fun v d m => absurd (show (v, d) ∈ ([] : List (V × D)) from m) (by simp), fun p m => absurd (show p ∈ ([] : List (Addr × Obj × HO)) from m) (by simp)⟩
  · unfold L2.start env0 padN
    cases st with
    | true =>
      obtain ⟨p, rfl, _⟩ := hv
      simp only [List.length_append, List.length_map, List.length_replicate, List.length_cons] at *
      omega
    | false =>
      obtain ⟨rfl, _⟩ := hv
      simp only [List.length_append, List.length_map, List.length_replicate] at *
      omega
  · have h := padN_get h
    cases st with
    | false =>
      obtain ⟨rfl, _⟩ := hv
      obtain ⟨v, h1, h2⟩ := one i e h
      exact ⟨v, start_get h1, h2⟩
    | true =>
      obtain ⟨p, rfl, _⟩ := hv
      cases i with
      | zero => simp at h
      | succ j =>
        obtain ⟨v, h1, h2⟩ := one j e (by simpa using h)
        exact ⟨v, start_get (by simpa using h1), h2⟩
  · have := (hw a e).1
    rw [h] at this; cases this
  · cases st with
    | false =>
      obtain ⟨_, hp⟩ := hv
      have e : pw = some p := e
      rw [hp] at e; cases e
    | true =>
      obtain ⟨p', rfl, hp⟩ := hv
      have e : pw = some p := e
      rw [hp] at e; cases e
      refine ⟨start_get rfl, ?_⟩
      show (env0 N.length true args)[0]? = _
      unfold env0 padN
      rfl
theorem fnd_of0 {G : Pg} {k kc : Nat} {x qual : Str} {params : Arguments} {body : List Stmt} {scope : Scope} {dvs : List V} {kws : List (Str × V)} {f : Addr} {fd : FuncData} {N ps : List Str} {st : Bool} (F : FunD G.K x qual params body scope dvs kws f fd) (S : FnScope N ps scope) (g : List CSem → Sx)
    (hbody : ∀ (cdv : Value), (∃ oc od osl fd', G.K.lookup f = some ⟨oc, od, .func fd', osl⟩ ∧ fd'.code = cdv ∧ PySem.W.codeIn G.K cdv qual = true) → ∀ (A : Around) (outer : List Env) (s : Shared) (H : Hp) (E : XK) (S0 : Addr → Prop) (pw : Option Addr) (fns : List Addr) (Φ : List CSem), Room k (A.deeper (envOfC qual scope s.heap.objs.size f cdv)) → A.guards = some [] → Holds G kc s.heap H Φ fns → (st = true → ∃ p, pw = some p) → (st = false → pw = none) →
      DSs (cxOf (L2.CX G.P G.w) G.P G.w G.K G.mg G.base N qual scope f cdv A outer s H E) (cnOf G H S0 pw fns) (fun cls d _ H => E cls d H) body (g Φ)) :
    FnD G (k + 1) kc f fd ps st (runB N.length st g) := by
  refine ⟨fun A outer s H args us vs Q E hr hg e0 hb hl r pr => ?_⟩
  obtain ⟨oc, od, dV, kV, doc, pm, an, cdv, ct, osl, rfl, lk, hcd, _, _⟩ := F.ex
  obtain ⟨S0, as, w, pw, Φ, fns, vs', hv, hw, ha, hh, ht, q⟩ := pr
  refine LamX.run_ofS lk hcd S hr e0 hb r hl fun hr' => ⟨_, hbody cdv ⟨_, _, _, _, lk, rfl, hcd⟩ A outer s H E S0 pw fns Φ hr' hg hh (fun e => ?_) fun e => ?_, ?_⟩
  · subst e
    obtain ⟨p, _, hp⟩ := hv
    exact ⟨p, hp⟩
  · subst e
    exact hv.2
  have hN : ps.length ≤ N.length := by
    have := congrArg List.length S.pre
    rw [List.length_take] at this
    omega
  have E0 := entry (N := N) hv hw ha ht (by omega)
  refine ⟨_, w, _, E0, ?_⟩
  revert q
  unfold runB
  cases g Φ (env0 N.length st as) w with
  | nx ρ' w' =>
    intro q σ' H' S' E'
    refine q .non H' ⟨fun a o h n p => ((E'.gk a o h n p).1 (by simp [cnOf])), E'.gn⟩ E'.st E'.tb ?_
    exact Rp.non
  | rt r w' =>
    intro q v H' σ1 H1 ρ1 w1 S1 E1 p1 rv
    have g01 : Grow pw H H1 := ⟨fun a o h n p => ((E1.gk a o h n p).1 (by simp [cnOf])), E1.gn⟩
    refine q v H' (g01.trans p1.g) p1.st p1.tb ?_
    have sb : ∀ a, S1 a → S0 a ∨ H a = none := fun a h => E1.sB a h
    cases r with
    | fz d => exact Rp.mono .refl sb rv
    | ow d =>
      obtain ⟨p, e, o, n⟩ := rv
      exact ⟨p, e, o.mono fun a z => ⟨sb a z.1, z.2⟩, E1.gn p n⟩
    | bw d =>
      obtain ⟨p, e, o, _, n, ns⟩ := rv
      exact ⟨p, e, o.mono fun a z => ⟨sb a z, fun q => ns (q ▸ z)⟩, n⟩
  | exc c d =>
    intro q σ' H' da ρ1 w1 S1 E1 hp
    exact q H' da w1 ⟨fun a o h n p => ((E1.gk a o h n p).1 (by simp [cnOf])), E1.gn⟩ E1.st E1.tb hp
  | bk ρ' w' => exact fun q => q.elim
  | ct ρ' w' => exact fun q => q.elim
  | err => exact fun q => q.elim
theorem fnd_of {G : Pg} {k kc : Nat} {x qual : Str} {params : Arguments} {body : List Stmt} {scope : Scope} {dvs : List V} {kws : List (Str × V)} {f : Addr} {fd : FuncData} {N ps : List Str} {st : Bool} (F : FunD G.K x qual params body scope dvs kws f fd) (S : FnScope N ps scope) (g : List CSem → Sx)
    (hbody : ∀ (cdv : Value) (A : Around) (outer : List Env) (s : Shared) (H : Hp) (E : XK) (S0 : Addr → Prop) (pw : Option Addr) (fns : List Addr) (Φ : List CSem), Room k (A.deeper (envOfC qual scope s.heap.objs.size f cdv)) → A.guards = some [] → Holds G kc s.heap H Φ fns → (st = true → ∃ p, pw = some p) → (st = false → pw = none) →
      DSs (cxOf (L2.CX G.P G.w) G.P G.w G.K G.mg G.base N qual scope f cdv A outer s H E) (cnOf G H S0 pw fns) (fun cls d _ H => E cls d H) body (g Φ)) :
    FnD G (k + 1) kc f fd ps st (runB N.length st g) := fnd_of0 F S g fun cdv _ => hbody cdv
end DL
namespace DL
open PySem PySem.Spec PyProof.Rows L2

/-- the running context is the program's -/
structure Own1 (X : Cx) (G : Pg) (C : Cn) : Prop where
  t : Tie X C
  P : G.P = X.prog
  w : G.w = X.w
  K : G.K = X.K
  mg : G.mg = X.mg
  base : G.base = X.base
  T : C.T = G.T
  cls : C.cls = G.cls
  pay : C.pay = G.pay

/-- data that has no list and no dict but at its top -/
def indep : RV → Bool
  | .fz d => pure? d
  | .ow (.list ds) => pures? ds
  | .ow (.dict kvs) => kvs.all fun p => pure? p.2
  | _ => false
def frz : RV → EV := fun r => .fz r.d
theorem keyD_pure : ∀ k : NestedKey, pure? (keyD k) = true := by
  intro k
  have aux : (∀ k : NestedKey, pure? (keyD k) = true) ∧ (∀ ks : List NestedKey, pures? (keyDs ks) = true) := by
    constructor
    · intro k
      induction k using NestedKey.rec (motive_2 := fun ks => pures? (keyDs ks) = true) with
      | none => rfl
      | num i => rfl
      | text x => rfl
      | tup ks ih => unfold keyD pure?; exact ih
      | nil => rfl
      | cons k ks h1 h2 => unfold keyDs pures?; rw [h1, h2]; rfl
    · intro ks
      induction ks using NestedKey.rec_1 (motive_1 := fun k => pure? (keyD k) = true) with
      | none => rfl
      | num i => rfl
      | text x => rfl
      | tup ks ih => unfold keyD pure?; exact ih
      | nil => rfl
      | cons k ks h1 h2 => unfold keyDs pures?; rw [h1, h2]; rfl
  exact aux.1 k
theorem rpk_pure {P : Program} {w : World} {K : PySem.W.Frag} {H : Hp} {S S' : Addr → Prop} : ∀ {xs : List (NestedKey × Addr × V)} {kvs : List (D × D)}, Rpk P w K H S xs kvs → (kvs.all fun p => pure? p.2) = true → Rpk P w K H S' xs kvs
  | _, _, .nil, _ => .nil
  | _, _, .cons h n h' r, e => by
    rw [List.all_cons] at e
    have e := Bool.and_eq_true_iff.mp e
    exact .cons (h.pure (keyD_pure _)) n (h'.pure e.1) (rpk_pure r e.2)
theorem ret_rv {G : Pg} {C : Cn} {H H' : Hp} {S0 S : Addr → Prop} {v : V} {r : RV} (hP : C.P = G.P) (hw : C.w = G.w) (hK : C.K = G.K) (h : RetOk G H H' S0 v r) (i : (∀ a, S0 a ∨ H a = none → S a) ∨ indep r = true) : RvOk C H H' S v r := by
  unfold RvOk
  rw [hP, hw, hK]
  cases r with
  | fz d =>
    rcases i with i | i
    · exact Rp.mono .refl i h
    · exact Rp.pure h i
  | ow d =>
    obtain ⟨p, e, o, n⟩ := h
    refine ⟨p, e, ?_, n⟩
    rcases i with i | i
    · exact o.mono fun a z => ⟨i a z.1, z.2⟩
    · cases o with
      | lst h r => exact .lst h (r.pure i)
      | dct h r => exact .dct h (rpk_pure r i)
  | bw d => exact h.elim
/-- the arguments of a call: where they may stand -/
theorem args_of {G : Pg} {C : Cn} {fns : List Addr} {H H' : Hp} {S : Addr → Prop} {ρ : DEnv} {w : List Int} {σ : L2.St} (hP : C.P = G.P) (hw : C.w = G.w) (hK : C.K = G.K) (E : EnvOk C ρ w S σ H) : ∀ {vs : List V} {rs : List RV}, RvsOk C H H' S vs rs → Args G H' (fun a => if noBw rs = true then S a else C.pw ≠ some a) fns vs (rs.map frz) := by
  have aux : ∀ (S1 : Addr → Prop) {vs : List V} {rs : List RV}, RvsOk C H H' S vs rs → (∀ v r, RvOk C H H' S v r → r ∈ rs → Rp C.P C.w C.K H' S1 v r.d) → Args G H' S1 fns vs (rs.map frz) := by
    intro S1 vs rs r
    induction r with
    | nil => intro _; exact .nil
    | cons h r ih =>
      intro hh
      refine .dat ?_ (ih fun v r' h' m => hh v r' h' (List.mem_cons_of_mem _ m))
      have := hh _ _ h List.mem_cons_self
      rw [hP, hw, hK] at this
      exact this
  intro vs rs r
  cases e : noBw rs with
  | true =>
    simp only [if_true]
    refine aux _ r fun v x h m => h.rp E fun d z => ?_
    subst z
    clear r
    induction rs with
    | nil => cases m
    | cons a l ih =>
      cases a with
      | bw d' => cases e
      | fz d' => exact ih e (by rcases List.mem_cons.mp m with z | z; cases z; exact z)
      | ow d' => exact ih e (by rcases List.mem_cons.mp m with z | z; cases z; exact z)
  | false =>
    simp only [Bool.false_eq_true, if_false]
    refine aux _ r fun v x h m => ?_
    cases x with
    | fz d => exact Rp.mono .refl (fun a s z => E.sW a z s) h
    | ow d =>
      obtain ⟨p, e1, o, n⟩ := h
      subst e1
      refine o.rp (fun a s z => E.sW a z s.1) fun z => ?_
      have := E.st p z
      rw [n] at this; cases this
    | bw d =>
      obtain ⟨p, e1, o, n, _⟩ := h
      subst e1
      exact o.rp (fun a s z => E.sW a z s) n

/-- what a call gives: its value, unless it may be someone's own -/
def outR (rs : List RV) (R : Res (RV × List Int)) (w : List Int) : Res (RV × List Int) := match R with
  | .ok (r, _) => if noBw rs || indep r then .ok (r, w) else .err
  | .exc c d => .exc c d
  | .err => .err
def outS (rs : List RV) (R : Res (RV × List Int)) : Res (RV × List Int) := match R with
  | .ok (r, w') => if noBw rs || indep r then .ok (r, w') else .err
  | .exc c d => .exc c d
  | .err => .err
section
variable {X : Cx} {G : Pg} {C : Cn} {W : WX} {k kc : Nat} {f : Addr} {fd : FuncData} {ps : List Str} {F : FSem} {ρ : DEnv} {w : List Int} {S : Addr → Prop} {σ : L2.St} {H H1 : Hp} {s : Shared} {pins : List (Addr × Obj)} {rs : List RV} {vs : List V} {us : List Value} {args : PySem.Args} {Q : VK}
theorem run_core {st : Bool} {kw : List (Str × Value)} (o : Own1 X G C) (tk : Takes X W) (Fn : FnD G k kc f fd ps st F) (hr : Room k X.A) (I : Inv X pins σ H1 s) (hb : BindsTo s fd ⟨us, kw⟩ (ps.zip us')) (hl : vs.length = ps.length) (r : Vals vs us')
    (pr : Pr G kc st F s.heap vs H1 Q fun cls da H' => W cls da σ H') : wpAny (model X.prog X.w) X.A (call (.ref f) us kw) (EP X pins σ Q) X.xe s := by
  have e0 := I.env0
  have run := Fn.run X.A X.stack s H1 ⟨us, kw⟩ us' vs Q (fun cls da H' => W cls da σ H') hr o.t.gd
  rw [o.P, o.w, o.K, o.mg, o.base] at run
  refine wpAny_call (codeAny_mono (run e0 hb hl r pr) fun r s' hq => ?_)
  cases r with
  | error e => exact tk e s' (XE.of_call I (fun _ _ _ h => h) hq)
  | ok fl =>
    cases fl with
    | ret u => exact I.after hq
    | next => exact False.elim hq
    | brk => exact False.elim hq
    | cont => exact False.elim hq
theorem grow_none {H1 H' : Hp} (g : Grow none H1 H') : Grow C.pw H1 H' := ⟨fun a o h n _ => g.keep a o h n (fun z => by cases z), g.nn⟩
theorem st_none {w : List Int} {H1 H' : Hp} (g : Grow none H1 H') (st : StOk C w H1) : StOk C w H' := fun p e => g.keep _ _ (st p e) (fun _ z => nomatch z) (fun z => by cases z)
def CallEnd (C : Cn) (W : WX) (σ : L2.St) (H : Hp) (rs : List RV) (P : RV → List Int → Prop) : Res (RV × List Int) → Prop
  | .ok (r, w') => (noBw rs = true ∨ indep r = true) ∧ P r w'
  | .exc c d => ExOk C H c d W σ
  | .err => False
theorem Good.ret {R : Res (RV × List Int)} {H : Hp} {P : RV × List Int → Prop} (h : Good C W σ H (outR rs R w) P) : CallEnd C W σ H rs (fun r _ => P (r, w)) R := by
  cases R with
  | ok p =>
    obtain ⟨r, w1⟩ := p
    have h : Good C W σ H (if (noBw rs || indep r) = true then Res.ok (r, w) else Res.err) P := h
    split at h
    · rename_i hh
      exact ⟨Bool.or_eq_true_iff.mp hh, h⟩
    · exact False.elim h
  | exc c d => exact h
  | err => exact h
theorem Good.retS {R : Res (RV × List Int)} {H : Hp} {P : RV × List Int → Prop} (h : Good C W σ H (outS rs R) P) : CallEnd C W σ H rs (fun r w' => P (r, w')) R := by
  cases R with
  | ok p =>
    obtain ⟨r, w1⟩ := p
    have h : Good C W σ H (if (noBw rs || indep r) = true then Res.ok (r, w1) else Res.err) P := h
    split at h
    · rename_i hh
      exact ⟨Bool.or_eq_true_iff.mp hh, h⟩
    · exact False.elim h
  | exc c d => exact h
  | err => exact h
theorem sub_S (E : EnvOk C ρ w S σ H) (g : Grow C.pw H H1) (h : noBw rs = true ∨ indep r' = true) : (∀ a, (if noBw rs = true then S a else C.pw ≠ some a) ∨ H1 a = none → S a) ∨ indep r' = true := by
  rcases h with h | h
  · refine .inl fun a z => ?_
    rw [if_pos h] at z
    rcases z with z | z
    · exact z
    · exact E.sN a (g.nn a z)
  · exact .inr h
/-- the callee runs: E the state ahead of the arguments, I where they have been reckoned -/
theorem run_fnD {kw : List (Str × Value)} (o : Own1 X G C) (tk : Takes X W) (Fn : FnD G k kc f fd ps false F) (hr : Room k X.A) (E : EnvOk C ρ w0 S σ H) (p1 : Pst C H H1 w) (I : Inv X pins σ H1 s) (rv : RvsOk C H H1 S vs rs) (hb : BindsTo s fd ⟨us, kw⟩ (ps.zip us')) (hl : rs.length = ps.length) (r : Vals vs us')
    (h : Good C W σ H (outR rs (F [] (rs.map frz) []) w) fun p => ∀ v H', Pst C H H' p.2 → RvOk C H H' S v p.1 → Q v H') : wpAny (model X.prog X.w) X.A (call (.ref f) us kw) (EP X pins σ Q) X.xe s := by
  have hP : C.P = G.P := o.t.P.trans o.P.symm
  have hw : C.w = G.w := o.t.w.trans o.w.symm
  have hK : C.K = G.K := o.t.K.trans o.K.symm
  refine run_core o tk Fn hr I hb (by rw [rv.length]; exact hl) r ?_
  refine ⟨_, rs.map frz, [], none, [], [], vs, ⟨rfl, rfl⟩, (fun p e => by cases e), args_of hP hw hK E rv, Holds.nil, by rw [← o.T]; exact p1.tb, ?_⟩
  have h := h.ret
  revert h
  cases F [] (rs.map frz) [] with
  | ok p =>
    obtain ⟨r', w'⟩ := p
    intro ⟨hi, h⟩ v H' g _ tb ret
    refine h v H' (p1.trans ⟨grow_none g, st_none g p1.st, by rw [o.T]; exact tb⟩) ?_
    exact (ret_rv hP hw hK ret (sub_S E p1.g hi)).back p1.g
  | exc c d =>
    intro h H' da w' g _ tb hp
    have := h H' da w (p1.g.trans (grow_none g)) (st_none g p1.st) (by rw [o.T]; exact tb) (by rw [o.pay]; exact hp)
    rw [o.cls] at this
    exact this
  | err => exact fun h => h
/-- a call that gets the state's list -/
theorem run_fnS {kw : List (Str × Value)} {p : Addr} (o : Own1 X G C) (tk : Takes X W) (Fn : FnD G k kc f fd ps true F) (hr : Room k X.A) (hp : C.pw = some p) (E : EnvOk C ρ w0 S σ H) (p1 : Pst C H H1 w) (I : Inv X pins σ H1 s) (rv : RvsOk C H H1 S vs rs) (hb : BindsTo s fd ⟨us, kw⟩ (ps.zip us')) (hl : rs.length + 1 = ps.length) (r : Vals (.ref p :: vs) us')
    (h : Good C W σ H (outS rs (F [] (rs.map frz) w)) fun p => ∀ v H', Pst C H H' p.2 → RvOk C H H' S v p.1 → Q v H') : wpAny (model X.prog X.w) X.A (call (.ref f) us kw) (EP X pins σ Q) X.xe s := by
  have hP : C.P = G.P := o.t.P.trans o.P.symm
  have hw : C.w = G.w := o.t.w.trans o.w.symm
  have hK : C.K = G.K := o.t.K.trans o.K.symm
  refine run_core o tk Fn hr I hb (by rw [List.length_cons, rv.length]; exact hl) r ?_
  refine ⟨_, rs.map frz, w, some p, [], [], vs, ⟨p, rfl, rfl⟩, fun q e => ?_, args_of hP hw hK E rv, Holds.nil, by rw [← o.T]; exact p1.tb, ?_⟩
  · cases e
    refine ⟨p1.st p hp, fun z => ?_⟩
    split at z
    · exact E.sW p hp z
    · exact z hp
  have h := h.retS
  revert h
  cases F [] (rs.map frz) w with
  | ok z =>
    obtain ⟨r', w'⟩ := z
    intro ⟨hi, h⟩ v H' g st tb ret
    rw [← hp] at g
    refine h v H' (p1.trans ⟨g, fun q e => st q (by rw [hp] at e; exact e), by rw [o.T]; exact tb⟩) ?_
    exact (ret_rv hP hw hK ret (sub_S E p1.g hi)).back p1.g
  | exc c d =>
    intro h H' da w' g st tb hp'
    rw [← hp] at g
    have := h H' da w' (p1.g.trans g) (fun q e => st q (by rw [hp] at e; exact e)) (by rw [o.T]; exact tb) (by rw [o.pay]; exact hp')
    rw [o.cls] at this
    exact this
  | err => exact fun h => h

/-- f(..) -/
def eFn (n : Nat) (F : FSem) (f : Ax) : Ex := fun ρ w => (f ρ w).bind fun p => if p.1.length == n then outR p.1 (F [] (p.1.map frz) []) p.2 else .err
def eFnS (n : Nat) (F : FSem) (f : Ax) : Ex := fun ρ w => (f ρ w).bind fun p => if p.1.length + 1 == n then outS p.1 (F [] (p.1.map frz) p.2) else .err
theorem de_fn {x : Str} {p pos : Pos} {e : Expr} {es : List Expr} {af : Ax} (o : Own1 X G C) (tk : Takes X W) (Fn : FnD G k kc f fd ps false F) (hr : Room k X.A) (hg : Gl X x) (hm : X.mg x = some (.ref f)) (hk : PySem.W.keepIn X.K (.ref f) = true) (hb : Binds X.K fd ps []) (ha : DA X C W (e :: es) af)
    (hdb : (x == ("__debug__" : Str)) = false := by decide) (he : starEach (e :: es) X.env = (false, eval e X.env) :: starEach es X.env := by rfl) (hpl : (backTo pos (starEach es X.env)).any (·.1) = false := by rfl) : DE X C W (.Call (.Name x p) (e :: es) [] pos) (eFn ps.length F af) := by
  refine ⟨fun pins s σ H Q I h => ?_⟩
  obtain ⟨ρ, w, S, E, h⟩ := eT_to h
  unfold eFn at h
  refine wpAny_Call_Name_kw (ld_glob I hg hm ?_ hdb)
  refine PySem.W.callWith_K (h₀ := X.base) I.ok.mod.kin hk (thn (ha.run pos pins s σ H (fun vs H1 => ∃ rs w1, Pst C H H1 w1 ∧ RvsOk C H H1 S vs rs ∧ Good C W σ H (if rs.length == ps.length then outR rs (F [] (rs.map frz) []) w1 else .err) fun p => ∀ v H', Pst C H H' p.2 → RvOk C H H' S v p.1 → Q v H') I (aT_of E E.rf (h.bind.imp fun q hq vs H1 p1 r1 => ⟨_, _, p1, r1, hq⟩))) fun us s1 ⟨vs, H1, I1, r, rs, w1, p1, r1, q⟩ => ⟨I1.kIn, ?_⟩) he hpl
  split at q
  · rename_i hl
    have hl := beq_iff_eq.mp hl
    have hb' := hb s1 us I1.kIn (by rw [List.append_nil, ← r.length, r1.length]; exact hl)
    rw [List.append_nil] at hb'
    exact run_fnD o tk Fn hr E p1 I1 r1 hb' hl r q
  · exact q.elim
/-- f(well, ..) -/
theorem de_fnS {x y : Str} {i : Nat} {p pos py : Pos} {es : List Expr} {af : Ax} (o : Own1 X G C) (tk : Takes X W) (hp : ∃ p, C.pw = some p) (Fn : FnD G k kc f fd ps true F) (hr : Room k X.A) (hg : Gl X x) (hm : X.mg x = some (.ref f)) (hk : PySem.W.keepIn X.K (.ref f) = true) (hb : Binds X.K fd ps []) (hi : C.pi = i) (hN : X.N[i]? = some y) (hv : Vis X.env.scope y) (ha : DA X C W es af)
    (hdb : (x == ("__debug__" : Str)) = false := by decide) (hd : (y == ("__debug__" : Str)) = false := by decide) (hcd : (y == ("__classdict__" : Str)) = false := by decide)
    (he : starEach (.Name y py :: es) X.env = (false, eval (.Name y py) X.env) :: starEach es X.env := by rfl) (hpl : (backTo pos (starEach es X.env)).any (·.1) = false := by rfl) : DE X C W (.Call (.Name x p) (.Name y py :: es) [] pos) (eFnS ps.length F af) := by
  refine ⟨fun pins s σ H Q I h => ?_⟩
  obtain ⟨ρ, w, S, E, h⟩ := eT_to h
  unfold eFnS at h
  obtain ⟨pw, hpw⟩ := hp
  refine wpAny_Call_Name_kw (ld_glob I hg hm ?_ hdb)
  have pa := pa_cons (pe_var (pos := py) hN hv hd hcd) ha he
  refine PySem.W.callWith_K (h₀ := X.base) I.ok.mod.kin hk (thn (pa.run pos pins s σ H (fun vs H1 => ∃ vs' rs w1, vs = .ref pw :: vs' ∧ Pst C H H1 w1 ∧ RvsOk C H H1 S vs' rs ∧ Good C W σ H (if rs.length + 1 == ps.length then outS rs (F [] (rs.map frz) w1) else .err) fun p => ∀ v H', Pst C H H' p.2 → RvOk C H H' S v p.1 → Q v H') I ?_) fun us s1 ⟨vs, H1, I1, r, vs', rs, w1, ev, p1, r1, q⟩ => ⟨I1.kIn, ?_⟩) he hpl
  · refine ⟨.ref pw, by rw [← hi]; exact (E.sl pw hpw).1, ?_⟩
    exact aT_of E E.rf (h.bind.imp fun q hq vs H1 p1 r1 => ⟨_, _, _, rfl, p1, r1, hq⟩)
  subst ev
  split at q
  · rename_i hl
    have hl := beq_iff_eq.mp hl
    have hb' := hb s1 us I1.kIn (by rw [List.append_nil, ← r.length, List.length_cons, r1.length]; exact hl)
    rw [List.append_nil] at hb'
    exact run_fnS o tk Fn hr hpw E p1 I1 r1 hb' hl r q
  · exact q.elim
end
end DL
namespace DL
open PySem PySem.Spec PyProof.Rows L2

/-! ### storing at a name -/
section
variable {C : Cn} {ρ : DEnv} {w w' : List Int} {S : Addr → Prop} {σ : L2.St} {H H' : Hp} {i : Nat} {v : V} {d : D}
theorem get_set {α : Type} {l : List α} {i j : Nat} {x y : α} (h : (l.set i x)[j]? = some y) : (j = i ∧ y = x) ∨ (j ≠ i ∧ l[j]? = some y) := by
  by_cases e : j = i
  · subst e
    left
    have hj : j < (l.set j x).length := (List.getElem?_eq_some_iff.mp h).1
    rw [List.length_set] at hj
    rw [List.getElem?_set_self hj] at h
    exact ⟨rfl, (Option.some.inj h).symm⟩
  · exact .inr ⟨e, by rwa [List.getElem?_set_ne (Ne.symm e)] at h⟩
/-- a value that stays -/
theorem EnvOk.setF (E : EnvOk C ρ w S σ H) (hi : C.pw = none ∨ i ≠ C.pi) (r : Rp C.P C.w C.K H S v d) : EnvOk C (ρ.set i (some (.fz d))) w S (σ.set i (some v)) H where
  len := by rw [List.length_set, List.length_set]; exact E.len
  val := fun j e h => by
    rcases get_set h with ⟨rfl, h2⟩ | ⟨hj, h2⟩
    · cases h2
      have hj : j < (ρ.set j (some (.fz d))).length := (List.getElem?_eq_some_iff.mp h).1
      rw [List.length_set] at hj
      exact ⟨v, List.getElem?_set_self (by rw [E.len]; exact hj), r⟩
    · obtain ⟨u, a, b⟩ := E.val j e h2
      exact ⟨u, by rw [List.getElem?_set_ne (Ne.symm hj)]; exact a, b⟩
  apart := fun j k d1 d2 p h1 h2 s1 s2 => by
    rcases get_set h1 with ⟨rfl, z⟩ | ⟨hj, h1⟩
    · cases z
    rcases get_set h2 with ⟨rfl, z⟩ | ⟨hk, h2⟩
    · cases z
    rw [List.getElem?_set_ne (Ne.symm hj)] at s1
    rw [List.getElem?_set_ne (Ne.symm hk)] at s2
    exact E.apart j k d1 d2 p h1 h2 s1 s2
  sN := E.sN
  sB := E.sB
  st := E.st
  sW := E.sW
  gk := E.gk
  gn := E.gn
  tb := E.tb
  sl := fun p e => by
    have hne : i ≠ C.pi := hi.elim (fun z => by rw [z] at e; cases e) id
    rw [List.getElem?_set_ne hne, List.getElem?_set_ne hne]
    exact E.sl p e
  hi := E.hi
  lo := E.lo
/-- a new thing of one's own: E0 the state ahead of its making -/
theorem EnvOk.setO {H0 : Hp} {p : Addr} (E0 : EnvOk C ρ w' S σ H0) (g : Pst C H0 H w) (hi : C.pw = none ∨ i ≠ C.pi) (self : Own C.P C.w C.K H (fun a => S a ∧ a ≠ p) p d) (hn : H0 p = none) : EnvOk C (ρ.set i (some (.ow d))) w (fun a => S a ∧ a ≠ p) (σ.set i (some (.ref p))) H := by
  have E := E0.go g
  have k0 := E0.kept g.g
  have pne : C.pw ≠ some p := fun z => by have := E0.st p z; rw [hn] at this; cases this
  have mv : ∀ {u : V} {z : D}, Rp C.P C.w C.K H0 S u z → Rp C.P C.w C.K H (fun a => S a ∧ a ≠ p) u z := fun r => by
    have r1 := r.avoid hn
    exact r1.mono ⟨fun a vs h => k0.tup a vs h, fun a vs s h => k0.lst a vs s.1 h, fun P w a xs s h => k0.dct P w a xs s.1 h⟩ fun _ z => z
  have ownmv : ∀ {q : Addr} {z : D}, Own C.P C.w C.K H0 S q z → C.pw ≠ some q → Own C.P C.w C.K H (fun a => S a ∧ a ≠ p) q z := fun {q z} o hq => by
    cases o with
    | lst e r =>
      refine .lst (g.g.keep _ _ e (fun _ z => nomatch z) hq) ?_
      exact (r.avoid hn).mono ⟨fun a vs h => k0.tup a vs h, fun a vs s h => k0.lst a vs s.1 h, fun P w a xs s h => k0.dct P w a xs s.1 h⟩ fun _ z => z
    | dct e r =>
      refine .dct (g.g.keep _ _ e (fun ps => DN_tbl ps) hq) ?_
      exact (r.avoid hn).mono ⟨fun a vs h => k0.tup a vs h, fun a vs s h => k0.lst a vs s.1 h, fun P w a xs s h => k0.dct P w a xs s.1 h⟩ fun _ z => z
  have hp0 : C.H0 p = none := E0.gn p hn
  exact {
    len := by rw [List.length_set, List.length_set]; exact E.len
    val := fun j e h => by
      rcases get_set h with ⟨rfl, h2⟩ | ⟨hj, h2⟩
      · cases h2
        have hj : j < (ρ.set j (some (.ow d))).length := (List.getElem?_eq_some_iff.mp h).1
        rw [List.length_set] at hj
        exact ⟨_, List.getElem?_set_self (by rw [E.len]; exact hj), p, rfl, self, hp0, fun z => z.2 rfl, pne⟩
      · obtain ⟨u, a, b⟩ := E0.val j e h2
        refine ⟨u, by rw [List.getElem?_set_ne (Ne.symm hj)]; exact a, ?_⟩
        cases e with
        | fz d => exact mv b
        | ow d =>
          obtain ⟨q, e, o, n, s, z⟩ := b
          exact ⟨q, e, ownmv o z, n, fun y => s y.1, z⟩
        | fn k => exact b
        | lk kvs =>
          obtain ⟨a, o, xs, e, s, f, r⟩ := b
          have ap : a ≠ p := fun z => by have := E0.lo _ f; rw [show (a, o, DN C.P C.w a xs).1 = p from z, hn] at this; cases this
          exact ⟨a, o, xs, e, ⟨s, ap⟩, f, (r.avoid hn).mono ⟨fun a vs h => k0.tup a vs h, fun a vs s h => k0.lst a vs s.1 h, fun P w a xs s h => k0.dct P w a xs s.1 h⟩ fun _ z => z⟩
    apart := fun j k d1 d2 q h1 h2 s1 s2 => by
      have old : ∀ (j : Nat) (d1 : D) (q : Addr), ρ[j]? = some (some (.ow d1)) → σ[j]? = some (some (.ref q)) → q ≠ p := fun j d1 q h s z => by
        obtain ⟨u, a, q', e, o, n, s', zz⟩ := E0.val j _ h
        rw [s] at a; cases a
        cases e
        exact o.ne (by rw [z]; exact hn)
      rcases get_set h1 with ⟨rfl, z⟩ | ⟨hj, g1⟩ <;> rcases get_set h2 with ⟨rfl, z2⟩ | ⟨hk, g2⟩
      · rfl
      · rw [List.getElem?_set_ne (Ne.symm hk)] at s2
        rcases get_set s1 with ⟨_, z3⟩ | ⟨hh, _⟩
        · cases z3; exact absurd rfl (old k d2 _ g2 s2)
        · exact absurd rfl hh
      · rw [List.getElem?_set_ne (Ne.symm hj)] at s1
        rcases get_set s2 with ⟨_, z3⟩ | ⟨hh, _⟩
        · cases z3; exact absurd rfl (old j d1 _ g1 s1)
        · exact absurd rfl hh
      · rw [List.getElem?_set_ne (Ne.symm hj)] at s1
        rw [List.getElem?_set_ne (Ne.symm hk)] at s2
        exact E.apart j k d1 d2 q g1 g2 s1 s2
    sN := fun a h => ⟨E.sN a h, fun z => by subst z; exact self.ne h⟩
    sB := fun a h => E.sB a h.1
    st := E.st
    sW := fun q e z => E.sW q e z.1
    gk := E.gk
    gn := E.gn
    tb := E.tb
    sl := fun q e => by
      have hne : i ≠ C.pi := hi.elim (fun z => by rw [z] at e; cases e) id
      rw [List.getElem?_set_ne hne, List.getElem?_set_ne hne]
      exact E.sl q e
    hi := fun v d m => mv (E0.hi v d m)
    lo := E.lo }

/-- a loop's hidden things -/
def Cn.hide (C : Cn) (l : List (V × D)) : Cn := { C with hid := l ++ C.hid }
theorem EnvOk.hide {l : List (V × D)} (E : EnvOk C ρ w S σ H) (h : ∀ v d, (v, d) ∈ l → Rp C.P C.w C.K H S v d) : EnvOk (C.hide l) ρ w S σ H :=
  ⟨E.len, E.val, E.apart, E.sN, E.sB, E.st, E.sW, E.gk, E.gn, E.tb, E.sl, fun v d m => (List.mem_append.mp m).elim (h v d) (E.hi v d), E.lo⟩
theorem EnvOk.show {l : List (V × D)} (E : EnvOk (C.hide l) ρ w S σ H) : EnvOk C ρ w S σ H :=
  ⟨E.len, E.val, E.apart, E.sN, E.sB, E.st, E.sW, E.gk, E.gn, E.tb, E.sl, fun v d m => E.hi v d (List.mem_append.mpr (.inr m)), E.lo⟩
end

/-! ### statements -/
section
variable {X : Cx} {C : Cn} {W : WX} {st : Stmt} {rest : List Stmt} {e : Expr} {f : Ex} {g h : Sx} {pos : Pos}
def sNo : Sx := fun ρ w => .nx ρ w
def sSeq (g h : Sx) : Sx := fun ρ w => match g ρ w with
  | .nx ρ' w' => h ρ' w'
  | o => o
theorem ds_nil : DSs X C W [] sNo := pss_imp pss_nil fun σ H D hq => by
  obtain ⟨ρ, w, S, E, q⟩ := hq
  exact q σ H S E
theorem ds_pass : DS X C W (.Pass pos) sNo := ps_imp ps_pass fun σ H D hq => by
  obtain ⟨ρ, w, S, E, q⟩ := hq
  exact q σ H S E
theorem ds_break : DS X C W (.Break pos) (fun ρ w => .bk ρ w) := ps_imp ps_break fun σ H D hq => by
  obtain ⟨ρ, w, S, E, q⟩ := hq
  exact q σ H S E
theorem ds_continue : DS X C W (.Continue pos) (fun ρ w => .ct ρ w) := ps_imp ps_continue fun σ H D hq => by
  obtain ⟨ρ, w, S, E, q⟩ := hq
  exact q σ H S E
theorem ds_one (h1 : DS X C W st g) : DSs X C W [st] g := pss_one h1
theorem ds_cons (h1 : DS X C W st g) (h2 : DSs X C W rest h) : DSs X C W (st :: rest) (sSeq g h) := by
  refine pss_imp (pss_cons h1 h2) fun σ H D hq => ?_
  obtain ⟨ρ, w, S, E, q⟩ := hq
  refine ⟨ρ, w, S, E, ?_⟩
  unfold sSeq at q
  revert q
  cases g ρ w with
  | nx ρ' w' => exact fun q σ' H' S' E' => ⟨ρ', w', S', E', q⟩
  | rt r w' => exact fun q => q
  | bk ρ' w' => exact fun q => q
  | ct ρ' w' => exact fun q => q
  | exc c d => exact fun q => q
  | err => exact fun q => q
/-- what an expression's end is for a statement -/
def ofR {α : Type} (R : Res α) (k : α → Out) : Out := match R with
  | .ok a => k a
  | .exc c d => .exc c d
  | .err => .err
/-- the ends of a statement -/
def OutOk (C : Cn) (W : WX) (D : Ends) : Out → Prop
  | .nx ρ' w' => ∀ σ' H' S', EnvOk C ρ' w' S' σ' H' → D.nx σ' H'
  | .bk ρ' w' => ∀ σ' H' S', EnvOk C ρ' w' S' σ' H' → D.bk σ' H'
  | .ct ρ' w' => ∀ σ' H' S', EnvOk C ρ' w' S' σ' H' → D.ct σ' H'
  | .rt r w' => ∀ v H' σ1 H1 ρ1 w1 S1, EnvOk C ρ1 w1 S1 σ1 H1 → Pst C H1 H' w' → RvOk C H1 H' S1 v r → D.rt v H'
  | .exc c d => ∀ σ' H' da ρ1 w1 S1, EnvOk C ρ1 w1 S1 σ' H' → C.pay c da d H' → W (C.cls c) da σ' H'
  | .err => False
theorem sT_of {ρ : DEnv} {w : List Int} {S : Addr → Prop} {σ : L2.St} {H : Hp} {D : Ends} (E : EnvOk C ρ w S σ H) (h : OutOk C W D (g ρ w)) : sT C W g D σ H := ⟨ρ, w, S, E, h⟩
theorem sT_to {σ : L2.St} {H : Hp} {D : Ends} (h : sT C W g D σ H) : ∃ ρ w S, EnvOk C ρ w S σ H ∧ OutOk C W D (g ρ w) := h
theorem OutOk.ofR {α : Type} {R : Res α} {k : α → Out} {D : Ends} {ρ : DEnv} {w : List Int} {S : Addr → Prop} {σ : L2.St} {H : Hp} (E : EnvOk C ρ w S σ H) (h : OutOk C W D (ofR R k)) : Good C W σ H R fun a => OutOk C W D (k a) := by
  cases R with
  | ok a => exact h
  | exc c d => exact fun H' da w' g st tb hp => h σ H' da ρ w' S (E.grow g st tb) hp
  | err => exact h
def sExpr (f : Ex) : Sx := fun ρ w => ofR (f ρ w) fun p => .nx ρ p.2
theorem ds_expr (he : DE X C W e f) (hs : swapsWith e none pos.line X.env = pure false := by rfl) : DS X C W (.Expr e pos) (sExpr f) := by
  refine ps_imp (ps_expr he hs) fun σ H D hq => ?_
  obtain ⟨ρ, w, S, E, q⟩ := sT_to hq
  exact eT_of E E.rf ((OutOk.ofR E q).imp fun p hp v H1 p1 r1 => hp σ H1 S (E.go p1))
def sRet (f : Ex) : Sx := fun ρ w => ofR (f ρ w) fun p => .rt p.1 p.2
theorem ds_ret (he : DE X C W e f) : DS X C W (.Return (some e) pos) (sRet f) := by
  refine ps_imp (ps_ret he) fun σ H D hq => ?_
  obtain ⟨ρ, w, S, E, q⟩ := sT_to hq
  exact eT_of E E.rf ((OutOk.ofR E q).imp fun p hp v H1 p1 r1 => hp v H1 σ H ρ w S E p1 r1)
def sRetN : Sx := fun _ w => .rt (.fz .none) w
theorem ds_retN : DS X C W (.Return none pos) sRetN := by
  refine ps_imp ps_retN fun σ H D hq => ?_
  obtain ⟨ρ, w, S, E, q⟩ := sT_to hq
  exact q .non H σ H ρ w S E E.rf .non
def sIf (t : Tx) (g h : Sx) : Sx := fun ρ w => ofR (t ρ w) fun p => if p.1 then g ρ p.2 else h ρ p.2
theorem ds_if {c : Expr} {a b : List Stmt} {t : Tx} (hc : DT X C W c t) (ha : DSs X C W a g) (hb : DSs X C W b h) : DS X C W (.If c a b pos) (sIf t g h) := by
  refine ps_imp (ps_if hc ha hb) fun σ H D hq => ?_
  obtain ⟨ρ, w, S, E, q⟩ := sT_to hq
  refine tT_of E E.rf ((OutOk.ofR E q).imp fun p hp H1 p1 => ?_)
  obtain ⟨k, w1⟩ := p
  cases k with
  | true => exact sT_of (E.go p1) hp
  | false => exact sT_of (E.go p1) hp
/-- never reached -/
theorem ds_never : DS X C W st (fun _ _ => .err) := ps_imp ps_never fun σ H D hq => by
  obtain ⟨ρ, w, S, E, q⟩ := hq
  exact q
/-- name = e -/
def put (i : Nat) (ρ : DEnv) : RV → Option DEnv
  | .fz d => some (ρ.set i (some (.fz d)))
  | .ow d => some (ρ.set i (some (.ow d)))
  | .bw _ => none
def sSet (i : Nat) (f : Ex) : Sx := fun ρ w => ofR (f ρ w) fun p => match put i ρ p.1 with
  | some ρ' => .nx ρ' p.2
  | none => .err
theorem go_set {i : Nat} (hi : C.pw = none ∨ i ≠ C.pi) : ∀ (σ : L2.St) (H : Hp) (D : Ends), sT C W (sSet i f) D σ H → tAsg (eT C W f) (gName i) D σ H := by
  intro σ H D hq
  obtain ⟨ρ, w, S, E, q⟩ := sT_to hq
  refine eT_of E E.rf ((OutOk.ofR E q).imp fun p hp v H1 p1 r1 => ?_)
  revert hp
  obtain ⟨r, w1⟩ := p
  cases r with
  | fz d => exact fun hp => hp (σ.set i (some v)) H1 S ((E.go p1).setF hi r1)
  | ow d =>
    obtain ⟨a, e, o, n⟩ := r1
    subst e
    exact fun hp => hp (σ.set i (some (.ref a))) H1 _ (EnvOk.setO E p1 hi o n)
  | bw d => exact fun hp => hp.elim
theorem ds_set {i : Nat} {x : Str} {pos' : Pos} (hi : C.pw = none ∨ i ≠ C.pi) (hN : X.N.Nodup) (hx : X.N[i]? = some x) (hl : Loc X.env.scope x) (he : DE X C W e f) (hs : swapsWith e (some (.Name x pos')) pos.line X.env = pure false := by rfl) (hf : X.fn x = true ∨ X.env.scope.names.lookup x = some .local := by first | exact .inl rfl | exact .inr rfl) :
    DS X C W (.Assign [.Name x pos'] e pos) (sSet i f) := ps_imp (ps_set hN hx hl he hs hf) (go_set hi)
end
end DL
namespace DL
open PySem PySem.Spec PyProof.Rows L2

/-! ### targets: a value that stays is stored -/
abbrev Gx := D → DEnv → Option DEnv
abbrev Gxs := List D → DEnv → Option DEnv
section
variable {X : Cx} {C : Cn} {W : WX} {pos : Pos}
/-- but for the places ts nothing has changed -/
def But (ts : List Nat) (σ σ' : L2.St) : Prop := σ'.length = σ.length ∧ ∀ j, j ∉ ts → σ'[j]? = σ[j]?
def gT (C : Cn) (b : Gx) (ts : List Nat) : TG := fun v σ H Q => ∃ ρ w S d ρ', EnvOk C ρ w S σ H ∧ Rp C.P C.w C.K H S v d ∧ b d ρ = some ρ' ∧ ∀ σ', EnvOk C ρ' w S σ' H → But ts σ σ' → Q σ' H
def gTs (C : Cn) (b : Gxs) (ts : List Nat) : TGs := fun vs σ H Q => ∃ ρ w S ds ρ', EnvOk C ρ w S σ H ∧ Rps C.P C.w C.K H S vs ds ∧ b ds ρ = some ρ' ∧ ∀ σ', EnvOk C ρ' w S σ' H → But ts σ σ' → Q σ' H
abbrev DG (X : Cx) (C : Cn) (tg : Expr) (b : Gx) (ts : List Nat) : Prop := PG X tg (gT C b ts)
abbrev DGs (X : Cx) (C : Cn) (tg : List Expr) (b : Gxs) (ts : List Nat) : Prop := PGs X tg (gTs C b ts)
theorem pg_imp {e : Expr} {t t' : TG} (h : PG X e t) (i : ∀ v σ H Q, t' v σ H Q → t v σ H Q) : PG X e t' := ⟨fun pins s σ H v u Q I r q => h.run pins s σ H v u Q I r (i v σ H Q q)⟩
theorem pgs_imp {e : List Expr} {t t' : TGs} (h : PGs X e t) (i : ∀ v σ H Q, t' v σ H Q → t v σ H Q) : PGs X e t' := ⟨fun pins s σ H v u Q I r q => h.run pins s σ H v u Q I r (i v σ H Q q)⟩
def gNm (i : Nat) : Gx := fun d ρ => some (ρ.set i (some (.fz d)))
theorem dg_name {i : Nat} {x : Str} (hi : C.pw = none ∨ i ≠ C.pi) (hN : X.N.Nodup) (hx : X.N[i]? = some x) (hl : Loc X.env.scope x) (hf : X.fn x = true ∨ X.env.scope.names.lookup x = some .local := by first | exact .inl rfl | exact .inr rfl) : DG X C (.Name x pos) (gNm i) [i] :=
  pg_imp (pg_name hN hx hl hf) fun v σ H Q ⟨ρ, w, S, d, ρ', E, r, e, q⟩ => by
    cases e
    have ne : ∀ j, j ∉ [i] → i ≠ j := fun j hj z => hj (by rw [z]; exact List.mem_singleton.mpr rfl)
    exact q _ (E.setF hi r) ⟨List.length_set, fun j hj => List.getElem?_set_ne (ne j hj)⟩
def gNl : Gxs := fun ds ρ => match ds with
  | [] => some ρ
  | _ => none
def gCn (b : Gx) (c : Gxs) : Gxs := fun ds ρ => match ds with
  | d :: ds => (b d ρ).bind fun ρ' => c ds ρ'
  | [] => none
theorem dg_nil : DGs X C [] gNl [] := pgs_imp pgs_nil fun vs σ H Q ⟨ρ, w, S, ds, ρ', E, r, e, q⟩ => by
  cases r with
  | nil => cases e; exact ⟨rfl, q σ E ⟨rfl, fun _ _ => rfl⟩⟩
  | cons _ _ => cases e
theorem dg_cons {tg : Expr} {tgs : List Expr} {b : Gx} {c : Gxs} {ts us : List Nat} (h1 : DG X C tg b ts) (h2 : DGs X C tgs c us) (hs : (assignEach (tg :: tgs) X.env).map (·.2) = assign tg X.env :: (assignEach tgs X.env).map (·.2) := by rfl)  : DGs X C (tg :: tgs) (gCn b c) (ts ++ us) :=
  pgs_imp (pgs_cons h1 h2 hs) fun vs σ H Q ⟨ρ, w, S, ds, ρ', E, r, e, q⟩ => by
    cases r with
    | nil => cases e
    | @cons v vs' d ds' hd tl =>
      have e : (b d ρ).bind (fun ρ' => c ds' ρ') = some ρ' := e
      cases e1 : b d ρ with
      | none => rw [e1] at e; cases e
      | some ρ1 =>
        rw [e1] at e
        exact ⟨v, vs', rfl, ρ, w, S, d, ρ1, E, hd, e1, fun σ1 E1 b1 => ⟨ρ1, w, S, ds', ρ', E1, tl, e, fun σ2 E2 b2 => q σ2 E2 ⟨b2.1.trans b1.1, fun j hj => (b2.2 j fun z => hj (List.mem_append.mpr (.inr z))).trans (b1.2 j fun z => hj (List.mem_append.mpr (.inl z)))⟩⟩⟩
/-- a, b, .. = a tuple, a list -/
def gTu (n : Nat) (c : Gxs) : Gx := fun d ρ => match d with
  | .tuple ds => if ds.length == n then c ds ρ else none
  | .list ds => if ds.length == n then c ds ρ else none
  | _ => none
theorem pg_or {e : Expr} {t t' : TG} (h : PG X e t) (h' : PG X e t') : PG X e (fun v σ H Q => t v σ H Q ∨ t' v σ H Q) :=
  ⟨fun pins s σ H v u Q I r q => q.elim (h.run pins s σ H v u Q I r) (h'.run pins s σ H v u Q I r)⟩
theorem dg_tup {es : List Expr} {k : Nat} {c : Gxs} {n : Nat} {ts : List Nat} (t : Tie X C) (h : DGs X C es c ts) (hn : (assignEach es X.env).length = n := by rfl) (hst : (assignEach es X.env).findIdx? (·.1) = none := by rfl) : DG X C (.Tuple es k pos) (gTu n c) ts := by
  refine pg_imp (pg_or (pg_tup t.calm h hn hst) (pg_lst t.calm h hn hst)) fun v σ H Q ⟨ρ, w, S, d, ρ', E, r, e, q⟩ => ?_
  unfold gTu at e
  split at e
  · split at e
    · rename_i hl
      cases r with
      | tup s r =>
        rw [t.K] at s
        exact .inl ⟨_, _, rfl, s, by rw [r.length]; exact beq_iff_eq.mp hl, ρ, w, S, _, ρ', E, r, e, q⟩
    · cases e
  · split at e
    · rename_i hl
      cases r with
      | lst s h r => exact .inr ⟨_, _, rfl, .inl h, by rw [r.length]; exact beq_iff_eq.mp hl, ρ, w, S, _, ρ', E, r, e, q⟩
    · cases e
  · cases e
/-- target = e, the target no single name -/
def sAsg (f : Ex) (b : Gx) : Sx := fun ρ w => ofR (f ρ w) fun p => match p.1 with
  | .bw _ => .err
  | r => match b r.d ρ with
    | some ρ' => .nx ρ' p.2
    | none => .err
theorem go_asg {f : Ex} {b : Gx} {ts : List Nat} : ∀ (σ : L2.St) (H : Hp) (D : Ends), sT C W (sAsg f b) D σ H → tAsg (eT C W f) (gT C b ts) D σ H := by
  intro σ H D hq
  obtain ⟨ρ, w, S, E, q⟩ := sT_to hq
  refine eT_of E E.rf ((OutOk.ofR E q).imp fun p hp v H1 p1 r1 => ?_)
  obtain ⟨r, w1⟩ := p
  have main : ∀ (nb : ∀ d, r ≠ .bw d), OutOk C W D (match b r.d ρ with | some ρ' => Out.nx ρ' w1 | none => .err) → gT C b ts v σ H1 D.nx := fun nb hp => by
    cases e : b r.d ρ with
    | none => rw [e] at hp; exact hp.elim
    | some ρ' =>
      rw [e] at hp
      exact ⟨ρ, w1, S, r.d, ρ', E.go p1, r1.rp E nb, e, fun σ' E' _ => hp σ' H1 S E'⟩
  cases r with
  | fz d => exact main (fun _ z => nomatch z) hp
  | ow d => exact main (fun _ z => nomatch z) hp
  | bw d => exact hp.elim
theorem ds_asg {tg e : Expr} {f : Ex} {b : Gx} {ts : List Nat} (he : DE X C W e f) (hg : DG X C tg b ts) (hs : swapsWithSole [tg] e pos.line X.env = pure false := by rfl) (hw : swappedStores [tg] e X.env = pure none := by rfl)
    (h1 : (assignEach [tg] X.env).map (·.2) = [assign tg X.env] := by rfl) : DS X C W (.Assign [tg] e pos) (sAsg f b) := ps_imp (ps_asg he hg hs hw h1) go_asg
/-- a, b = e1, e2 with plain names: no pair is made -/
def sPar (i j : Nat) (f : Ax) : Sx := fun ρ w => ofR (f ρ w) fun p => match p.1 with
  | [r1, r2] => match put i ρ r1 with
    | some ρ1 => match put j ρ1 r2 with
      | some ρ2 => .nx ρ2 p.2
      | none => .err
    | none => .err
  | _ => .err

/-! ### what is walked -/
abbrev Ix := DEnv → List Int → Res (List D × List Int)
/-- J yields the things ds; src: what must stand still -/
def ItD (C : Cn) (J : It) (ds : List D) (src : List (V × D)) : Prop := ∀ (S : Addr → Prop) (H : Hp), (∀ a, H a = none → S a) → (∀ v d, (v, d) ∈ src → Rp C.P C.w C.K H S v d) → (∀ p, p ∈ C.lk → H p.1 = some (.frz p.2.1 p.2.2)) →
  (∀ i, i < ds.length → J.go i H ∧ ∀ x H', J.yld i H x H' → Ext H H' ∧ ∃ d, ds[i]? = some d ∧ Rp C.P C.w C.K H' S x d) ∧ ∀ i, ds.length ≤ i → J.stop i H
def iT (C : Cn) (W : WX) (f : Ix) : TI := fun σ H R => ∃ ρ w S, EnvOk C ρ w S σ H ∧ Good C W σ H (f ρ w) fun p => ∀ J H' src, Pst C H H' p.2 → ItD C J p.1 src → (∀ v d, (v, d) ∈ src → Rp C.P C.w C.K H' S v d) → R J H'
abbrev DI (X : Cx) (C : Cn) (W : WX) (tg iter : Expr) (f : Ix) : Prop := PI X tg iter (iT C W f)
theorem pi_imp {tg e : Expr} {t t' : TI} (h : PI X tg e t) (i : ∀ σ H R, t' σ H R → t σ H R) : PI X tg e t' := ⟨fun pins s σ H R I q => h.run pins s σ H R I (i σ H R q)⟩
theorem pi_or {tg e : Expr} {t t' : TI} (h : PI X tg e t) (h' : PI X tg e t') : PI X tg e (fun σ H R => t σ H R ∨ t' σ H R) := ⟨fun pins s σ H R I q => q.elim (h.run pins s σ H R I) (h'.run pins s σ H R I)⟩
theorem itD_list {a : Addr} {ds : List D} : ItD C (Itl C.K a) ds [(.ref a, .list ds)] := by
  intro S H sN hs _
  have r := hs _ _ (List.mem_singleton.mpr rfl)
  cases r with
  | lst s h r =>
    rename_i vs
    have sq : SqL C.K H a vs := .inl h
    refine ⟨fun i hi => ?_, fun i hi => ⟨vs, sq, by rw [r.length]; exact hi⟩⟩
    have hv : i < vs.length := by rw [r.length]; exact hi
    refine ⟨⟨vs, vs[i], sq, List.getElem?_eq_getElem hv⟩, fun x H' y => ?_⟩
    obtain ⟨rfl, y⟩ := y
    obtain ⟨d, e, q⟩ := r.get (y vs sq)
    exact ⟨.refl, d, e, q⟩
theorem itD_tup {a : Addr} {ds : List D} : ItD C (Itt C.K a) ds [(.ref a, .tuple ds)] := by
  intro S H sN hs _
  have r := hs _ _ (List.mem_singleton.mpr rfl)
  cases r with
  | tup s r =>
    rename_i vs
    refine ⟨fun i hi => ?_, fun i hi => ⟨vs, s, by rw [r.length]; exact hi⟩⟩
    have hv : i < vs.length := by rw [r.length]; exact hi
    refine ⟨⟨vs, vs[i], s, List.getElem?_eq_getElem hv⟩, fun x H' y => ?_⟩
    obtain ⟨rfl, y⟩ := y
    obtain ⟨d, e, q⟩ := r.get (y vs s)
    exact ⟨.refl, d, e, q⟩
def rngD (lo : Int) : Nat → List D
  | 0 => []
  | n + 1 => .int lo :: rngD (lo + 1) n
theorem rngD_length : ∀ (lo : Int) (n : Nat), (rngD lo n).length = n
  | _, 0 => rfl
  | lo, n + 1 => by unfold rngD; rw [List.length_cons, rngD_length]
theorem rngD_get : ∀ (lo : Int) (n i : Nat), i < n → (rngD lo n)[i]? = some (.int (lo + i))
  | _, 0, _, h => absurd h (Nat.not_lt_zero _)
  | lo, n + 1, 0, _ => by unfold rngD; simp
  | lo, n + 1, i + 1, h => by
    unfold rngD
    rw [List.getElem?_cons_succ, rngD_get (lo + 1) n i (by omega)]
    congr 2; push_cast; omega
theorem itD_rng {lo : Int} {n : Nat} : ItD C (Itr lo n) (rngD lo n) [] := by
  intro S H sN hs _
  refine ⟨fun i hi => ?_, fun i hi => by rw [rngD_length] at hi; exact hi⟩
  rw [rngD_length] at hi
  refine ⟨hi, fun x H' y => ?_⟩
  obtain ⟨rfl, rfl⟩ := y
  exact ⟨.refl, _, rngD_get lo n i hi, .int _⟩
/-- a list or a tuple walked -/
def iSeq (f : Ex) : Ix := fun ρ w => (f ρ w).bind fun p => match p.1 with
  | .bw _ => .err
  | r => match r.d with
    | .list ds => .ok (ds, p.2)
    | .tuple ds => .ok (ds, p.2)
    | _ => .err
theorem di_list {tg e : Expr} {f : Ex} (t : Tie X C) (he : DE X C W e f) : DI X C W tg e (iSeq f) := by
  have pl := pi_list (tg := tg) he
  have pt := pi_tup (tg := tg) he
  refine ⟨fun pins s σ H R I hq => ?_⟩
  obtain ⟨ρ, w, S, E, q⟩ := hq
  unfold iSeq at q
  -- which of both it is tells the value
  have q := q.bind
  cases e1 : f ρ w with
  | err => rw [e1] at q; exact q.elim
  | exc c d =>
    rw [e1] at q
    exact pl.run pins s σ H R I (eT_of E E.rf (by rw [e1]; exact q))
  | ok p =>
    obtain ⟨r, w1⟩ := p
    rw [e1] at q
    have nb : ∀ d, r ≠ .bw d := fun d z => by subst z; exact q
    have q : Good C W σ H (match r.d with | .list ds => Res.ok (ds, w1) | .tuple ds => .ok (ds, w1) | _ => .err) fun p => ∀ J H' src, Pst C H H' p.2 → ItD C J p.1 src → (∀ v d, (v, d) ∈ src → Rp C.P C.w C.K H' S v d) → R J H' := by
      revert q
      cases r with
      | fz d => exact fun q => q
      | ow d => exact fun q => q
      | bw d => exact absurd rfl (nb d)
    cases e2 : r.d with
    | list ds =>
      rw [e2] at q
      refine pl.run pins s σ H R I (eT_of E E.rf (by
        rw [e1]
        intro v H1 p1 r1
        have rr := r1.rp E nb
        rw [e2] at rr
        obtain ⟨a, vs, rfl, ra, pa⟩ := Lt.list (C := C) (.inl rr)
        refine ⟨a, rfl, ⟨vs, .inl ra⟩, ?_⟩
        rw [← t.K]
        exact q _ H1 _ p1 itD_list fun v d m => by cases List.mem_singleton.mp m; exact rr))
    | tuple ds =>
      rw [e2] at q
      refine pt.run pins s σ H R I (eT_of E E.rf (by
        rw [e1]
        intro v H1 p1 r1
        have rr := r1.rp E nb
        rw [e2] at rr
        obtain ⟨a, vs, rfl, ra, pa⟩ := Lt.tuple (C := C) (.inl rr)
        refine ⟨a, rfl, ⟨vs, by rw [← t.K]; exact ra⟩, ?_⟩
        rw [← t.K]
        exact q _ H1 _ p1 itD_tup fun v d m => by cases List.mem_singleton.mp m; exact rr))
    | none => rw [e2] at q; exact q.elim
    | bool b => rw [e2] at q; exact q.elim
    | int b => rw [e2] at q; exact q.elim
    | str b => rw [e2] at q; exact q.elim
    | dict b => rw [e2] at q; exact q.elim
def rngOk (i : Int) : Bool := decide (i.natAbs < 4611686018427387904)
theorem rngOk_and {i : Int} (h : rngOk i = true) : (decide (-(2 ^ 62) ≤ i) && decide (i < 2 ^ 62)) = true := by
  have h := of_decide_eq_true h
  have e : (2 : Int) ^ 62 = 4611686018427387904 := by decide
  rw [e, Bool.and_eq_true, decide_eq_true_eq, decide_eq_true_eq]
  omega
def iRg1 (f : Ax) : Ix := fun ρ w => (f ρ w).bind fun p => match p.1.map RV.d with
  | [.int j] => if rngOk j then .ok (rngD 0 j.toNat, p.2) else .err
  | _ => .err
def iRg2 (f : Ax) : Ix := fun ρ w => (f ρ w).bind fun p => match p.1.map RV.d with
  | [.int i, .int j] => if rngOk i && rngOk j then .ok (rngD i (j - i).toNat, p.2) else .err
  | _ => .err
theorem di_rng1 {tg a : Expr} {f : Ax} {p pos : Pos} (hg : Gl X "range") (hm : X.mg "range" = none) (ha : DA X C W [a] f) (hs : starEach [a] X.env = [(false, eval a X.env)] := by rfl) : DI X C W tg (.Call (.Name "range" p) [a] [] pos) (iRg1 f) := by
  refine pi_imp (pi_range1 hg hm ha hs) fun σ H R hq => ?_
  obtain ⟨ρ, w, S, E, q⟩ := hq
  unfold iRg1 at q
  refine aT_of E E.rf (q.bind.imp fun p hp vs H1 p1 r1 => ?_)
  have l := r1.lts (ρ := ρ) (w := w) (σ := σ)
  revert hp
  split
  · rename_i j hj
    rw [hj] at l
    intro hp
    obtain ⟨x, rfl, lx⟩ := l.one
    have e := lx.int
    subst e
    split at hp
    · rename_i hc
      have hc := Bool.and_eq_true_iff.mp (rngOk_and hc)
      refine ⟨_, rfl, of_decide_eq_true hc.1, of_decide_eq_true hc.2, hp _ H1 [] p1 itD_rng fun v d m => by cases m⟩
    · exact hp.elim
  · exact fun hp => hp.elim
theorem di_rng2 {tg a b : Expr} {f : Ax} {p pos : Pos} (hg : Gl X "range") (hm : X.mg "range" = none) (ha : DA X C W [a, b] f) (hs : starEach [a, b] X.env = [(false, eval a X.env), (false, eval b X.env)] := by rfl) (hs2 : starEach [b] X.env = [(false, eval b X.env)] := by rfl) : DI X C W tg (.Call (.Name "range" p) [a, b] [] pos) (iRg2 f) := by
  refine pi_imp (pi_range2 hg hm ha hs hs2) fun σ H R hq => ?_
  obtain ⟨ρ, w, S, E, q⟩ := hq
  unfold iRg2 at q
  refine aT_of E E.rf (q.bind.imp fun p hp vs H1 p1 r1 => ?_)
  have l := r1.lts (ρ := ρ) (w := w) (σ := σ)
  revert hp
  split
  · rename_i i j hj
    rw [hj] at l
    intro hp
    obtain ⟨x, y, rfl, lx, ly⟩ := l.two
    have e := lx.int
    subst e
    have e := ly.int
    subst e
    split at hp
    · rename_i hc
      have hc := Bool.and_eq_true_iff.mp hc
      have h1 := Bool.and_eq_true_iff.mp (rngOk_and hc.1)
      have h2 := Bool.and_eq_true_iff.mp (rngOk_and hc.2)
      refine ⟨_, _, rfl, ⟨of_decide_eq_true h1.1, of_decide_eq_true h1.2, of_decide_eq_true h2.1, of_decide_eq_true h2.2⟩, hp _ H1 [] p1 itD_rng fun v d m => by cases m⟩
    · exact hp.elim
  · exact fun hp => hp.elim

/-! ### for -/
def loopL (b : Gx) (g : Sx) : List D → Sx
  | [], ρ, w => .nx ρ w
  | d :: ds, ρ, w => match b d ρ with
    | none => .err
    | some ρ1 => match g ρ1 w with
      | .nx ρ' w' => loopL b g ds ρ' w'
      | .ct ρ' w' => loopL b g ds ρ' w'
      | .bk ρ' w' => .nx ρ' w'
      | o => o
def sFor (f : Ix) (b : Gx) (g : Sx) : Sx := fun ρ w => ofR (f ρ w) fun p => loopL b g p.1 ρ p.2
theorem ds_for {tg iter : Expr} {body : List Stmt} {f : Ix} {b : Gx} {g : Sx} {ts : List Nat} (hp : PassesOwn (model X.prog X.w) X.A X.env X.xe) (t : Tie X C) (hi : DI X C W tg iter f) (hg : ∀ l, DG X (C.hide l) tg b ts) (hb : ∀ l, DSs X (C.hide l) W body g) (hs : ∀ x, foldedSetIterable iter X.env x = pure x := by intro _; rfl) :
    DS X C W (.For tg iter body [] pos) (sFor f b g) := by
  refine ps_imp (ps_for (g := fun v σ H Q => ∃ l, gT (C.hide l) b ts v σ H Q) (tb := fun D σ H => ∃ l, sT (C.hide l) W g D σ H) hp t.calm hi ⟨fun pins s σ H v u Q I r ⟨l, q⟩ => (hg l).run pins s σ H v u Q I r q⟩ ⟨fun pins s σ H D I ⟨l, q⟩ => (hb l).run pins s σ H D I q⟩ hs) fun σ H D hq => ?_
  obtain ⟨ρ, w, S, E, q⟩ := sT_to hq
  refine ⟨ρ, w, S, E, (OutOk.ofR E q).imp fun p hp J H1 src p1 it hsrc => ?_⟩
  obtain ⟨ds, w1⟩ := p
  refine ⟨fun i m σ H => m + i = ds.length ∧ ∃ ρ w S, EnvOk (C.hide src) ρ w S σ H ∧ OutOk C W D (loopL b g (ds.drop i) ρ w), ⟨ds.length, rfl, ρ, w1, S, (E.go p1).hide hsrc, hp⟩, ?_⟩
  intro i m σ H ⟨hm, ρ, w, S, E, q⟩
  obtain ⟨i1, i2⟩ := it S H E.sN (fun v d m => E.hi v d (List.mem_append.mpr (.inl m))) E.lo
  cases m with
  | zero =>
    refine .inl ⟨i2 i (by show ds.length ≤ i; omega), ?_⟩
    rw [List.drop_eq_nil_of_le (by omega)] at q
    exact q σ H S E.show
  | succ m =>
    have hi : i < ds.length := by omega
    obtain ⟨go, yl⟩ := i1 i hi
    refine .inr ⟨go, fun σ H => m + (i + 1) = ds.length ∧ ∃ ρ w S, EnvOk (C.hide src) ρ w S σ H ∧ OutOk C W D (loopL b g (ds.drop (i + 1)) ρ w), fun σ' H' z => ⟨m, Nat.lt_succ_self m, z⟩, fun x H' y => ?_⟩
    obtain ⟨ex, d, ed, rd⟩ := yl x H' y
    have E' := E.go (ex.pst E)
    rw [List.drop_eq_getElem_cons hi] at q
    have ed' : ds[i] = d := by rw [List.getElem?_eq_getElem hi] at ed; exact Option.some.inj ed
    rw [ed'] at q
    unfold loopL at q
    cases eb : b d ρ with
    | none => rw [eb] at q; exact q.elim
    | some ρ1 =>
      rw [eb] at q
      refine ⟨src, ρ, w, S, d, ρ1, E', rd, eb, fun σ1 E1 _ => ⟨src, sT_of E1 ?_⟩⟩
      revert q
      simp only
      cases g ρ1 w with
      | nx ρ' w' => exact fun q σ' H' S' E2 => ⟨by omega, ρ', w', S', E2, q⟩
      | ct ρ' w' => exact fun q σ' H' S' E2 => ⟨by omega, ρ', w', S', E2, q⟩
      | bk ρ' w' => exact fun q σ' H' S' E2 => q σ' H' S' E2.show
      | rt r w' => exact fun q v H' σ1 H1 ρ1 w1 S1 E2 p2 r2 => q v H' σ1 H1 ρ1 w1 S1 E2.show ⟨p2.g, p2.st, p2.tb⟩ r2
      | exc c d => exact fun q σ' H' da ρ1 w1 S1 E2 hp => q σ' H' da ρ1 w1 S1 E2.show hp
      | err => exact fun q => q

/-! ### while -/
def whileN (t : Tx) (g : Sx) : Nat → Sx
  | 0, _, _ => .err
  | n + 1, ρ, w => ofR (t ρ w) fun p => if p.1 then (match g ρ p.2 with
      | .nx ρ' w' => whileN t g n ρ' w'
      | .ct ρ' w' => whileN t g n ρ' w'
      | .bk ρ' w' => .nx ρ' w'
      | o => o) else .nx ρ p.2
/-- so many turns at most -/
def lid : Nat := 1000000000
def sWhile (t : Tx) (g : Sx) : Sx := fun ρ w => whileN t g lid ρ w
theorem ds_while {c : Expr} {body : List Stmt} {tf : Tx} {g : Sx} (hp : PassesOwn (model X.prog X.w) X.A X.env X.xe) (hc : DT X C W c tf) (hb : DSs X C W body g) : DS X C W (.While c body [] pos) (sWhile tf g) := by
  refine ps_imp (ps_while hp hc hb) fun σ H D hq => ?_
  obtain ⟨ρ, w, S, E, q⟩ := sT_to hq
  refine ⟨fun m σ H => ∃ ρ w S, EnvOk C ρ w S σ H ∧ OutOk C W D (whileN tf g m ρ w), ⟨lid, ρ, w, S, E, q⟩, ?_⟩
  intro m σ H ⟨ρ, w, S, E, q⟩
  cases m with
  | zero => exact q.elim
  | succ m =>
    unfold whileN at q
    refine tT_of E E.rf ((OutOk.ofR E q).imp fun p hp H1 p1 => ?_)
    obtain ⟨k, w1⟩ := p
    cases k with
    | false => exact hp σ H1 S (E.go p1)
    | true =>
      refine ⟨fun σ H => ∃ ρ w S, EnvOk C ρ w S σ H ∧ OutOk C W D (whileN tf g m ρ w), fun σ' H' z => ⟨m, Nat.lt_succ_self m, z⟩, sT_of (E.go p1) ?_⟩
      revert hp
      simp only [if_true]
      cases g ρ w1 with
      | nx ρ' w' => exact fun q σ' H' S' E2 => ⟨ρ', w', S', E2, q⟩
      | ct ρ' w' => exact fun q σ' H' S' E2 => ⟨ρ', w', S', E2, q⟩
      | bk ρ' w' => exact fun q => q
      | rt r w' => exact fun q => q
      | exc c d => exact fun q => q
      | err => exact fun q => q
end
end DL
namespace DL
open PySem PySem.Spec PyProof.Rows L2

/-! ### things that change: a list, a dict of one's own -/
theorem ext_code {c : Addr} {q : Str} {P : Program} {w : World} {a : Addr} {xs : List (NestedKey × Addr × V)} : LamX.CodeO c q ≠ DN P w a xs := by
  intro e
  -- a heap with a code object at c would be one with a dict
  unfold LamX.CodeO DN at e
  have e1 := HO.ext.inj e
  let ob : Obj := { cls := .none, data := .fields #[.none, .str q 0] }
  let h : Heap := ⟨(List.replicate (c + 1) ob).toArray, {}⟩
  have at_ : ∀ b o, h.get? b = some o → o = ob := fun b o hb => by
    have hb : (match (List.replicate (c + 1) ob).toArray[b]? with | some ⟨_, _, .freed, _⟩ => none | o => o) = some o := hb
    rw [List.getElem?_toArray, List.getElem?_replicate] at hb
    split at hb
    · cases hb
    · split at hb
      · exact (Option.some.inj hb).symm
      · cases hb
  have hc : h.get? c = some ob := by
    show (match (List.replicate (c + 1) ob).toArray[c]? with | some ⟨_, _, .freed, _⟩ => none | o => o) = some ob
    rw [List.getElem?_toArray, List.getElem?_replicate, if_pos (Nat.lt_succ_self c)]
  have l : DNφ P w a xs h := by
    rw [← e1]
    exact ⟨ob, _, 0, hc, rfl, rfl⟩
  obtain ⟨o, es, ep, ys, ho, _, hd, _⟩ := l
  rw [at_ a o ho] at hd
  cases hd
theorem tabs_upd {T : List NdefX.NTab} {H : Hp} {p : Addr} {o o' : HO} (h : NdefX.TabsN T H) (hp : H p = some o) (ho : (∃ xs, o = .lst xs) ∨ ∃ P w xs, o = DN P w p xs) : NdefX.TabsN T (upd H p o') := by
  have nt : ∀ b ps, H b = some (.tbl ps) → b ≠ p := fun b ps e z => by
    subst z
    rw [hp] at e
    rcases ho with ⟨xs, rfl⟩ | ⟨P, w, xs, rfl⟩
    · cases e
    · exact DN_tbl ps (Option.some.inj e)
  have nc : ∀ b q, H b = some (LamX.CodeO b q) → b ≠ p := fun b q e z => by
    subst z
    rw [hp] at e
    rcases ho with ⟨xs, rfl⟩ | ⟨P, w, xs, rfl⟩
    · unfold LamX.CodeO at e; cases e
    · exact ext_code (Option.some.inj e).symm
  intro t ht
  obtain ⟨ps, h1, h2, h3⟩ := h t ht
  refine ⟨ps, by rw [upd_ne (nt _ _ h1)]; exact h1, h2, fun pos cv hc => ?_⟩
  obtain ⟨c, e1, e2⟩ := h3 pos cv hc
  exact ⟨c, e1, by rw [upd_ne (nc _ _ e2)]; exact e2⟩
/-- what is not p's stays when p turns -/
theorem kept_upd {S : Addr → Prop} {H : Hp} {p : Addr} {o o' : HO} (hS : ¬ S p) (hp : H p = some o) (ho : (∃ xs, o = .lst xs) ∨ ∃ P w xs, o = DN P w p xs) : Kept S H (upd H p o') := by
  have nt : ∀ b vs, Rd H b (.tup vs) → b ≠ p := fun b vs e z => by
    subst z
    rcases e with e | ⟨ob, e⟩ <;> rw [hp] at e
    · rcases ho with ⟨xs, rfl⟩ | ⟨P, w, xs, rfl⟩
      · cases e
      · unfold DN at e; cases e
    · rcases ho with ⟨xs, rfl⟩ | ⟨P, w, xs, rfl⟩
      · cases e
      · unfold DN at e; cases e
  have rd : ∀ b u, b ≠ p → Rd H b u → Rd (upd H p o') b u := fun b u ne h => h.elim (fun h => .inl (by rw [upd_ne ne]; exact h)) fun ⟨ob, h⟩ => .inr ⟨ob, by rw [upd_ne ne]; exact h⟩
  exact ⟨fun a vs h => rd _ _ (nt a vs h) h, fun a vs s h => rd _ _ (fun z => hS (z ▸ s)) h, fun P w a xs s h => rd _ _ (fun z => hS (z ▸ s)) h⟩

section
variable {C : Cn} {ρ : DEnv} {w w' : List Int} {S : Addr → Prop} {σ : L2.St} {H H' : Hp} {p : Addr} {o o' : HO}
/-- p is none of the names' own -/
def Free (ρ : DEnv) (σ : L2.St) (p : Addr) : Prop := ∀ (i : Nat) (d : D), ρ[i]? = some (some (.ow d)) → σ[i]? ≠ some (some (.ref p))
/-- a list, a dict that may turn is no locked one -/
theorem frz_ne {p : Addr} {o : HO} {ob : Obj} {u : HO} (ho : (∃ xs, o = .lst xs) ∨ ∃ P w xs, o = DN P w p xs) : some o ≠ some (HO.frz ob u) := fun z => by
  rcases ho with ⟨xs, rfl⟩ | ⟨P, w, xs, rfl⟩
  · cases z
  · unfold DN at z; cases z
/-- a new thing that no name holds -/
theorem EnvOk.lay (E : EnvOk C ρ w S σ H) (hp : H p = none) : EnvOk C ρ w (fun a => S a ∧ a ≠ p) σ (upd H p o) ∧ Free ρ σ p := by
  have x := (Ext.new (o := o) hp)
  have k := x.kept (S := fun a => S a ∧ a ≠ p)
  refine ⟨⟨E.len, fun i e h => ?_, E.apart, fun a h => ?_, fun a h => E.sB a h.1, fun q e => x.keep _ _ (E.st q e), fun q e z => E.sW q e z.1, fun a u h n q => ?_, fun a h => E.gn a (x.nn a h), E.tb.ext x.keep, E.sl, fun v d m => ((E.hi v d m).avoid hp).mono k fun _ z => z, fun q m => x.keep _ _ (E.lo q m)⟩, fun i d h z => ?_⟩
  · obtain ⟨v, h1, h2⟩ := E.val i e h
    refine ⟨v, h1, ?_⟩
    cases e with
    | fz d => exact (Rp.avoid hp h2).mono k fun _ z => z
    | ow d =>
      obtain ⟨q, e, ow, n, s, z⟩ := h2
      refine ⟨q, e, ?_, n, fun y => s y.1, z⟩
      cases ow with
      | lst e r => exact .lst (x.keep _ _ e) ((r.avoid hp).mono k fun _ z => z)
      | dct e r => exact .dct (x.keep _ _ e) ((r.avoid hp).mono k fun _ z => z)
    | fn _ => exact h2
    | lk kvs =>
      obtain ⟨c, u, xs, e, s, f, r⟩ := h2
      exact ⟨c, u, xs, e, ⟨s, fun z => by have := E.lo _ f; rw [show (c, u, DN C.P C.w c xs).1 = p from z, hp] at this; cases this⟩, f, (r.avoid hp).mono k fun _ z => z⟩
  · by_cases e : a = p
    · subst e; rw [upd_same] at h; cases h
    · rw [upd_ne e] at h; exact ⟨E.sN a h, e⟩
  · obtain ⟨a1, a2⟩ := E.gk a u h n q
    exact ⟨fun l => x.keep _ _ (a1 l), fun l => (a2 l).imp (x.keep _ _) fun ⟨ob, z⟩ => ⟨ob, x.keep _ _ z⟩⟩
  · obtain ⟨v, h1, q, e, ow, _⟩ := E.val i _ h
    rw [z] at h1; cases h1; cases e
    exact ow.ne hp
/-- .. is turned -/
theorem EnvOk.turn (E : EnvOk C ρ w S σ H) (hf : Free ρ σ p) (hS : ¬ S p) (h0 : C.H0 p = none) (hw : C.pw ≠ some p) (hp : H p = some o) (ho : (∃ xs, o = .lst xs) ∨ ∃ P w xs, o = DN P w p xs) : EnvOk C ρ w S σ (upd H p o') := by
  have k := kept_upd (o' := o') hS hp ho
  have ne0 : ∀ a u, C.H0 a = some u → a ≠ p := fun a u h z => by rw [z, h0] at h; cases h
  refine ⟨E.len, fun i e h => ?_, E.apart, fun a h => ?_, E.sB, fun q e => ?_, E.sW, fun a u h n q => ?_, fun a h => ?_, tabs_upd E.tb hp ho, E.sl, fun v d m => (E.hi v d m).mono k fun _ z => z, fun q m => by rw [upd_ne (fun z => frz_ne ho (by rw [← hp, ← z]; exact E.lo q m))]; exact E.lo q m⟩
  · obtain ⟨v, h1, h2⟩ := E.val i e h
    refine ⟨v, h1, ?_⟩
    cases e with
    | fz d => exact Rp.mono k (fun _ z => z) h2
    | ow d =>
      obtain ⟨q, e, ow, n, s, z⟩ := h2
      have qp : q ≠ p := fun y => hf i d h (by rw [h1, e, y])
      refine ⟨q, e, ?_, n, s, z⟩
      cases ow with
      | lst e r => exact .lst (by rw [upd_ne qp]; exact e) (r.mono k fun _ z => z)
      | dct e r => exact .dct (by rw [upd_ne qp]; exact e) (r.mono k fun _ z => z)
    | fn _ => exact h2
    | lk kvs =>
      obtain ⟨c, u, xs, e, s, f, r⟩ := h2
      exact ⟨c, u, xs, e, s, f, r.mono k fun _ z => z⟩
  · by_cases e : a = p
    · subst e; rw [upd_same] at h; cases h
    · rw [upd_ne e] at h; exact E.sN a h
  · have qp : q ≠ p := fun z => hw (by rw [← z]; exact e)
    rw [upd_ne qp]; exact E.st q e
  · rw [upd_ne (ne0 a u h)]
    exact E.gk a u h n q
  · by_cases e : a = p
    · subst e; exact h0
    · rw [upd_ne e] at h; exact E.gn a h
/-- the slots of a block's own names -/
def wipeE (ρ : DEnv) : List Nat → DEnv
  | [] => ρ
  | v :: vs => (wipeE ρ vs).set v none
theorem wipeE_get {ρ : DEnv} {i : Nat} {e : EV} : ∀ {vs : List Nat}, (wipeE ρ vs)[i]? = some (some e) → ρ[i]? = some (some e) ∧ i ∉ vs
  | [], h => ⟨h, by simp⟩
  | v :: vs, h => by
    unfold wipeE at h
    rcases get_set h with ⟨_, z⟩ | ⟨hi, h⟩
    · cases z
    · obtain ⟨h1, h2⟩ := wipeE_get h
      exact ⟨h1, by simp [hi, h2]⟩
theorem wipeE_out {ρ : DEnv} {i : Nat} : ∀ {vs : List Nat}, i ∉ vs → (wipeE ρ vs)[i]? = ρ[i]?
  | [], _ => rfl
  | v :: vs, h => by
    unfold wipeE
    rw [List.getElem?_set_ne (fun z => h (by simp [z])), wipeE_out (fun z => h (List.mem_cons_of_mem _ z))]
theorem wipe_out {σ : L2.St} {i : Nat} : ∀ {vs : List Nat}, i ∉ vs → (wipe σ vs)[i]? = σ[i]?
  | [], _ => rfl
  | v :: vs, h => by
    unfold wipe
    rw [List.getElem?_set_ne (fun z => h (by simp [z])), wipe_out (fun z => h (List.mem_cons_of_mem _ z))]
theorem wipeE_length (ρ : DEnv) : ∀ vs : List Nat, (wipeE ρ vs).length = ρ.length
  | [] => rfl
  | v :: vs => by unfold wipeE; rw [List.length_set, wipeE_length ρ vs]
theorem EnvOk.wiped {vs : List Nat} (E : EnvOk C ρ w S σ H) (hv : C.pw = none ∨ C.pi ∉ vs) : EnvOk C (wipeE ρ vs) w S (wipe σ vs) H where
  len := by rw [wipe_length, wipeE_length]; exact E.len
  val := fun i e h => by
    obtain ⟨h1, h2⟩ := wipeE_get h
    rw [wipe_out h2]
    exact E.val i e h1
  apart := fun i j d e p h1 h2 s1 s2 => by
    obtain ⟨h1, n1⟩ := wipeE_get h1
    obtain ⟨h2, n2⟩ := wipeE_get h2
    rw [wipe_out n1] at s1
    rw [wipe_out n2] at s2
    exact E.apart i j d e p h1 h2 s1 s2
  sN := E.sN
  sB := E.sB
  st := E.st
  sW := E.sW
  gk := E.gk
  gn := E.gn
  tb := E.tb
  sl := fun p e => by
    have n : C.pi ∉ vs := hv.elim (fun z => by rw [z] at e; cases e) id
    rw [wipe_out n, wipeE_out n]
    exact E.sl p e
  hi := E.hi
  lo := E.lo
/-- what differs in the wiped places alone is wiped to the same -/
theorem wipe_but {σ σ' : L2.St} {vs : List Nat} (h : But vs (wipe σ vs) σ') : wipe σ' vs = wipe σ vs := by
  have at_ : ∀ (τ : L2.St) (j : Nat) (us : List Nat), j ∈ us → j < τ.length → (wipe τ us)[j]? = some none := by
    intro τ j us
    induction us with
    | nil => intro h; cases h
    | cons u us ih =>
      intro h hj
      unfold wipe
      by_cases e : u = j
      · subst e
        rw [List.getElem?_set_self (by rw [wipe_length]; exact hj)]
      · rw [List.getElem?_set_ne e]
        exact ih ((List.mem_cons.mp h).resolve_left (Ne.symm e)) hj
  have hl : σ'.length = σ.length := h.1.trans (wipe_length σ vs)
  apply List.ext_getElem?
  intro j
  by_cases hj : j ∈ vs
  · by_cases hlt : j < σ.length
    · rw [at_ σ' j vs hj (by omega), at_ σ j vs hj hlt]
    · rw [List.getElem?_eq_none (by rw [wipe_length]; omega), List.getElem?_eq_none (by rw [wipe_length]; omega)]
  · rw [wipe_out hj, h.2 j hj]
end

/-! ### list comprehensions -/
/-- the tests of a clause -/
abbrev DPs (X : Cx) (C : Cn) (W : WX) (ifs : List Expr) (t : Tx) : Prop := PTs X ifs (tT C W t)
theorem pts_imp {X : Cx} {e : List Expr} {t t' : TT} (h : PTs X e t) (i : ∀ σ H Q, t' σ H Q → t σ H Q) : PTs X e t' := ⟨fun pins s σ H Q I q => h.run pins s σ H Q I (i σ H Q q)⟩
def tTrue : Tx := fun _ w => .ok (true, w)
theorem dp_nil {X : Cx} {C : Cn} {W : WX} : DPs X C W [] tTrue := pts_imp pts_nil fun σ H Q hq => by
  obtain ⟨ρ, w, S, E, h⟩ := tT_to hq
  exact h H E.rf
theorem dp_one {X : Cx} {C : Cn} {W : WX} {c : Expr} {t : Tx} (h : DT X C W c t) : DPs X C W [c] t := pts_one h
/-- the items of a comprehension: the env ahead of each turn is ρ -/
def lcL (b : Gx) (t : Tx) (e : Ex) : List D → DEnv → List Int → Res (List D × List Int)
  | [], _, w => .ok ([], w)
  | d :: ds, ρ, w => match b d ρ with
    | none => .err
    | some ρ1 => (t ρ1 w).bind fun p => if p.1 then (e ρ1 p.2).bind fun q => match q.1 with
        | .bw _ => .err
        | r => (lcL b t e ds ρ q.2).bind fun z => .ok (r.d :: z.1, z.2)
      else lcL b t e ds ρ p.2
/-- a block lets nothing out -/
def noX {α : Type} (R : Res α) : Res α := match R with
  | .ok a => .ok a
  | _ => .err
def eLc (vs : List Nat) (f : Ix) (b : Gx) (t : Tx) (e : Ex) : Ex := fun ρ w => (f ρ w).bind fun p => (noX (lcL b t e p.1 (wipeE ρ vs) p.2)).bind fun z => if bz z.1.length then .ok (.ow (.list z.1), z.2) else .err
/-- no exception leaves a block -/
abbrev W0 : WX := fun _ _ _ _ => False
theorem bind_ok {α β : Type} {R : Res α} {f : α → Res β} {b : β} (h : R.bind f = .ok b) : ∃ a, R = .ok a ∧ f a = .ok b := by
  cases R with
  | ok a => exact ⟨a, rfl, h⟩
  | exc c d => cases h
  | err => cases h
/-- the items behind acc end well -/
def FinL (C : Cn) (H : Hp) (S : Addr → Prop) (Q : VK) (R : Res (List D × List Int)) (acc : List D) : Prop := ∃ zs w', R = .ok (zs, w') ∧ (acc ++ zs).length ≤ sizeLine ∧ ∀ v H', Pst C H H' w' → RvOk C H H' S v (.ow (.list (acc ++ zs))) → Q v H'
/-- the places of a block's own names -/
abbrev ownS (own : List (Str × Nat)) : List Nat := own.map fun p => p.2
section
variable {X : Cx} {C : Cn} {W : WX}
theorem go_lc {own : List (Str × Nat)} {f : Ix} {b : Gx} {tf : Tx} {ef : Ex} {ts : List Nat} (hv : C.pw = none ∨ C.pi ∉ ownS own) (hts : ∀ j ∈ ts, j ∈ ownS own) : ∀ (σ : L2.St) (H : Hp) (Q : VK), eT C W (eLc (ownS own) f b tf ef) σ H Q → tLc (iT C W f) (gT C b ts) (tT C W0 tf) (eT C W0 ef) (ownS own) σ H Q := by
  intro σ H Q hq
  obtain ⟨ρ, w, S, E, q⟩ := eT_to hq
  unfold eLc at q
  refine ⟨ρ, w, S, E, q.bind.imp fun p hp J H1 src p1 it hsrc Dn hn => ?_⟩
  obtain ⟨ds, w1⟩ := p
  have E1 := E.go p1
  have hH : H Dn = none := p1.g.nn _ hn
  have h0 : C.H0 Dn = none := E1.gn Dn hn
  have hw : C.pw ≠ some Dn := fun z => by have := E1.st Dn z; rw [hn] at this; cases this
  obtain ⟨E2, fr⟩ := (E1.wiped hv).lay (o := .lst []) hn
  have fin0 : FinL C H S Q (lcL b tf ef ds (wipeE ρ (ownS own)) w1) [] := by
    revert hp
    show Good C W σ H ((noX (lcL b tf ef ds (wipeE ρ (ownS own)) w1)).bind _) _ → _
    cases lcL b tf ef ds (wipeE ρ (ownS own)) w1 with
    | ok z =>
      obtain ⟨zs, w2⟩ := z
      intro hp
      have hp : Good C W σ H (if bz zs.length = true then Res.ok (RV.ow (.list zs), w2) else .err) fun p => ∀ v H', Pst C H H' p.2 → RvOk C H H' S v p.1 → Q v H' := hp
      split at hp
      · rename_i hz
        exact ⟨zs, w2, rfl, of_decide_eq_true hz, hp⟩
      · exact hp.elim
    | exc c d => exact fun h => h.elim
    | err => exact fun h => h.elim
  refine ⟨fun i m Hc => m + i = ds.length ∧ ∃ wc acc accD, EnvOk C (wipeE ρ (ownS own)) wc (fun a => S a ∧ a ≠ Dn) (wipe σ (ownS own)) Hc ∧ Hc Dn = some (.lst acc) ∧ Rps C.P C.w C.K Hc (fun a => S a ∧ a ≠ Dn) acc accD ∧
      Grow C.pw H Hc ∧ (∀ v d, (v, d) ∈ src → Rp C.P C.w C.K Hc (fun a => S a ∧ a ≠ Dn) v d) ∧ FinL C H S Q (lcL b tf ef (ds.drop i) (wipeE ρ (ownS own)) wc) accD,
    ⟨ds.length, rfl, w1, [], [], E2, upd_same, .nil, p1.g.trans (Grow.new hn), fun v d m => ((hsrc v d m).avoid hn).mono (Ext.new hn).kept fun _ z => z, fin0⟩, ?_⟩
  intro i m Hc ⟨hm, wc, acc, accD, Ec, hD, ra, gr, hs', fin⟩
  obtain ⟨i1, i2⟩ := it _ Hc Ec.sN hs' Ec.lo
  cases m with
  | zero =>
    refine .inl ⟨i2 i (by show ds.length ≤ i; omega), ?_⟩
    rw [List.drop_eq_nil_of_le (by omega)] at fin
    obtain ⟨zs, w', e, _, fin⟩ := fin
    cases e
    rw [List.append_nil] at fin
    exact fin _ Hc ⟨gr, Ec.st, Ec.tb⟩ ⟨Dn, rfl, .lst hD ra, hH⟩
  | succ m =>
    have hi : i < ds.length := by omega
    obtain ⟨go, yl⟩ := i1 i hi
    rw [List.drop_eq_getElem_cons hi] at fin
    obtain ⟨zs0, w0, fin, fl⟩ := fin
    unfold lcL at fin
    refine .inr ⟨go, _, fun H' z => ⟨m, Nat.lt_succ_self m, z⟩, fun x H' y => ?_⟩
    obtain ⟨ex, d, ed, rd⟩ := yl x H' y
    have px := ex.pst Ec
    have Ey := Ec.go px
    have ed' : ds[i] = d := by rw [List.getElem?_eq_getElem hi] at ed; exact Option.some.inj ed
    rw [ed'] at fin
    cases eb : b d (wipeE ρ (ownS own)) with
    | none => rw [eb] at fin; cases fin
    | some ρ1 =>
      rw [eb] at fin
      obtain ⟨⟨k, wt⟩, et, fin⟩ := bind_ok fin
      refine ⟨_, wc, _, d, ρ1, Ey, rd, eb, fun σ2 Es bt => ⟨wipe_but ⟨bt.1, fun j hj => bt.2 j fun z => hj (hts j z)⟩, ?_⟩⟩
      -- a turn's end at H4: as it was, the new item behind
      have keepOn : ∀ (H4 : Hp) (w4 : List Int), Pst C Hc H4 w4 → H4 Dn = some (.lst acc) ∧ EnvOk C (wipeE ρ (ownS own)) w4 (fun a => S a ∧ a ≠ Dn) (wipe σ (ownS own)) H4 := fun H4 w4 p4 =>
        ⟨p4.g.keep _ _ hD (fun _ z => nomatch z) hw, Ec.go p4⟩
      refine tT_of Es Es.rf (by
          rw [et]
          intro H3 p3
          have pc3 := px.trans p3
          cases k with
          | false =>
            obtain ⟨hD3, E3⟩ := keepOn H3 wt pc3
            exact ⟨by omega, wt, acc, accD, E3, hD3, ra.mono (Ec.kept pc3.g) (fun _ z => z), gr.trans pc3.g, fun v d m => (hs' v d m).mono (Ec.kept pc3.g) fun _ z => z, zs0, w0, fin, fl⟩
          | true =>
            have Es3 := Es.go p3
            obtain ⟨⟨r, we⟩, ee, fin⟩ := bind_ok fin
            refine eT_of Es3 Es3.rf (by
                rw [ee]
                intro v H4 p4 r4
                have pc4 := pc3.trans p4
                obtain ⟨hD4, E4⟩ := keepOn H4 we pc4
                have nb : ∀ d, r ≠ .bw d := fun d z => by subst z; cases fin
                have rv := r4.rp Es3 nb
                have fin : ((lcL b tf ef (ds.drop (i + 1)) (wipeE ρ (ownS own)) we).bind fun z => Res.ok (r.d :: z.1, z.2)) = .ok (zs0, w0) := by
                  revert fin
                  cases r with
                  | fz d => exact fun f => f
                  | ow d => exact fun f => f
                  | bw d => exact absurd rfl (nb d)
                obtain ⟨⟨zs, wz⟩, ez, fin⟩ := bind_ok fin
                cases fin
                have e : accD ++ r.d :: zs = accD ++ [r.d] ++ zs := by simp
                have fin2 : accD.length < sizeLine ∧ FinL C H S Q (lcL b tf ef (ds.drop (i + 1)) (wipeE ρ (ownS own)) we) (accD ++ [r.d]) := by
                  refine ⟨?_, zs, wz, ez, ?_, ?_⟩
                  · have hz := fl.1
                    rw [List.length_append, List.length_cons] at hz
                    omega
                  · rw [← e]; exact fl.1
                  · rw [← e]; exact fl.2
                have ku := kept_upd (S := fun a => S a ∧ a ≠ Dn) (o' := .lst (acc ++ [v])) (fun z => z.2 rfl) hD4 (.inl ⟨_, rfl⟩)
                refine ⟨acc, hD4, by rw [ra.length]; exact fin2.1, by omega, we, acc ++ [v], accD ++ [r.d], E4.turn fr (fun z => z.2 rfl) h0 hw hD4 (.inl ⟨_, rfl⟩), upd_same, ?_, ?_, ?_, fin2.2⟩
                · exact ((ra.mono (Ec.kept pc4.g) fun _ z => z).append (.cons rv .nil)).mono ku fun _ z => z
                · refine ⟨fun a o h n q => ?_, fun a h => ?_⟩
                  · rw [upd_ne (fun z => by rw [z, hH] at h; cases h)]
                    exact (gr.trans pc4.g).keep a o h n q
                  · by_cases z : a = Dn
                    · rw [z]; exact hH
                    · rw [upd_ne z] at h; exact (gr.trans pc4.g).nn a h
                · exact fun v d m => ((hs' v d m).mono (Ec.kept pc4.g) fun _ z => z).mono ku fun _ z => z))
theorem de_lc {elt tg iter : Expr} {ifs : List Expr} {scope : Scope} {own : List (Str × Nat)} {pos : Pos} {f : Ix} {b : Gx} {tf : Tx} {ef : Ex} {ts : List Nat} (t : Tie X C) (hN : X.N.Nodup) (hv : C.pw = none ∨ C.pi ∉ ownS own) (hts : ∀ j ∈ ts, j ∈ ownS own) (hi : DI X C W tg iter f) (ok : BlkOk X.N X.env.scope scope own)
    (hg : ∀ (s : Shared) (H : Hp) (A : Addr) (cl : List (Str × Addr)) (fp : List Addr), DG (X.blk s H scope (compEnvC scope cl A X.env) fp) C tg b ts) (ht : ∀ (s : Shared) (H : Hp) (A : Addr) (cl : List (Str × Addr)) (fp : List Addr), DPs (X.blk s H scope (compEnvC scope cl A X.env) fp) C W0 ifs tf)
    (he : ∀ (s : Shared) (H : Hp) (A : Addr) (cl : List (Str × Addr)) (fp : List Addr), DE (X.blk s H scope (compEnvC scope cl A X.env) fp) C W0 elt ef) (hs : ∀ x, foldedSetIterable iter X.env x = pure x := by intro _; rfl) :
    DE X C W (.ListComp elt [⟨tg, iter, ifs, 0⟩] scope pos) (eLc (ownS own) f b tf ef) := by
  exact pe_imp (pe_lc t.calm hN hi ok hg ht he hs) (go_lc hv hts)
end
end DL
namespace DL
open PySem PySem.Spec PyProof.Rows L2

section
variable {C : Cn} {ρ : DEnv} {w w' : List Int} {S : Addr → Prop} {σ : L2.St} {H H' : Hp} {p : Addr} {o o' : HO} {i : Nat} {d d' : D}
/-- a name's own thing is turned -/
theorem EnvOk.mut (E : EnvOk C ρ w S σ H) (hρ : ρ[i]? = some (some (.ow d))) (hσ : σ[i]? = some (some (.ref p))) (hp : H p = some o) (ho : (∃ xs, o = .lst xs) ∨ ∃ P w xs, o = DN P w p xs) (new : Own C.P C.w C.K (upd H p o') S p d') :
    EnvOk C (ρ.set i (some (.ow d'))) w S σ (upd H p o') := by
  obtain ⟨v, hv, q, e, ow, h0, hS, hw⟩ := E.val i _ hρ
  rw [hσ] at hv
  cases hv
  cases e
  have k := kept_upd (o' := o') hS hp ho
  have ne0 : ∀ a u, C.H0 a = some u → a ≠ p := fun a u h z => by rw [z, h0] at h; cases h
  refine ⟨by rw [List.length_set]; exact E.len, fun j e h => ?_, fun j k d e q h1 h2 s1 s2 => ?_, fun a h => ?_, E.sB, fun q e => ?_, E.sW, fun a u h n q => ?_, fun a h => ?_, tabs_upd E.tb hp ho, fun q e => ?_, fun v d m => (E.hi v d m).mono k fun _ z => z, fun q m => by rw [upd_ne (fun z => frz_ne ho (by rw [← hp, ← z]; exact E.lo q m))]; exact E.lo q m⟩
  · rcases get_set h with ⟨rfl, h2⟩ | ⟨hj, h2⟩
    · cases h2
      exact ⟨_, hσ, p, rfl, new, h0, hS, hw⟩
    · obtain ⟨v, h1, h3⟩ := E.val j e h2
      refine ⟨v, h1, ?_⟩
      cases e with
      | fz d => exact Rp.mono k (fun _ z => z) h3
      | ow d =>
        obtain ⟨q, e, ow, n, s, z⟩ := h3
        have qp : q ≠ p := fun y => hj (E.apart j i _ _ p h2 hρ (by rw [h1, e, y]) hσ)
        refine ⟨q, e, ?_, n, s, z⟩
        cases ow with
        | lst e r => exact .lst (by rw [upd_ne qp]; exact e) (r.mono k fun _ z => z)
        | dct e r => exact .dct (by rw [upd_ne qp]; exact e) (r.mono k fun _ z => z)
      | fn _ => exact h3
      | lk kvs =>
        obtain ⟨c, u, xs, e, s, f, r⟩ := h3
        exact ⟨c, u, xs, e, s, f, r.mono k fun _ z => z⟩
  · have old : ∀ (j : Nat) (d : D), (ρ.set i (some (.ow d')))[j]? = some (some (.ow d)) → ∃ d2, ρ[j]? = some (some (EV.ow d2)) := fun j d h => by
      rcases get_set h with ⟨rfl, _⟩ | ⟨_, h⟩
      · exact ⟨_, hρ⟩
      · exact ⟨_, h⟩
    obtain ⟨_, g1⟩ := old j d h1
    obtain ⟨_, g2⟩ := old k e h2
    exact E.apart j k _ _ q g1 g2 s1 s2
  · by_cases e : a = p
    · subst e; rw [upd_same] at h; cases h
    · rw [upd_ne e] at h; exact E.sN a h
  · have qp : q ≠ p := fun z => hw (by rw [← z]; exact e)
    rw [upd_ne qp]; exact E.st q e
  · rw [upd_ne (ne0 a u h)]
    exact E.gk a u h n q
  · by_cases e : a = p
    · subst e; exact h0
    · rw [upd_ne e] at h; exact E.gn a h
  · obtain ⟨a, b⟩ := E.sl q e
    have hne : i ≠ C.pi := fun z => by rw [← z, hρ] at b; cases b
    exact ⟨a, by rw [List.getElem?_set_ne hne]; exact b⟩
/-- the state's list is turned -/
theorem EnvOk.stUp (E : EnvOk C ρ w S σ H) (hp : C.pw = some p) : EnvOk C ρ w' S σ (upd H p (.lst (w'.map V.int))) := by
  have hl : H p = some (.lst (w.map V.int)) := E.st p hp
  have hS : ¬ S p := E.sW p hp
  have ho : (∃ xs, HO.lst (w.map V.int) = .lst xs) ∨ ∃ P w' xs, HO.lst (w.map V.int) = DN P w' p xs := .inl ⟨_, rfl⟩
  have k := kept_upd (o' := .lst (w'.map V.int)) hS hl ho
  refine ⟨E.len, fun j e h => ?_, E.apart, fun a h => ?_, E.sB, fun q e => ?_, E.sW, fun a u h n q => ?_, fun a h => ?_, tabs_upd E.tb hl ho, E.sl, fun v d m => (E.hi v d m).mono k fun _ z => z, fun q m => by rw [upd_ne (fun z => frz_ne ho (by rw [← hl, ← z]; exact E.lo q m))]; exact E.lo q m⟩
  · obtain ⟨v, h1, h3⟩ := E.val j e h
    refine ⟨v, h1, ?_⟩
    cases e with
    | fz d => exact Rp.mono k (fun _ z => z) h3
    | ow d =>
      obtain ⟨q, e, ow, n, s, z⟩ := h3
      have qp : q ≠ p := fun y => z (by rw [y]; exact hp)
      refine ⟨q, e, ?_, n, s, z⟩
      cases ow with
      | lst e r => exact .lst (by rw [upd_ne qp]; exact e) (r.mono k fun _ z => z)
      | dct e r => exact .dct (by rw [upd_ne qp]; exact e) (r.mono k fun _ z => z)
    | fn _ => exact h3
    | lk kvs =>
      obtain ⟨c, u, xs, e, s, f, r⟩ := h3
      exact ⟨c, u, xs, e, s, f, r.mono k fun _ z => z⟩
  · by_cases e : a = p
    · subst e; rw [upd_same] at h; cases h
    · rw [upd_ne e] at h; exact E.sN a h
  · have : q = p := by rw [hp] at e; exact (Option.some.inj e).symm
    subst this
    exact upd_same
  · have ap : a ≠ p := fun z => q (by rw [z]; exact hp)
    rw [upd_ne ap]
    exact E.gk a u h n q
  · by_cases e : a = p
    · subst e; rw [upd_same] at h; cases h
    · rw [upd_ne e] at h; exact E.gn a h
/-- a name's own thing is its own no longer -/
theorem EnvOk.freeze (E : EnvOk C ρ w S σ H) (hρ : ρ[i]? = some (some (.ow d))) : ∃ S', EnvOk C (ρ.set i (some (.fz d))) w S' σ H := by
  obtain ⟨v, hv, p, e, ow, h0, hS, hw⟩ := E.val i _ hρ
  subst e
  refine ⟨fun a => S a ∨ a = p, by rw [List.length_set]; exact E.len, fun j e h => ?_, fun j k d e q h1 h2 s1 s2 => ?_, fun a h => .inl (E.sN a h), fun a h => ?_, E.st, fun q e h => ?_, E.gk, E.gn, E.tb, fun q e => ?_, fun v d m => (E.hi v d m).mono .refl fun _ z => .inl z, E.lo⟩
  · rcases get_set h with ⟨rfl, h2⟩ | ⟨hj, h2⟩
    · cases h2
      exact ⟨_, hv, ow.rp (fun _ z => .inl z) (.inr rfl)⟩
    · obtain ⟨v, h1, h3⟩ := E.val j e h2
      refine ⟨v, h1, ?_⟩
      cases e with
      | fz d => exact Rp.mono .refl (fun _ z => .inl z) h3
      | ow d =>
        obtain ⟨q, e, ow, n, s, z⟩ := h3
        refine ⟨q, e, ow.mono fun _ z => .inl z, n, fun y => y.elim s fun y => ?_, z⟩
        exact hj (E.apart j i _ _ p h2 hρ (by rw [h1, e, y]) hv)
      | fn _ => exact h3
      | lk kvs =>
        obtain ⟨c, u, xs, e, s, f, r⟩ := h3
        exact ⟨c, u, xs, e, .inl s, f, r.mono .refl fun _ z => .inl z⟩
  · rcases get_set h1 with ⟨rfl, z⟩ | ⟨hj, g1⟩
    · cases z
    rcases get_set h2 with ⟨rfl, z⟩ | ⟨hk, g2⟩
    · cases z
    exact E.apart j k _ _ q g1 g2 s1 s2
  · rcases h with h | rfl
    · exact E.sB a h
    · exact .inr h0
  · rcases h with h | rfl
    · exact E.sW q e h
    · exact hw e
  · obtain ⟨a, b⟩ := E.sl q e
    have hne : i ≠ C.pi := fun z => by rw [← z, hρ] at b; cases b
    exact ⟨a, by rw [List.getElem?_set_ne hne]; exact b⟩
end

section
variable {X : Cx} {C : Cn} {W : WX} {pos : Pos}
/-- what was a name's own is handed about from here on -/
def sFrz (i : Nat) (g : Sx) : Sx := fun ρ w => match ρ[i]? with
  | some (some (.ow d)) => g (ρ.set i (some (.fz d))) w
  | _ => g ρ w
theorem ds_frz {i : Nat} {st : List Stmt} {g : Sx} (h : DSs X C W st g) : DSs X C W st (sFrz i g) := pss_imp h fun σ H D hq => by
  obtain ⟨ρ, w, S, E, q⟩ := sT_to hq
  unfold sFrz at q
  split at q
  · rename_i e
    obtain ⟨S', E'⟩ := E.freeze e
    exact sT_of E' q
  · exact sT_of E q
/-! the state's list -/
def eStG (k : Nat) : Ex := fun _ w => match w[k]? with
  | some z => .ok (.fz (.int z), w)
  | none => .err
theorem de_stG {y : Str} {i k : Nat} {k' : Int} {py pk : Pos} {j : Tok} (hp : ∃ p, C.pw = some p) (hk : k' = (k : Int)) (hi : C.pi = i) (hN : X.N[i]? = some y) (hv : Vis X.env.scope y) (hs : PlainIx (.Constant (.int k') j pk) := by exact fun _ _ => rfl) (hd : (y == ("__debug__" : Str)) = false := by decide) (hcd : (y == ("__classdict__" : Str)) = false := by decide) :
    DE X C W (.Subscript (.Name y py) (.Constant (.int k') j pk) pos) (eStG k) := by
  subst hk
  refine pe_imp (pe_ix ix_list (pe_var hN hv hd hcd) pe_int hs) fun σ H Q hq => ?_
  obtain ⟨ρ, w, S, E, q⟩ := eT_to hq
  obtain ⟨p, hp⟩ := hp
  unfold eStG at q
  cases e : w[k]? with
  | none => rw [e] at q; exact q.elim
  | some z =>
    rw [e] at q
    refine ⟨.ref p, by rw [← hi]; exact (E.sl p hp).1, p, w.map V.int, k, .int z, rfl, rfl, .of (E.st p hp), atI_nat (by rw [List.getElem?_map, e]; rfl), q _ H E.rf (.int _)⟩
def sStS (k : Nat) (f : Ex) : Sx := fun ρ w => ofR (f ρ w) fun p => match p.1.d with
  | .int z => if k < p.2.length then .nx ρ (p.2.set k z) else .err
  | _ => .err
theorem ixN_nat {n k : Nat} (h : k < n) : ixN n (k : Int) = some k := by
  have e := atI_nat (xs := List.range n) (j := k) (v := k) (by rw [List.getElem?_range h])
  unfold atI at e
  rw [List.length_range] at e
  cases q : ixN n (k : Int) with
  | none => rw [q] at e; cases e
  | some j =>
    rw [q] at e
    have e : (List.range n)[j]? = some k := e
    have hj : j < n := by
      have := (List.getElem?_eq_some_iff.mp e).1
      rwa [List.length_range] at this
    rw [List.getElem?_range hj] at e
    exact e
/-- the place k of the state's list as a target -/
theorem go_stS {y : Str} {i k : Nat} {pw : Addr} {Q : L2.St → Hp → Prop} {ρ : DEnv} {w : List Int} {S : Addr → Prop} {σ : L2.St} {H : Hp} {z : Int} (hi : C.pi = i) (hp : C.pw = some pw) (E : EnvOk C ρ w S σ H) (hk : k < w.length) (q : ∀ H', EnvOk C ρ (w.set k z) S σ H' → Kept S H H' → Q σ H') : gSub (tVar i) (tC (.int k)) rSetL (.int z) σ H Q := by
  refine ⟨.ref pw, by rw [← hi]; exact (E.sl pw hp).1, pw, w.map V.int, k, k, rfl, rfl, E.st pw hp, ixN_nat (by rw [List.length_map]; exact hk), ?_⟩
  have := E.stUp (w' := w.set k z) hp
  rw [List.map_set] at this
  exact q _ this (kept_upd (E.sW pw hp) (E.st pw hp) (.inl ⟨_, rfl⟩))
theorem ds_stS {y : Str} {i k : Nat} {k' : Int} {py pk ps' : Pos} {j : Tok} {e : Expr} {f : Ex} (hp : ∃ p, C.pw = some p) (hk : k' = (k : Int)) (hi : C.pi = i) (hN : X.N[i]? = some y) (hv : Vis X.env.scope y) (he : DE X C W e f) (hd : (y == ("__debug__" : Str)) = false := by decide) (hcd : (y == ("__classdict__" : Str)) = false := by decide)
    (ha : ∀ v, assign (.Subscript (.Name y py) (.Constant (.int k') j pk) ps') X.env v = (do
      let ov ← holding [v] (eval (.Name y py) X.env)
      let iv ← holding [v, ov] (eval (.Constant (.int k') j pk) X.env)
      standAt ps'
      holding [v, ov, iv] (setItem ov iv v)
      release [v, ov, iv] []) := by intro _; rfl)
    (hs : swapsWithSole [.Subscript (.Name y py) (.Constant (.int k') j pk) ps'] e pos.line X.env = pure false := by rfl) (hw : swappedStores [.Subscript (.Name y py) (.Constant (.int k') j pk) ps'] e X.env = pure none := by rfl)
    (h1 : (assignEach [.Subscript (.Name y py) (.Constant (.int k') j pk) ps'] X.env).map (·.2) = [assign (.Subscript (.Name y py) (.Constant (.int k') j pk) ps') X.env] := by rfl) :
    DS X C W (.Assign [.Subscript (.Name y py) (.Constant (.int k') j pk) ps'] e pos) (sStS k f) := by
  subst hk
  obtain ⟨p, hp⟩ := hp
  refine ps_imp (ps_asg he (pg_sub (pe_var hN hv hd hcd) pe_int set_list ha) hs hw h1) fun σ H D hq => ?_
  obtain ⟨ρ, w, S, E, q⟩ := sT_to hq
  refine eT_of E E.rf ((OutOk.ofR E q).imp fun z hz v H1 p1 r1 => ?_)
  revert hz
  obtain ⟨r, w1⟩ := z
  have l := r1.lt (ρ := ρ) (w := w) (σ := σ)
  cases e : r.d with
  | int z =>
    rw [e] at l
    have ev := l.int
    subst ev
    intro hz
    simp only [e] at hz
    split at hz
    · rename_i hk
      exact go_stS (y := y) hi hp (E.go p1) hk fun H' E' _ => hz σ H' S E'
    · exact hz.elim
  | _ => intro hz; simp only [e] at hz; exact hz.elim
/-- well[k], name = e -/
def sStT (k i2 : Nat) (f : Ex) : Sx := fun ρ w => ofR (f ρ w) fun p => match p.1 with
  | .fz (.tuple [.int z, d]) => if k < p.2.length then .nx (ρ.set i2 (some (.fz d))) (p.2.set k z) else .err
  | _ => .err
theorem ds_stT {y x2 : Str} {i k i2 kt : Nat} {k' : Int} {py pk ps' p2 pt : Pos} {j : Tok} {e : Expr} {f : Ex} (t : Tie X C) (hp : ∃ p, C.pw = some p) (hk : k' = (k : Int)) (hi : C.pi = i) (hN : X.N[i]? = some y) (hv : Vis X.env.scope y) (he : DE X C W e f)
    (h2 : C.pw = none ∨ i2 ≠ C.pi) (hN' : X.N.Nodup) (hx : X.N[i2]? = some x2) (hl : Loc X.env.scope x2) (hf : X.fn x2 = true ∨ X.env.scope.names.lookup x2 = some .local := by first | exact .inl rfl | exact .inr rfl)
    (hd : (y == ("__debug__" : Str)) = false := by decide) (hcd : (y == ("__classdict__" : Str)) = false := by decide)
    (ha : ∀ v, assign (.Subscript (.Name y py) (.Constant (.int k') j pk) ps') X.env v = (do
      let ov ← holding [v] (eval (.Name y py) X.env)
      let iv ← holding [v, ov] (eval (.Constant (.int k') j pk) X.env)
      standAt ps'
      holding [v, ov, iv] (setItem ov iv v)
      release [v, ov, iv] []) := by intro _; rfl)
    (hn : (assignEach [.Subscript (.Name y py) (.Constant (.int k') j pk) ps', .Name x2 p2] X.env).length = 2 := by rfl) (hst : (assignEach [.Subscript (.Name y py) (.Constant (.int k') j pk) ps', .Name x2 p2] X.env).findIdx? (·.1) = none := by rfl)
    (hc1 : (assignEach [.Subscript (.Name y py) (.Constant (.int k') j pk) ps', .Name x2 p2] X.env).map (·.2) = assign (.Subscript (.Name y py) (.Constant (.int k') j pk) ps') X.env :: (assignEach [.Name x2 p2] X.env).map (·.2) := by rfl)
    (hc2 : (assignEach [.Name x2 p2] X.env).map (·.2) = assign (.Name x2 p2) X.env :: (assignEach [] X.env).map (·.2) := by rfl)
    (hs : swapsWithSole [.Tuple [.Subscript (.Name y py) (.Constant (.int k') j pk) ps', .Name x2 p2] kt pt] e pos.line X.env = pure false := by rfl) (hw : swappedStores [.Tuple [.Subscript (.Name y py) (.Constant (.int k') j pk) ps', .Name x2 p2] kt pt] e X.env = pure none := by rfl)
    (h1 : (assignEach [.Tuple [.Subscript (.Name y py) (.Constant (.int k') j pk) ps', .Name x2 p2] kt pt] X.env).map (·.2) = [assign (.Tuple [.Subscript (.Name y py) (.Constant (.int k') j pk) ps', .Name x2 p2] kt pt) X.env] := by rfl) :
    DS X C W (.Assign [.Tuple [.Subscript (.Name y py) (.Constant (.int k') j pk) ps', .Name x2 p2] kt pt] e pos) (sStT k i2 f) := by
  subst hk
  obtain ⟨p, hp⟩ := hp
  refine ps_imp (ps_asg he (pg_tup t.calm (pgs_cons (pg_sub (pe_var hN hv hd hcd) pe_int set_list ha) (pgs_cons (pg_name hN' hx hl hf) pgs_nil hc2) hc1) hn hst) hs hw h1) fun σ H D hq => ?_
  obtain ⟨ρ, w, S, E, q⟩ := sT_to hq
  refine eT_of E E.rf ((OutOk.ofR E q).imp fun z hz v H1 p1 r1 => ?_)
  revert hz
  obtain ⟨r, w1⟩ := z
  simp only
  split
  · rename_i z d
    intro hz
    cases r1 with
    | tup sq rs =>
      cases rs with
      | cons r0 rs =>
        cases rs with
        | cons r2 rs =>
          cases rs
          cases r0
          rw [t.K] at sq
          split at hz
          · rename_i hk
            refine ⟨_, _, rfl, sq, rfl, _, _, rfl, ?_⟩
            refine go_stS (y := y) hi hp (E.go p1) hk fun H' E' kp => ?_
            exact ⟨_, [], rfl, rfl, hz _ H' S (E'.setF h2 (r2.mono kp fun _ z => z))⟩
          · exact hz.elim
  · exact fun hz => hz.elim
/-! xs.append(e), xs a name with a list of its own -/
def sApp (i : Nat) (f : Ex) : Sx := fun ρ w => match ρ[i]? with
  | some (some (.ow (.list ds))) => ofR (f ρ w) fun p => match p.1 with
    | .bw _ => .err
    | r => if ds.length < sizeLine then .nx (ρ.set i (some (.ow (.list (ds ++ [r.d]))))) p.2 else .err
  | _ => .err
theorem ds_app {y : Str} {i : Nat} {py pa pc : Pos} {e : Expr} {f : Ex} (t : Tie X C) (hN : X.N[i]? = some y) (hv : Vis X.env.scope y) (he : DE X C W e f) (hd : (y == ("__debug__" : Str)) = false := by decide) (hcd : (y == ("__classdict__" : Str)) = false := by decide)
    (hs1 : starEach [e] X.env = (false, eval e X.env) :: starEach [] X.env := by rfl) (hline : (pa.endLine == pc.line) = true := by rfl)
    (hbase : attributeBase (.Name y py) "append" X.env (eval (.Name y py) X.env) = eval (.Name y py) X.env := by rfl)
    (hfew : ((backTo pc (starEach [e] X.env)).all (fun x => !x.1) && (backToKw pc (keywordEach [] X.env)).all (fun x => x.1.isSome)
      && decide ([e].length + ([] : List Keyword).length + (if ([] : List Keyword).isEmpty then 0 else 1) < 30)) = true := by rfl)
    (hs : swapsWith (.Call (.Attribute (.Name y py) "append" pa) [e] [] pc) none pos.line X.env = pure false := by rfl) :
    DS X C W (.Expr (.Call (.Attribute (.Name y py) "append" pa) [e] [] pc) pos) (sApp i f) := by
  refine ps_imp (ps_expr (pe_bm PySem.F.plainAttrs_list PySem.F.slot_list_append PySem.F.type_list_append mt_append (pe_var hN hv hd hcd) (pa_cons he pa_nil hs1) hbase hfew hline hs1) hs) fun σ H D hq => ?_
  obtain ⟨ρ, w, S, E, q⟩ := sT_to hq
  unfold sApp at q
  split at q
  · rename_i ds e2
    obtain ⟨v, hv', p, ev, ow, h0, hS, hw⟩ := E.val i _ e2
    subst ev
    cases ow with
    | @lst vs _ hp rs =>
      refine ⟨_, hv', .inl ⟨rfl, vs, .of hp⟩, eT_of E E.rf ((OutOk.ofR E q).imp fun z hz u H1 p1 r1 => ?_)⟩
      obtain ⟨r, w1⟩ := z
      have main : (∀ d, r ≠ .bw d) → OutOk C W D (if ds.length < sizeLine then .nx (ρ.set i (some (.ow (.list (ds ++ [r.d]))))) w1 else .err) → rAppend (.ref p) [u] H1 fun _ H' => D.nx σ H' := fun nb hz => by
        split at hz
        · rename_i hl
          have hp1 := p1.g.keep _ _ hp (fun _ z => nomatch z) hw
          have E1 := E.go p1
          have k := kept_upd (o' := .lst (vs ++ [u])) hS hp1 (.inl ⟨_, rfl⟩)
          refine ⟨p, vs, u, rfl, rfl, hp1, by rw [rs.length]; exact hl, ?_⟩
          refine hz σ _ S (E1.mut e2 hv' hp1 (.inl ⟨_, rfl⟩) (.lst upd_same ?_))
          exact ((rs.mono (E.kept p1.g) fun _ z => z).append (.cons (r1.rp E nb) .nil)).mono k fun _ z => z
        · exact hz.elim
      cases r with
      | bw d => exact hz.elim
      | fz d => exact main (fun _ z => nomatch z) hz
      | ow d => exact main (fun _ z => nomatch z) hz
  · exact q.elim
end
end DL
namespace DL
open PySem PySem.Spec PyProof.Rows L2

section
variable {X : Cx} {C : Cn} {W : WX}
/-! ### a op b op' c -/
theorem go_chain {F G : D → D → Option RV} {f g h : Ex} : ∀ (σ : L2.St) (H : Hp) (Q : VK), eT C W (eChain F G f g h) σ H Q → tChain (op2 C F) (op2 C G) (eT C W f) (eT C W g) (eT C W h) σ H Q := by
  intro σ H Q hq
  obtain ⟨ρ, w, S, E, hq⟩ := eT_to hq
  unfold eChain at hq
  refine eT_of E E.rf (hq.bind.imp fun p hp v H1 p1 r1 => ?_)
  have E1 := E.go p1
  refine eT_of E1 p1 (hp.bind.imp fun q hq u H2 p2 r2 => ?_)
  have E2 := E1.go p2
  refine ⟨S, _, _, E2.sN, (RvOk.grow E E1 p2.g r1).lt (ρ := ρ) (w := w) (σ := σ), r2.lt (ρ := ρ) (w := w) (σ := σ), ?_⟩
  refine opQ_of E2 (p1.g.trans p2.g) (hq.bind.imp fun z hz v' H3 p3 r3 => ?_)
  have p03 := (p1.trans p2).trans p3
  revert hz
  have l3 := r3.lt (ρ := ρ) (w := w) (σ := σ)
  cases e : z.1.d with
  | bool b =>
    rw [e] at l3
    cases b with
    | true =>
      intro hz
      simp only [e] at hz
      refine ⟨true, l3.bool, ?_⟩
      simp only [if_true]
      have E3 := E2.go p3
      refine eT_of E3 p03 (hz.bind.imp fun y hy v4 H4 p4 r4 => ?_)
      have E4 := E3.go p4
      refine ⟨S, _, _, E4.sN, (RvOk.grow E1 E2 (p3.g.trans p4.g) r2).lt (ρ := ρ) (w := w) (σ := σ), r4.lt (ρ := ρ) (w := w) (σ := σ), ?_⟩
      exact opQ_of E4 (p03.g.trans p4.g) (hy.imp fun z hz v' H' p5 r5 => hz v' H' (p03.trans (p4.trans p5)) r5)
    | false =>
      intro hz
      simp only [e] at hz
      refine ⟨false, l3.bool, ?_⟩
      simp only [Bool.false_eq_true, if_false]
      exact hz _ _ p03 (.bl _)
  | _ => intro hz; simp only [e] at hz; exact hz.elim
theorem de_chain {op op' : CmpOp} {F G : D → D → Option RV} {f g h : Ex} {a b c : Expr} {pos : Pos} (ho : OpR X (compareOp op) (op2 C F)) (ho' : OpR X (compareOp op') (op2 C G)) (ha : DE X C W a f) (hb : DE X C W b g) (hc : DE X C W c h)
    (hm : lastMarks [op, op'] [b, c] = false := by with_unfolding_all rfl) : DE X C W (.Compare a [op, op'] [b, c] pos) (eChain F G f g h) := pe_imp (pe_chain ho ho' ha hb hc hm) go_chain
theorem dt_chain {op op' : CmpOp} {F G : D → D → Option RV} {f g h : Ex} {a b c : Expr} {pos : Pos} (ho : OpR X (compareOp op) (op2 C F)) (ho' : OpR X (compareOp op') (op2 C G)) (ha : DE X C W a f) (hb : DE X C W b g) (hc : DE X C W c h)
    (hm : lastMarks [op, op'] [b, c] = false := by with_unfolding_all rfl) : DT X C W (.Compare a [op, op'] [b, c] pos) (asB (eChain F G f g h)) :=
  pt_imp (pt_chain ho ho' ha hb hc hm) fun σ H Q hq => go_chain σ H _ (go_asB σ H Q hq)

/-! ### isinstance(x, T) -/
def tyName : D → String
  | .none => "NoneType"
  | .bool _ => "bool"
  | .int _ => "int"
  | .str _ => "str"
  | .list _ => "list"
  | .tuple _ => "tuple"
  | .dict _ => "dict"
/-- the answer for a built-in type -/
def isT (T : String) (d : D) : Option Bool := match d with
  | .dict _ => none
  | d => kitB (tyName d) T
def eIsi (T : String) (f : Ex) : Ex := fun ρ w => (f ρ w).bind fun p => match isT T p.1.d with
  | some b => .ok (.fz (.bool b), p.2)
  | none => .err
theorem Lt.ty {H : Hp} {S : Addr → Prop} {v : V} {d : D} (t : Tie X C) (l : Lt C H S v d) (nd : ∀ k, d ≠ .dict k) : TyX X.K H v (.type (tyName d)) := by
  cases d with
  | none => rw [l.none]; exact .base .non
  | bool b => rw [l.bool]; exact .base (.bl _)
  | int b => rw [l.int]; exact .base (.int _)
  | str b => rw [l.str]; exact .base (.str _)
  | list ds =>
    obtain ⟨a, vs, rfl, ra, _⟩ := l.list
    rcases ra with ra | ⟨o, ra⟩
    · exact .base (.lst ra)
    · exact .base (.frz ra)
  | tuple ds =>
    obtain ⟨a, vs, rfl, ra, _⟩ := l.tuple
    rw [t.K] at ra
    rcases ra with (ra | ⟨o, ra⟩) | ⟨o, its, n, lk, c, _⟩
    · exact .base (.tup ra)
    · exact .fTuple ra
    · exact .kTuple lk c
  | dict k => exact absurd rfl (nd k)
theorem de_isi {T : String} {x : Str} {e : Expr} {f : Ex} {p py pos : Pos} (t : Tie X C) (hg : Gl X "isinstance") (hm : X.mg "isinstance" = none) (hgT : Gl X x) (hmT : X.mg x = none) (hT : bootBuiltins x = some (.type T)) (he : DE X C W e f)
    (hv : bootBuiltins "isinstance" = some (.builtin "isinstance") := by decide +kernel) (hnT : x ≠ "__name__" := by decide) (hdT : (x == ("__debug__" : Str)) = false := by decide)
    (he2 : starEach [e, .Name x py] X.env = (false, eval e X.env) :: starEach [.Name x py] X.env := by rfl) (he3 : starEach [.Name x py] X.env = (false, eval (.Name x py) X.env) :: starEach [] X.env := by rfl) (hpl : (backTo pos (starEach [.Name x py] X.env)).any (·.1) = false := by rfl) :
    DE X C W (.Call (.Name "isinstance" p) [e, .Name x py] [] pos) (eIsi T f) := by
  refine pe_imp (pe_callB call_isi hg hm hv (pa_cons he (pa_cons (pe_bltn (v := .ty T) hgT hmT hT rfl hnT hdT) pa_nil he3) he2) (by decide) (by decide) he2 hpl) fun σ H Q hq => ?_
  obtain ⟨ρ, w, S, E, hq⟩ := eT_to hq
  unfold eIsi at hq
  refine eT_of E E.rf (hq.bind.imp fun z hz v H1 p1 r1 => ?_)
  have l := r1.lt (ρ := ρ) (w := w) (σ := σ)
  revert hz
  cases e : isT T z.1.d with
  | none => exact fun hz => hz.elim
  | some b =>
    intro hz
    have nd : ∀ k, z.1.d ≠ .dict k := fun k y => by rw [y] at e; cases e
    refine ⟨v, .ty T, .type (tyName z.1.d), .type T, b, rfl, .ty T, l.ty t nd, kit_ty ?_, hz _ _ p1 (.bl _)⟩
    unfold isT at e
    revert e nd
    cases z.1.d with
    | dict k => exact fun _ nd => absurd rfl (nd k)
    | _ => exact fun e _ => e

/-! ### sorted, repr -/
def alikes (ds : List D) : Bool := ds.all fun a => ds.all fun b => PySem.W.alike a b
def allTup (ds : List D) : Bool := ds.all fun d => match d with
  | .tuple (_ :: _) => true
  | _ => false
def noneTup (ds : List D) : Bool := ds.all fun d => match d with
  | .tuple _ => false
  | .none => false
  | _ => true
def srtD (ds : List D) : List D := ds.mergeSort (PySem.W.dataLe false id)
def fSorted : List D → Option RV
  | [.list ds] => if flatDs ds && decide (PyData.depthAll ds ≤ 60) && alikes ds && (allTup ds || noneTup ds) then some (.ow (.list (srtD ds))) else none
  | _ => none
theorem each_of {H : Hp} {S : Addr → Prop} : ∀ {vs : List V} {its : List Value} {ds : List D}, Rps C.P C.w C.K H S vs ds → Vals vs its → PySem.W.EachIs (fun u d => ∃ v, RelV v u ∧ Rp C.P C.w C.K H S v d) its ds
  | _, _, _, .nil, .nil => .nil
  | _, _, _, .cons h r, .cons q s => .cons ⟨_, q, h⟩ (each_of r s)
theorem of_each {H : Hp} {S : Addr → Prop} : ∀ {its : List Value} {ds : List D}, PySem.W.EachIs (fun u d => ∃ v, RelV v u ∧ Rp C.P C.w C.K H S v d) its ds → ∃ vs, Vals vs its ∧ Rps C.P C.w C.K H S vs ds
  | _, _, .nil => ⟨[], .nil, .nil⟩
  | _, _, .cons ⟨v, q, h⟩ r => by
    obtain ⟨vs, a, b⟩ := of_each r
    exact ⟨v :: vs, .cons q a, .cons h b⟩
theorem depth_mem : ∀ {ds : List D} {d : D}, d ∈ ds → d.depth ≤ PyData.depthAll ds := by
  intro ds
  induction ds with
  | nil => intro d h; cases h
  | cons a l ih =>
    intro d h
    unfold PyData.depthAll
    rcases List.mem_cons.mp h with rfl | h
    · exact Nat.le_max_left _ _
    · exact Nat.le_trans (ih h) (Nat.le_max_right _ _)
theorem flat_mem : ∀ {ds : List D} {d : D}, flatDs ds = true → d ∈ ds → flatD d = true := by
  intro ds
  induction ds with
  | nil => intro d _ h; cases h
  | cons a l ih =>
    intro d f h
    unfold flatDs at f
    have f := Bool.and_eq_true_iff.mp f
    rcases List.mem_cons.mp h with rfl | h
    · exact f.1
    · exact ih f.2 h
theorem call_sorted' (t : Tie X C) : CallR X (.builtin "sorted") (opN C fSorted) := by
  intro pins s σ H xs us Q I r q
  obtain ⟨S, ds, sN, l, q⟩ := q
  have hroom := t.room
  revert q
  unfold fSorted
  split
  · rename_i ds
    intro q
    obtain ⟨x, rfl, lx⟩ := l.one
    obtain ⟨a, vs, rfl, ra, pa⟩ := lx.list
    obtain ⟨hc, q⟩ := ite_some q
    have h1 := Bool.and_eq_true_iff.mp hc
    have h2 := Bool.and_eq_true_iff.mp h1.1
    have h3 := Bool.and_eq_true_iff.mp h2.1
    have hd := of_decide_eq_true h3.2
    obtain ⟨its, n, rv, hl, hz⟩ := rd_list I ra
    rw [Vals.ref1 r]
    have e1 := each_of pa rv
    have eR : ∀ {its : List Value} {ds' : List D}, (∀ d ∈ ds', flatD d = true) → PySem.W.EachIs (fun u d => ∃ v, RelV v u ∧ Rp C.P C.w C.K H S v d) its ds' → PySem.W.EachIs (fun v b => ∃ as, Reads s.heap v (id b) as) its ds' := by
      intro its ds' hf e
      induction e with
      | nil => exact .nil
      | cons h _ ih =>
        obtain ⟨v, q, r⟩ := h
        exact .cons (Lt.reads t I (.inl r) (hf _ List.mem_cons_self) q) (ih fun d m => hf d (List.mem_cons_of_mem _ m))
    refine PySem.W.sorted_data (enc := id) (R := fun u d => ∃ v, RelV v u ∧ Rp C.P C.w C.K H S v d) (bs := ds) (vs := its) ⟨_, hl, rfl, n, rfl⟩ e1 (eR (fun d m => flat_mem h3.1 m) e1) ?_ ?_ (by rw [← pa.length]; exact hz) ?_ ?_
    · intro a ha b hb
      rw [List.map_id] at ha hb
      exact List.all_eq_true.mp (List.all_eq_true.mp h2.2 a ha) b hb
    · rw [List.map_id]
      rcases Bool.or_eq_true_iff.mp h1.2 with h | h
      · refine .inl fun d m => ?_
        have := List.all_eq_true.mp h d m
        revert this
        cases d with
        | tuple l =>
          cases l with
          | cons x r => exact fun _ => ⟨x, r, rfl⟩
          | nil => intro z; cases z
        | _ => intro z; cases z
      · refine .inr fun d m => ?_
        have := List.all_eq_true.mp h d m
        revert this
        cases d with
        | tuple l => intro z; cases z
        | none => intro z; cases z
        | bool b => exact fun _ => ⟨fun z => (nomatch z), fun _ z => (nomatch z)⟩
        | int b => exact fun _ => ⟨fun z => (nomatch z), fun _ z => (nomatch z)⟩
        | str b => exact fun _ => ⟨fun z => (nomatch z), fun _ z => (nomatch z)⟩
        | list b => exact fun _ => ⟨fun z => (nomatch z), fun _ z => (nomatch z)⟩
        | dict b => exact fun _ => ⟨fun z => (nomatch z), fun _ z => (nomatch z)⟩
    · intro d m
      have := depth_mem m
      show X.A.units + 2 + d.depth < cLine
      omega
    · intro out hlen eo
      obtain ⟨vs', a, b⟩ := of_each eo
      obtain ⟨ep, he'⟩ := PyProof.Rows.sortedAll_at s.heap its out.toArray
      have hz' : vs'.length ≤ sizeLine := by rw [a.length, hlen, ← pa.length]; exact hz
      exact ⟨.ref _, upd H (s.heap.objs.size + 1) (.lst vs'), I.laid (t' := s.toks) (fun _ _ => PyProof.Rows.sortedAll_old) (Nat.le_succ _) ⟨hz', out, ep, a, he'⟩, rfl, opQ_lst q rfl b _ (I.hok.fresh (Nat.le_succ _))⟩
  · exact fun q => q.elim
def fRepr : List D → Option RV
  | [.list ds] => if flatDs ds && (PyData.list ds).showable && decide ((PyData.list ds).depth ≤ 60) && bz (PyData.list ds).shown.length then some (.fz (.str (PyData.list ds).shown)) else none
  | [.tuple ds] => if flatDs ds && (PyData.tuple ds).showable && decide ((PyData.tuple ds).depth ≤ 60) && bz (PyData.tuple ds).shown.length then some (.fz (.str (PyData.tuple ds).shown)) else none
  | _ => none
mutual
theorem flat_noDict : ∀ d : D, flatD d = true → d.hasDict = false
  | .none, _ => by unfold PyData.hasDict; rfl
  | .bool _, _ => by unfold PyData.hasDict; rfl
  | .int _, _ => by unfold PyData.hasDict; rfl
  | .str _, _ => by unfold PyData.hasDict; rfl
  | .list ds, h => by unfold PyData.hasDict; unfold flatD at h; exact flat_noDicts ds h
  | .tuple ds, h => by unfold PyData.hasDict; unfold flatD at h; exact flat_noDicts ds h
  | .dict _, h => by unfold flatD at h; cases h
theorem flat_noDicts : ∀ ds : List D, flatDs ds = true → PyData.hasDictAll ds = false
  | [], _ => by unfold PyData.hasDictAll; rfl
  | d :: ds, h => by
    unfold flatDs at h
    have h := Bool.and_eq_true_iff.mp h
    unfold PyData.hasDictAll
    rw [flat_noDict d h.1, flat_noDicts ds h.2]; rfl
end
theorem repr_go (t : Tie X C) {pins : List (Addr × Obj)} {s : Shared} {σ : L2.St} {H : Hp} {us : List Value} {Q : VK} {S : Addr → Prop} {d : D} {a : Addr} (I : Inv X pins σ H s) (r : Vals [.ref a] us) (l : Lt C H S (.ref a) d) (hf : flatD d = true) (h1 : d.showable = true) (h2 : d.depth ≤ 60) (h3 : d.shown.length ≤ sizeLine) (q : Q (.str d.shown) H) :
    wpAny (model X.prog X.w) X.A (call (.builtin "repr") us) (EP X pins σ Q) X.xe s := by
  have hroom := t.room
  rw [Vals.ref1 r]
  obtain ⟨as, rd⟩ := l.reads t I hf (show RelV (.ref a) (.ref a) from rfl)
  refine repr_of_reads' rd h1 (fun z => by rw [flat_noDict d hf] at z; cases z) t.gd (by omega) (fun _ _ e => e) (fun h' u tk hk => ⟨.str d.shown, H, I.kept hk, ⟨u, rfl⟩, q⟩) h3
theorem call_repr' (t : Tie X C) : CallR X (.builtin "repr") (opN C fRepr) := by
  intro pins s σ H xs us Q I r q
  obtain ⟨S, ds, sN, l, q⟩ := q
  revert q
  unfold fRepr
  split
  · rename_i ds
    intro q
    obtain ⟨x, rfl, lx⟩ := l.one
    obtain ⟨a, vs, rfl, ra, pa⟩ := lx.list
    obtain ⟨hc, q⟩ := ite_some q
    have g1 := Bool.and_eq_true_iff.mp hc
    have g2 := Bool.and_eq_true_iff.mp g1.1
    have g3 := Bool.and_eq_true_iff.mp g2.1
    exact repr_go t I r lx (by unfold flatD; exact g3.1) g3.2 (of_decide_eq_true g2.2) (of_decide_eq_true g1.2) (opQ_val q rfl fun _ _ _ _ _ => .str _)
  · rename_i ds
    intro q
    obtain ⟨x, rfl, lx⟩ := l.one
    obtain ⟨a, vs, rfl, ra, pa⟩ := lx.tuple
    obtain ⟨hc, q⟩ := ite_some q
    have g1 := Bool.and_eq_true_iff.mp hc
    have g2 := Bool.and_eq_true_iff.mp g1.1
    have g3 := Bool.and_eq_true_iff.mp g2.1
    exact repr_go t I r lx (by unfold flatD; exact g3.1) g3.2 (of_decide_eq_true g2.2) (of_decide_eq_true g1.2) (opQ_val q rfl fun _ _ _ _ _ => .str _)
  · exact fun q => q.elim
end

/-! ### f(a=.., b=..) -/
/-- the items at the places perm -/
def pick {α : Type} (perm : List Nat) (l : List α) : List α := perm.filterMap fun j => l[j]?
/-- keywords ks, bound to the parameters: the j-th parameter's is the perm[j]-th keyword's -/
def KB (fd : FuncData) (ps ks : List Str) (perm : List Nat) : Prop := ∀ (s : Shared) (us : List Value), us.length = ks.length → BindsTo s fd ⟨[], ks.zip us⟩ (ps.zip (pick perm us))
theorem kb_of {K : PySem.W.Frag} {x qual : Str} {params : Arguments} {body : List Stmt} {scope : Scope} {kws : List (Str × V)} {f : Addr} {fd : FuncData} {ps ks : List Str} {perm : List Nat} (F : FunD K x qual params body scope [] kws f fd)
    (h : ∀ (kV doc pm : Value) (an : Option Addr) (cdv ct : Value) (us : List Value), us.length = ks.length → bindArgs (PySem.W.fnOf x qual params body scope .none kV doc pm an cdv ct) ⟨[], ks.zip us⟩ = pure (ps.zip (pick perm us))) : KB fd ps ks perm := by
  obtain ⟨oc, od, dV, kV, doc, pm, an, cdv, ct, osl, rfl, lk, hcd, hD, hK⟩ := F.ex
  rcases hD with ⟨_, rfl⟩ | ⟨e, _⟩
  · exact fun s us hl => .of_eq (h kV doc pm an cdv ct us hl)
  · exact absurd rfl e
section
variable {X : Cx} {G : Pg} {C : Cn} {W : WX} {k kc : Nat} {f : Addr} {fd : FuncData} {ps ks : List Str} {perm : List Nat} {F : FSem}
abbrev DK (X : Cx) (C : Cn) (W : WX) (kws : List Keyword) (f : Ax) : Prop := PK X kws (aT C W f)
theorem pk_imp {kws : List Keyword} {t t' : TA} (h : PK X kws t) (i : ∀ σ H Q, t' σ H Q → t σ H Q) : PK X kws t' := ⟨fun pos pins s σ H Q I q => h.run pos pins s σ H Q I (i σ H Q q)⟩
theorem go_cons {f : Ex} {af : Ax} : ∀ (σ : L2.St) (H : Hp) (Q : List V → Hp → Prop), aT C W (aCons f af) σ H Q → tCons (eT C W f) (aT C W af) σ H Q := by
  intro σ H Q hq
  obtain ⟨ρ, w, S, E, hq⟩ := aT_to hq
  unfold aCons at hq
  refine eT_of E E.rf (hq.bind.imp fun p hp v H1 p1 r1 => ?_)
  refine aT_of (E.go p1) p1 (hp.bind.imp fun q hq vs H2 p2 r2 => hq _ _ (p1.trans p2) (.cons (RvOk.grow E (E.go p1) p2.g r1) ?_))
  clear hq hp
  have back : ∀ {vs : List V} {rs : List RV}, RvsOk C H1 H2 S vs rs → RvsOk C H H2 S vs rs := by
    intro vs rs r
    induction r with
    | nil => exact .nil
    | cons h _ ih => exact .cons (h.back p1.g) ih
  exact back r2
theorem dk_nil : DK X C W [] aNil := pk_imp pk_nil fun σ H Q hq => by
  obtain ⟨ρ, w, S, E, hq⟩ := aT_to hq
  exact hq [] H E.rf .nil
theorem dk_cons {nm : Option Str} {e : Expr} {kpos : Pos} {kws : List Keyword} {f : Ex} {af : Ax} (ha : DE X C W e f) (hr : DK X C W kws af) : DK X C W (⟨nm, e, kpos⟩ :: kws) (aCons f af) := pk_imp (pk_cons ha hr) go_cons
theorem RvsOk.pick {S : Addr → Prop} {H H' : Hp} : ∀ (perm : List Nat) {vs : List V} {rs : List RV}, RvsOk C H H' S vs rs → RvsOk C H H' S (pick perm vs) (pick perm rs) := by
  intro perm vs rs r
  have at_ : ∀ (j : Nat), (vs[j]? = none ∧ rs[j]? = none) ∨ ∃ v x, vs[j]? = some v ∧ rs[j]? = some x ∧ RvOk C H H' S v x := by
    induction r with
    | nil => intro j; exact .inl ⟨by simp, by simp⟩
    | cons h _ ih =>
      intro j
      cases j with
      | zero => exact .inr ⟨_, _, rfl, rfl, h⟩
      | succ j => simpa using ih j
  induction perm with
  | nil => exact .nil
  | cons j perm ih =>
    unfold DL.pick at ih ⊢
    rcases at_ j with ⟨a, b⟩ | ⟨v, x, a, b, h⟩
    · rw [List.filterMap_cons, List.filterMap_cons, a, b]; exact ih
    · rw [List.filterMap_cons, List.filterMap_cons, a, b]; exact .cons h ih
theorem vals_pick : ∀ (perm : List Nat) {vs : List V} {us : List Value}, Vals vs us → Vals (pick perm vs) (pick perm us) := by
  intro perm vs us r
  have at_ : ∀ (j : Nat), (vs[j]? = none ∧ us[j]? = none) ∨ ∃ v x, vs[j]? = some v ∧ us[j]? = some x ∧ RelV v x := by
    induction r with
    | nil => intro j; exact .inl ⟨by simp, by simp⟩
    | cons h _ ih =>
      intro j
      cases j with
      | zero => exact .inr ⟨_, _, rfl, rfl, h⟩
      | succ j => simpa using ih j
  induction perm with
  | nil => exact .nil
  | cons j perm ih =>
    unfold DL.pick at ih ⊢
    rcases at_ j with ⟨a, b⟩ | ⟨v, x, a, b, h⟩
    · rw [List.filterMap_cons, List.filterMap_cons, a, b]; exact ih
    · rw [List.filterMap_cons, List.filterMap_cons, a, b]; exact .cons h ih
def eFnK (n m : Nat) (perm : List Nat) (F : FSem) (f : Ax) : Ex := fun ρ w => (f ρ w).bind fun p => if p.1.length == m && (pick perm p.1).length == n then outR (pick perm p.1) (F [] ((pick perm p.1).map frz) []) p.2 else .err
theorem de_fnK {x : Str} {p pos : Pos} {kws : List Keyword} {af : Ax} (o : Own1 X G C) (tk : Takes X W) (Fn : FnD G k kc f fd ps false F) (hr : Room k X.A) (hg : Gl X x) (hm : X.mg x = some (.ref f)) (hk : PySem.W.keepIn X.K (.ref f) = true) (hb : KB fd ps ks perm) (ha : DK X C W kws af)
    (hall : (backToKw pos (keywordEach kws X.env)).all (·.1.isSome) = true := by rfl) (hks : (backToKw pos (keywordEach kws X.env)).filterMap (·.1) = ks := by rfl)
    (hdb : (x == ("__debug__" : Str)) = false := by decide) (hpl : ((backTo pos (starEach [] X.env)).any (·.1) || (backToKw pos (keywordEach kws X.env)).any (·.1.isNone)) = false := by rfl) : DE X C W (.Call (.Name x p) [] kws pos) (eFnK ps.length ks.length perm F af) := by
  refine ⟨fun pins s σ H Q I h => ?_⟩
  obtain ⟨ρ, w, S, E, h⟩ := eT_to h
  unfold eFnK at h
  refine wpAny_Call_Name_kw (ld_glob I hg hm ?_ hdb)
  refine PySem.W.callWith_KW0 (h₀ := X.base) I.ok.mod.kin hk hall (thn (ha.run pos pins s σ H (fun vs H1 => ∃ rs w1, Pst C H H1 w1 ∧ RvsOk C H H1 S vs rs ∧ Good C W σ H (if rs.length == ks.length && (pick perm rs).length == ps.length then outR (pick perm rs) (F [] ((pick perm rs).map frz) []) w1 else .err) fun p => ∀ v H', Pst C H H' p.2 → RvOk C H H' S v p.1 → Q v H') I (aT_of E E.rf (h.bind.imp fun q hq vs H1 p1 r1 => ⟨_, _, p1, r1, hq⟩))) fun us s1 ⟨vs, H1, I1, r, rs, w1, p1, r1, q⟩ => ⟨I1.kIn, ?_⟩) hpl
  split at q
  · rename_i hl
    have hl := Bool.and_eq_true_iff.mp hl
    rw [hks]
    have hb' := hb s1 us (by rw [← r.length, r1.length]; exact beq_iff_eq.mp hl.1)
    exact run_fnD o tk Fn hr E p1 I1 (r1.pick perm) hb' (beq_iff_eq.mp hl.2) (vals_pick perm r) q
  · exact q.elim
end
end DL
namespace DL
open PySem PySem.Spec PyProof.Rows L2
/-! ### the law's door: the script stands, the tables are empty -/
def doorH (a : Addr) (o : Obj) (zs : List Int) (ts : List Addr) : Hp := fun b => if b = a then some (.frz o (.lst (zs.map V.int))) else if b ∈ ts then some (.tbl #[]) else none
theorem doorH_at {a : Addr} {o : Obj} {zs : List Int} {ts : List Addr} : doorH a o zs ts a = some (.frz o (.lst (zs.map V.int))) := if_pos rfl
theorem doorH_tab {a b : Addr} {o : Obj} {zs : List Int} {ts : List Addr} (h : b ∈ ts) (n : b ≠ a) : doorH a o zs ts b = some (.tbl #[]) := (if_neg n).trans (if_pos h)
theorem doorH_out {a b : Addr} {o : Obj} {zs : List Int} {ts : List Addr} (h : b ∉ ts) (n : b ≠ a) : doorH a o zs ts b = none := (if_neg n).trans (if_neg h)
theorem doorH_cases (a : Addr) (o : Obj) (zs : List Int) (ts : List Addr) (b : Addr) : b = a ∨ (b ≠ a ∧ b ∈ ts) ∨ (b ≠ a ∧ b ∉ ts) := by
  by_cases e : b = a
  · exact .inl e
  · by_cases m : b ∈ ts
    · exact .inr (.inl ⟨e, m⟩)
    · exact .inr (.inr ⟨e, m⟩)
theorem rps_int {P : Program} {w : World} {K : PySem.W.Frag} {H : Hp} {S : Addr → Prop} : ∀ zs : List Int, Rps P w K H S (zs.map V.int) (zs.map PyData.int)
  | [] => .nil
  | z :: zs => .cons (.int z) (rps_int zs)
/-- the door: a law by its promise -/
theorem law_door {P : Program} {w : World} {K : PySem.W.Frag} {mg mb : Str → Option Value} {T : List NdefX.NTab} {cls : Nat → Value} {pay : Nat → Option Addr → D → Hp → Prop} {k kc : Nat} {fa a : Addr} {cs : List (Addr × Addr)} {fd : FuncData} {x : Str} {φ : FSem} {s1 : Shared} {us : List Value} {zs : List Int} {w' : List Int}
    (inK : K.In s1.heap) (gl : s1.heap.Ns mainGlobals mg) (bl : s1.heap.Ns builtinsNs mb) (boot : ∀ y : Str, y ≠ "__name__" → mb y = bootBuiltins y) (lim : s1.heap.NoLimit) (gens : s1.gens = #[])
    (tabs : ∀ p ∈ cs, s1.heap.get? p.2 = some { cls := .none, data := .fields #[] }) (outK : ∀ p ∈ cs, K.lookup p.2 = none) (heads : ∀ p ∈ cs, PySem.W.CodeHd s1.heap p.1 p.2)
    (main : ∃ (m : Addr) (om : Obj), mg "__builtins__" = some (.ref m) ∧ m ≠ builtinsNs ∧ s1.heap.get? m = some om ∧ om.cls = .type "module" ∧ om.dict = some builtinsNs ∧ om.data = .plain)
    (scr : s1.heap.get? a = some { cls := .type "list", data := .seq us.toArray }) (numb : IntsAre us zs) (few : zs.length ≤ sizeLine) (room : Room k callerA) (aK : K.lookup a = none)
    (hT : ∀ q ∈ T, q.1 ∈ cs.map fun p => p.2)
    (keeps : ∀ base : Heap, K.In base → base.Ns mainGlobals mg → (∀ p ∈ cs, LamX.TabB base mg p.1 p.2) → FnD ⟨P, w, K, mg, base, T, cls, pay⟩ k kc fa fd [x] false φ)
    (binds : ∀ (s : Shared) (u : Value), BindsTo s fd ⟨[u], []⟩ [(x, u)])
    (law : φ [] [.fz (.list (zs.map PyData.int))] [] = .ok (.fz (.bool true), w')) :
    codeAny (model P w) callerA (.call (.ref fa) ⟨[.ref a], []⟩) (fun r s2 => r = .ok (.ret (.bool true)) ∧ OldK s1.heap s2.heap ∧ s2.os = s1.os ∧ AllBare s2.gens) s1 := by
  have rv := L2.vals_ints numb
  have tabA : ∀ b : Addr, (b ∈ cs.map fun p => p.2) → s1.heap.get? b = some { cls := .none, data := .fields #[] } := by
    intro b m
    obtain ⟨p, hp, rfl⟩ := List.mem_map.mp m
    exact tabs p hp
  have neA : ∀ b : Addr, (b ∈ cs.map fun p => p.2) → b ≠ a := by
    intro b m e
    have z := tabA b m
    rw [e, scr] at z
    have z2 := congrArg Obj.data (Option.some.inj z)
    cases z2
  have tabK : ∀ b : Addr, (b ∈ cs.map fun p => p.2) → K.lookup b = none := by
    intro b m
    obtain ⟨p, hp, rfl⟩ := List.mem_map.mp m
    exact outK p hp
  let ob : Obj := { cls := .type "list", data := .seq us.toArray }
  let H : Hp := doorH a ob zs (cs.map fun p => p.2)
  have look : ∀ b, b = a ∨ (b ≠ a ∧ b ∈ cs.map fun p => p.2) ∨ (b ≠ a ∧ b ∉ cs.map fun p => p.2) := doorH_cases a ob zs _
  have Ha : H a = some (.frz ob (.lst (zs.map V.int))) := doorH_at
  have Ht : ∀ b, (b ∈ cs.map fun p => p.2) → H b = some (.tbl #[]) := fun b m => doorH_tab m (neA b m)
  -- what is no list and no table is not told of
  have plain : ∀ {b : Addr} {o : Obj}, s1.heap.get? b = some o → (∀ l n, o.data ≠ .seq l n) → o.data ≠ .fields #[] → H b = none := by
    intro b o e n1 n2
    rcases look b with rfl | ⟨_, m⟩ | ⟨n, m⟩
    · rw [scr] at e
      cases e
      exact absurd rfl (n1 _ _)
    · rw [tabA b m] at e
      cases e
      exact absurd rfl n2
    · exact doorH_out m n
  have still : ∀ {b : Addr} {o : Obj}, s1.heap.get? b = some o → H b = none → (hidT s1.heap H).get? b = some o := fun e n => hidT_get e n
  have nsD : ∀ {b : Addr} {m : Str → Option Value}, s1.heap.Ns b m → (hidT s1.heap H).Ns b m := by
    rintro b m ⟨o, es, ep, e, d, r⟩
    refine ⟨o, es, ep, still e (plain e (fun l n z => ?_) fun z => ?_), d, r⟩ <;> (rw [d] at z; cases z)
  have inB : K.In (hidT s1.heap H) := by
    intro b o e
    refine still (inK b o e) ?_
    rcases look b with rfl | ⟨_, m⟩ | ⟨n, m⟩
    · rw [aK] at e; cases e
    · rw [tabK b m] at e; cases e
    · exact doorH_out m n
  have hok : HOk P w H s1.heap := by
    intro b u z
    rcases look b with rfl | ⟨_, m⟩ | ⟨n, m⟩
    · rw [Ha] at z
      cases z
      exact ⟨scr, by rw [List.length_map]; exact few, us, _, rv, scr⟩
    · rw [Ht b m] at z
      cases z
      exact tabA b m
    · rw [show H b = none from doorH_out m n] at z
      cases z
  have modl : L2.Mod K mg (hidT s1.heap H) := ⟨inB, nsD gl, ⟨mb, nsD bl, boot⟩, let ⟨c, l1, l2⟩ := lim; ⟨c, nsD l1, l2⟩⟩
  have tb : ∀ p ∈ cs, LamX.TabB (hidT s1.heap H) mg p.1 p.2 := by
    intro p hp
    refine ⟨?_, ?_, fun z => ?_⟩
    · obtain ⟨o, l, file, tf, fl, tg, inF, tx, tt, e, r1, r2, r3, rest⟩ := heads p hp
      refine ⟨o, l, file, tf, fl, tg, inF, tx, tt, still e (plain e (fun _ _ z => ?_) fun z => ?_), r1, r2, r3, rest⟩
      · rw [r2] at z; cases z
      · rw [r2] at z
        cases z
        simp at r3
    · obtain ⟨m, om, g1, g2, g3, g4, g5, g6⟩ := main
      refine ⟨m, om, g1, g2, fun q => ?_, fun q => ?_, still g3 (plain g3 (fun _ _ z => ?_) fun z => ?_), g4, g5, g6⟩
      · obtain ⟨o, es, ep, e, d, _⟩ := gl
        rw [q, e] at g3
        cases g3
        rw [d] at g6; cases g6
      · rw [q, tabs p hp] at g3
        cases g3
        cases g6
      · rw [g6] at z; cases z
      · rw [g6] at z; cases z
    · obtain ⟨o, es, ep, e, d, _⟩ := gl
      rw [z, tabs p hp] at e
      cases e
      cases d
  have start : Env0 P w K mg (hidT s1.heap H) callerA [] s1 H := ⟨rfl, modl, fun b o e => of_hidT e, Nat.le_of_eq (hidT_size _ _), trivial, fun b m => absurd (show b ∈ ([] : List Addr) from m) (by simp), hok, .of_eq gens⟩
  have goes := (keeps _ inB (nsD gl) tb).run callerA [] s1 H ⟨[.ref a], []⟩ [.ref a] [.ref a] (fun v _ => v = .bl true) (fun _ _ _ => False) room rfl start (binds s1 (.ref a)) rfl (.cons rfl .nil)
    ⟨fun _ => True, [.fz (.list (zs.map PyData.int))], [], none, [], [], [.ref a], ⟨rfl, rfl⟩, (fun p e => nomatch e), .dat (.lst trivial (.inr ⟨ob, Ha⟩) (rps_int zs)) .nil, .nil, (fun q hq => .nil (Ht _ (hT q hq))), by
      rw [law]
      intro v H' _ _ _ r
      cases r
      rfl⟩
  refine codeAny_mono goes fun r s2 h => ?_
  cases r with
  | error e =>
    obtain ⟨_, _, _, _, _, _, _, _, _, _, _, _, z⟩ := (show L2.CX P w [] H s1 (fun _ _ _ => False) e s2 from h)
    exact z.elim
  | ok fl =>
    cases fl with
    | next => exact False.elim h
    | brk => exact False.elim h
    | cont => exact False.elim h
    | ret u =>
      obtain ⟨v, H', os, bare, un, hok2, r, q⟩ := h
      have q : v = .bl true := q
      subst q
      obtain rfl : u = Value.bool true := r
      have grown : ∀ b, (b ∈ cs.map fun p => p.2) → ∃ more : Array Value, s2.heap.get? b = some { cls := .none, data := .fields more } := by
        intro b m
        obtain ⟨more, z⟩ := un.tbls b #[] (Ht b m)
        exact ⟨_, hok2 b _ z⟩
      have stays : ∀ b o, (b ∉ cs.map fun p => p.2) → s1.heap.get? b = some o → s2.heap.get? b = some o := by
        intro b o nm e
        rcases look b with rfl | ⟨_, m⟩ | ⟨n, m⟩
        · have z := un.frzs b ob _ Ha
          rw [scr] at e
          cases e
          exact (hok2 b _ z).1
        · exact absurd m nm
        · exact un.keep b o e (doorH_out m n) (fun z => absurd (show b ∈ ([] : List Addr) from z) (by simp)) (by simp)
      refine ⟨rfl, ⟨fun b o e => ?_, fun b o e => ?_⟩, os, bare⟩
      · by_cases m : b ∈ cs.map fun p => p.2
        · obtain ⟨more, z⟩ := grown b m
          obtain ⟨p, hp, rfl⟩ := List.mem_map.mp m
          have e' := tabs p hp
          rw [e'] at e
          cases e
          exact .inr (.inl ⟨((heads p hp).tab e').isCodeTable, rfl, #[], more, rfl, by rw [Array.empty_append]; exact z⟩)
        · exact .inl (stays b o m e)
      · by_cases m : b ∈ cs.map fun p => p.2
        · obtain ⟨more, z⟩ := grown b m
          exact ⟨_, z⟩
        · exact ⟨o, stays b o m e⟩
end DL
namespace DL
open PySem PySem.Spec PyProof.Rows L2
section
variable {X : Cx} {G : Pg} {C : Cn} {W : WX} {k kc : Nat} {f : Addr} {fd : FuncData} {ps : List Str} {F : FSem}
/-- f(a new list of numbers): it is f's state -/
def eFnF (F : FSem) (f : Ax) : Ex := fun ρ w => (f ρ w).bind fun p => match p.1 with
  | [.ow (.list ds)] => (match intsD ds with
    | some w0 => outR [] (F [] [] w0) p.2
    | none => .err)
  | _ => .err
theorem de_fnF {x q : Str} {p pos : Pos} {e : Expr} {af : Ax} (o : Own1 X G C) (tk : Takes X W) (Fn : FnD G k kc f fd [q] true F) (hr : Room k X.A) (hg : Gl X x) (hm : X.mg x = some (.ref f)) (hk : PySem.W.keepIn X.K (.ref f) = true) (hb : Binds X.K fd [q] []) (ha : DA X C W [e] af)
    (hdb : (x == ("__debug__" : Str)) = false := by decide) (he : starEach [e] X.env = (false, eval e X.env) :: starEach [] X.env := by rfl) (hpl : (backTo pos (starEach ([] : List Expr) X.env)).any (·.1) = false := by rfl) : DE X C W (.Call (.Name x p) [e] [] pos) (eFnF F af) := by
  refine ⟨fun pins s σ H Q I h => ?_⟩
  obtain ⟨ρ, w, S, E, h⟩ := eT_to h
  unfold eFnF at h
  have hP : C.P = G.P := o.t.P.trans o.P.symm
  have hw : C.w = G.w := o.t.w.trans o.w.symm
  have hK : C.K = G.K := o.t.K.trans o.K.symm
  refine wpAny_Call_Name_kw (ld_glob I hg hm ?_ hdb)
  refine PySem.W.callWith_K (h₀ := X.base) I.ok.mod.kin hk (thn (ha.run pos pins s σ H (fun vs H1 => ∃ rs w1, Pst C H H1 w1 ∧ RvsOk C H H1 S vs rs ∧ Good C W σ H (match rs with
    | [.ow (.list ds)] => (match intsD ds with
      | some w0 => outR [] (F [] [] w0) w1
      | none => .err)
    | _ => .err) fun p => ∀ v H', Pst C H H' p.2 → RvOk C H H' S v p.1 → Q v H') I (aT_of E E.rf (h.bind.imp fun q hq vs H1 p1 r1 => ⟨_, _, p1, r1, hq⟩))) fun us s1 ⟨vs, H1, I1, r, rs, w1, p1, r1, q⟩ => ⟨I1.kIn, ?_⟩) he hpl
  split at q
  · rename_i ds
    split at q
    · rename_i w0 hw0
      obtain ⟨_, _⟩ | ⟨h1, h2⟩ := r1
      cases h2
      obtain ⟨a, rfl, own, na⟩ := h1
      cases own with
      | lst at1 rps =>
        rename_i zs
        have hz := rps_ints hw0 rps
        subst hz
        have hb' := hb s1 us I1.kIn (by rw [List.append_nil, ← r.length]; rfl)
        rw [List.append_nil] at hb'
        have ne : ∀ b u, H b = some u → b ≠ a := fun b u e z => by rw [z, na] at e; cases e
        have grow : ∀ H', Grow (some a) H1 H' → Grow C.pw H H' := fun H' g => ⟨fun b u e n m => g.keep b u (p1.g.keep b u e n m) n (fun z => ne b u e (Option.some.inj z).symm), fun b z => p1.g.nn b (g.nn b z)⟩
        have stays : ∀ H', Grow (some a) H1 H' → StOk C w1 H' := fun H' g b e => by
          have hs := E.st b e
          exact g.keep _ _ (p1.st b e) (fun _ z => nomatch z) (fun z => ne b _ hs (Option.some.inj z).symm)
        refine run_core o tk Fn hr I1 hb' rfl r ⟨fun _ => False, [], w0, some a, [], [], [], ⟨a, rfl, rfl⟩, fun b e => ?_, .nil, .nil, by rw [← o.T]; exact p1.tb, ?_⟩
        · cases e
          exact ⟨at1, id⟩
        have q := q.ret
        revert q
        cases F [] [] w0 with
        | ok z =>
          obtain ⟨r', w'⟩ := z
          intro ⟨_, q⟩ v H' g st tb ret
          refine q v H' ⟨grow H' g, stays H' g, by rw [o.T]; exact tb⟩ ?_
          exact (ret_rv (S := S) hP hw hK ret (.inl fun b z => z.elim False.elim fun z => E.sN b (p1.g.nn b z))).back p1.g
        | exc c d =>
          intro q H' da w' g st tb hp'
          have := q H' da w1 (grow H' g) (stays H' g) (by rw [o.T]; exact tb) (by rw [o.pay]; exact hp')
          rw [o.cls] at this
          exact this
        | err => exact fun h => h
    · exact q.elim
  · exact q.elim
end
end DL
namespace DL
open PySem PySem.Spec PyProof.Rows L2
/-! ### a def's body: what every step of it asks -/
def visB (sc : Scope) (x : Str) : Bool := match sc.names.lookup x with
  | some .local => true
  | some .cell => true
  | some .free => true
  | _ => false
theorem vis_of {sc : Scope} {x : Str} (h : visB sc x = true) : Vis sc x := by
  unfold visB at h
  split at h
  · rename_i e; exact .inl e
  · rename_i e; exact .inr (.inl e)
  · rename_i e; exact .inr (.inr e)
  · cases h
def locB (sc : Scope) (x : Str) : Bool := match sc.names.lookup x with
  | some .local => true
  | some .cell => true
  | _ => false
theorem loc_of {sc : Scope} {x : Str} (h : locB sc x = true) : Loc sc x := by
  unfold locB at h
  split at h
  · rename_i e; exact .inl e
  · rename_i e; exact .inr e
  · cases h
def nameOk (x : Str) : Bool := !(x == ("__debug__" : Str)) && !(x == ("__classdict__" : Str))
def namesOk (N : List Str) : Bool := N.all nameOk
theorem namesOk_at {N : List Str} {i : Nat} {x : Str} (h : namesOk N = true) (e : N[i]? = some x) : (x == ("__debug__" : Str)) = false ∧ (x == ("__classdict__" : Str)) = false := by
  have h1 := List.all_eq_true.mp h x (List.mem_of_getElem? e)
  unfold nameOk at h1
  have h2 := Bool.and_eq_true_iff.mp h1
  exact ⟨by simpa using h2.1, by simpa using h2.2⟩
structure Wk (G : Pg) (k : Nat) (X : Cx) (C : Cn) (W : WX) : Prop where
  o : Own1 X G C
  tk : Takes X W
  hr : Room k X.A
  nm : namesOk X.N = true
  nd : X.N.Nodup
  pi : C.pi = 0
section
variable {G : Pg} {k : Nat} {X : Cx} {C : Cn} {W : WX}
theorem Wk.t (h : Wk G k X C W) : Tie X C := h.o.t
theorem Wk.hide (h : Wk G k X C W) {l : List (V × D)} : Wk G k X (C.hide l) W :=
  ⟨⟨⟨h.o.t.P, h.o.t.w, h.o.t.K, h.o.t.calm, h.o.t.room, h.o.t.gd⟩, h.o.P, h.o.w, h.o.K, h.o.mg, h.o.base, h.o.T, h.o.cls, h.o.pay⟩, h.tk, h.hr, h.nm, h.nd, h.pi⟩
theorem Wk.blk (h : Wk G k X C W) {s : Shared} {H : Hp} {scope : Scope} {env : Env} {fp : List Addr} : Wk G k (X.blk s H scope env fp) C W0 :=
  ⟨⟨⟨h.o.t.P, h.o.t.w, h.o.t.K, h.o.t.calm, h.o.t.room, h.o.t.gd⟩, h.o.P, h.o.w, h.o.K, h.o.mg, h.o.base, h.o.T, h.o.cls, h.o.pay⟩, LamX.takes0, h.hr, h.nm, h.nd, h.pi⟩
/-- at a def's entry -/
theorem wk_def {N : List Str} {qual : Str} {scope : Scope} {f : Addr} {cdv : Value} {A : Around} {outer : List Env} {s : Shared} {H : Hp} {E : XK} {S0 : Addr → Prop} {pw : Option Addr} {fns : List Addr}
    (hr : Room k (A.deeper (envOfC qual scope s.heap.objs.size f cdv))) (hg : A.guards = some []) (hn : namesOk N = true) (nd : N.Nodup) :
    Wk G k (cxOf (L2.CX G.P G.w) G.P G.w G.K G.mg G.base N qual scope f cdv A outer s H E) (cnOf G H S0 pw fns) (fun cls d _ H => E cls d H) :=
  ⟨⟨⟨rfl, rfl, rfl, rfl, by have := hr.un; show (A.deeper (envOfC qual scope s.heap.objs.size f cdv)).units + 70 < _; omega, hg⟩, rfl, rfl, rfl, rfl, rfl, rfl, rfl, rfl⟩, takes_of rfl rfl rfl rfl, hr, hn, nd, rfl⟩
/-! ### the rules, shorter -/
theorem dv {i : Nat} {x : Str} {pos : Pos} (h : Wk G k X C W) (hN : X.N[i]? = some x) (hv : visB X.env.scope x = true) : DE X C W (.Name x pos) (eVar i) := de_var hN (vis_of hv) (namesOk_at h.nm hN).1 (namesOk_at h.nm hN).2
theorem dgn {i : Nat} {x : Str} {pos : Pos} (h : Wk G k X C W) (hi : C.pw = none ∨ i ≠ 0) (hN : X.N[i]? = some x) (hl : locB X.env.scope x = true) (hf : X.fn x = true ∨ X.env.scope.names.lookup x = some .local := by first | exact .inl rfl | exact .inr rfl) : DG X C (.Name x pos) (gNm i) [i] :=
  dg_name (by rw [h.pi]; exact hi) h.nd hN (loc_of hl) hf
theorem dsSet {i : Nat} {x : Str} {e : Expr} {f : Ex} {pos pos' : Pos} (h : Wk G k X C W) (hi : C.pw = none ∨ i ≠ 0) (hN : X.N[i]? = some x) (hl : locB X.env.scope x = true) (he : DE X C W e f) (hs : swapsWith e (some (.Name x pos')) pos.line X.env = pure false := by rfl) (hf : X.fn x = true ∨ X.env.scope.names.lookup x = some .local := by first | exact .inl rfl | exact .inr rfl) :
    DS X C W (.Assign [.Name x pos'] e pos) (sSet i f) := ds_set (by rw [h.pi]; exact hi) h.nd hN (loc_of hl) he hs hf
theorem deStG {y : Str} {m : Nat} {k' : Int} {pos py pk : Pos} {j : Tok} (h : Wk G k X C W) (hp : ∃ p, C.pw = some p) (hk : k' = (m : Int)) (hN : X.N[0]? = some y) (hv : visB X.env.scope y = true) : DE X C W (.Subscript (.Name y py) (.Constant (.int k') j pk) pos) (eStG m) :=
  de_stG hp hk h.pi hN (vis_of hv) (by exact fun _ _ => rfl) (namesOk_at h.nm hN).1 (namesOk_at h.nm hN).2
theorem deFn {kc j : Nat} {f : Addr} {fd : FuncData} {ps : List Str} {F : FSem} {x : Str} {p pos : Pos} {e : Expr} {es : List Expr} {af : Ax} (h : Wk G k X C W) (Fn : FnD G j kc f fd ps false F) (hj : Nat.ble j k = true) (hg : Gl X x) (hm : X.mg x = some (.ref f)) (hk : PySem.W.keepIn X.K (.ref f) = true) (hb : Binds X.K fd ps []) (ha : DA X C W (e :: es) af)
    (hdb : (x == ("__debug__" : Str)) = false := by decide) (he : starEach (e :: es) X.env = (false, eval e X.env) :: starEach es X.env := by rfl) (hpl : (backTo pos (starEach es X.env)).any (·.1) = false := by rfl) : DE X C W (.Call (.Name x p) (e :: es) [] pos) (eFn ps.length F af) :=
  de_fn h.o h.tk (Fn.mono (Nat.le_of_ble_eq_true hj)) h.hr hg hm hk hb ha hdb he hpl
theorem deFnS {kc j : Nat} {f : Addr} {fd : FuncData} {ps : List Str} {F : FSem} {x y : Str} {p pos py : Pos} {es : List Expr} {af : Ax} (h : Wk G k X C W) (hp : ∃ p, C.pw = some p) (Fn : FnD G j kc f fd ps true F) (hj : Nat.ble j k = true) (hg : Gl X x) (hm : X.mg x = some (.ref f)) (hk : PySem.W.keepIn X.K (.ref f) = true) (hb : Binds X.K fd ps []) (hN : X.N[0]? = some y) (hv : visB X.env.scope y = true) (ha : DA X C W es af)
    (hdb : (x == ("__debug__" : Str)) = false := by decide)
    (he : starEach (.Name y py :: es) X.env = (false, eval (.Name y py) X.env) :: starEach es X.env := by rfl) (hpl : (backTo pos (starEach es X.env)).any (·.1) = false := by rfl) : DE X C W (.Call (.Name x p) (.Name y py :: es) [] pos) (eFnS ps.length F af) :=
  de_fnS h.o h.tk hp (Fn.mono (Nat.le_of_ble_eq_true hj)) h.hr hg hm hk hb h.pi hN (vis_of hv) ha hdb (namesOk_at h.nm hN).1 (namesOk_at h.nm hN).2 he hpl
theorem deFnF {kc j : Nat} {f : Addr} {fd : FuncData} {F : FSem} {x q : Str} {p pos : Pos} {e : Expr} {af : Ax} (h : Wk G k X C W) (Fn : FnD G j kc f fd [q] true F) (hj : Nat.ble j k = true) (hg : Gl X x) (hm : X.mg x = some (.ref f)) (hk : PySem.W.keepIn X.K (.ref f) = true) (hb : Binds X.K fd [q] []) (ha : DA X C W [e] af)
    (hdb : (x == ("__debug__" : Str)) = false := by decide) (he : starEach [e] X.env = (false, eval e X.env) :: starEach [] X.env := by rfl) (hpl : (backTo pos (starEach ([] : List Expr) X.env)).any (·.1) = false := by rfl) : DE X C W (.Call (.Name x p) [e] [] pos) (eFnF F af) :=
  de_fnF h.o h.tk (Fn.mono (Nat.le_of_ble_eq_true hj)) h.hr hg hm hk hb ha hdb he hpl
theorem deFnK {kc j : Nat} {f : Addr} {fd : FuncData} {ps ks : List Str} {perm : List Nat} {F : FSem} {x : Str} {p pos : Pos} {kws : List Keyword} {af : Ax} (h : Wk G k X C W) (Fn : FnD G j kc f fd ps false F) (hj : Nat.ble j k = true) (hg : Gl X x) (hm : X.mg x = some (.ref f)) (hk : PySem.W.keepIn X.K (.ref f) = true) (hb : KB fd ps ks perm) (ha : DK X C W kws af)
    (hall : (backToKw pos (keywordEach kws X.env)).all (·.1.isSome) = true := by rfl) (hks : (backToKw pos (keywordEach kws X.env)).filterMap (·.1) = ks := by rfl)
    (hdb : (x == ("__debug__" : Str)) = false := by decide) (hpl : ((backTo pos (starEach [] X.env)).any (·.1) || (backToKw pos (keywordEach kws X.env)).any (·.1.isNone)) = false := by rfl) : DE X C W (.Call (.Name x p) [] kws pos) (eFnK ps.length ks.length perm F af) :=
  de_fnK h.o h.tk (Fn.mono (Nat.le_of_ble_eq_true hj)) h.hr hg hm hk hb ha hall hks hdb hpl
theorem b_len : bootBuiltins "len" = some (.builtin "len") := by decide +kernel
theorem b_abs : bootBuiltins "abs" = some (.builtin "abs") := by decide +kernel
theorem b_int : bootBuiltins "int" = some (.type "int") := by decide +kernel
theorem b_bool : bootBuiltins "bool" = some (.type "bool") := by decide +kernel
theorem b_str : bootBuiltins "str" = some (.type "str") := by decide +kernel
theorem b_dict : bootBuiltins "dict" = some (.type "dict") := by decide +kernel
theorem b_set : bootBuiltins "set" = some (.type "set") := by decide +kernel
theorem b_divmod : bootBuiltins "divmod" = some (.builtin "divmod") := by decide +kernel
theorem b_tuple : bootBuiltins "tuple" = some (.type "tuple") := by decide +kernel
theorem b_list : bootBuiltins "list" = some (.type "list") := by decide +kernel
theorem b_all : bootBuiltins "all" = some (.builtin "all") := by decide +kernel
theorem b_any : bootBuiltins "any" = some (.builtin "any") := by decide +kernel
theorem b_sum : bootBuiltins "sum" = some (.builtin "sum") := by decide +kernel
theorem b_max : bootBuiltins "max" = some (.builtin "max") := by decide +kernel
theorem b_min : bootBuiltins "min" = some (.builtin "min") := by decide +kernel
theorem b_sorted : bootBuiltins "sorted" = some (.builtin "sorted") := by decide +kernel
theorem b_repr : bootBuiltins "repr" = some (.builtin "repr") := by decide +kernel
end
end DL
namespace DL
open PySem PySem.Spec PyProof.Rows L2
section
variable {G : Pg} {k : Nat} {X : Cx} {C : Cn} {W : WX}
theorem ne_pi (h : Wk G k X C W) {i : Nat} (hi : i ≠ 0) : i ≠ C.pi := by rw [h.pi]; exact hi
def sBad : Sx := fun _ _ => .err
def sBrk : Sx := fun ρ w => .bk ρ w
def sCnt : Sx := fun ρ w => .ct ρ w
theorem deGI {x : Str} {i : Int} {pos : Pos} (hg : Gl X x) (hm : ∃ t, X.mg x = some (.int i t)) (hd : (x == ("__debug__" : Str)) = false := by decide) : DE X C W (.Name x pos) (eC (.int i)) := let ⟨_, e⟩ := hm; de_globI hg e hd
theorem deGS {x : Str} {i : Str} {pos : Pos} (hg : Gl X x) (hm : ∃ t, X.mg x = some (.str i t)) (hd : (x == ("__debug__" : Str)) = false := by decide) : DE X C W (.Name x pos) (eC (.str i)) := let ⟨_, e⟩ := hm; de_globS hg e hd
/-! ### a, b = e, f: side by side -/
def sPar2 (i j : Nat) (f : Ax) : Sx := fun ρ w => ofR (f ρ w) fun p => match p.1 with
  | [r, q] => if noBw [r, q] then .nx ((ρ.set i (some (.fz r.d))).set j (some (.fz q.d))) p.2 else .err
  | _ => .err
def sPar3 (i j l : Nat) (f : Ax) : Sx := fun ρ w => ofR (f ρ w) fun p => match p.1 with
  | [r, q, z] => if noBw [r, q, z] then .nx (((ρ.set i (some (.fz r.d))).set j (some (.fz q.d))).set l (some (.fz z.d))) p.2 else .err
  | _ => .err
theorem dsPar2 {i j : Nat} {x y : Str} {a b : Expr} {f : Ax} {px py pt pos : Pos} {kt k2 pt2} (h : Wk G k X C W) (hi : C.pw = none ∨ i ≠ 0) (hj : C.pw = none ∨ j ≠ 0) (nx : X.N[i]? = some x) (ny : X.N[j]? = some y) (hij : i ≠ j) (lx : X.env.scope.names.lookup x = some .local) (ly : X.env.scope.names.lookup y = some .local) (ha : DA X C W [a, b] f)
    (hw : swappedStores [.Tuple [.Name x px, .Name y py] kt pt] (.Tuple [a, b] k2 pt2) X.env = pure (some [x, y]) := by rfl) (hs : swapsWithSole [.Tuple [.Name x px, .Name y py] kt pt] (.Tuple [a, b] k2 pt2) pos.line X.env = pure false := by rfl) :
    DS X C W (.Assign [.Tuple [.Name x px, .Name y py] kt pt] (.Tuple [a, b] k2 pt2) pos) (sPar2 i j f) := by
  refine ps_imp (ps_par h.t.calm h.nd nx ny hij lx ly ha hw hs) fun σ H D hq => ?_
  obtain ⟨ρ, w, S, E, q⟩ := sT_to hq
  unfold sPar2 at q
  refine aT_of E E.rf ((OutOk.ofR E q).imp fun p hp vs H' p1 r1 => ?_)
  obtain ⟨rs, w1⟩ := p
  dsimp only at hp r1 p1
  split at hp
  · rename_i r q
    split at hp
    · rename_i nb
      cases r1.rps E nb with
      | cons ra rest =>
        cases rest with
        | cons rb rest =>
          cases rest
          exact ⟨_, _, rfl, hp _ _ _ (((E.go p1).setF (by rw [h.pi]; exact hi) ra).setF (by rw [h.pi]; exact hj) rb)⟩
    · exact hp.elim
  · exact hp.elim
theorem dsPar3 {i j l : Nat} {x y z : Str} {a b c : Expr} {f : Ax} {px py pz pt pos : Pos} {kt k2 pt2} (h : Wk G k X C W) (hi : C.pw = none ∨ i ≠ 0) (hj : C.pw = none ∨ j ≠ 0) (hl : C.pw = none ∨ l ≠ 0) (nx : X.N[i]? = some x) (ny : X.N[j]? = some y) (nz : X.N[l]? = some z) (hij : i ≠ j) (hil : i ≠ l) (hjl : j ≠ l) (lx : X.env.scope.names.lookup x = some .local) (ly : X.env.scope.names.lookup y = some .local) (lz : X.env.scope.names.lookup z = some .local) (ha : DA X C W [a, b, c] f)
    (hw : swappedStores [.Tuple [.Name x px, .Name y py, .Name z pz] kt pt] (.Tuple [a, b, c] k2 pt2) X.env = pure (some [x, y, z]) := by rfl) (hs : swapsWithSole [.Tuple [.Name x px, .Name y py, .Name z pz] kt pt] (.Tuple [a, b, c] k2 pt2) pos.line X.env = pure false := by rfl) :
    DS X C W (.Assign [.Tuple [.Name x px, .Name y py, .Name z pz] kt pt] (.Tuple [a, b, c] k2 pt2) pos) (sPar3 i j l f) := by
  refine ps_imp (ps_par3 h.t.calm h.nd nx ny nz hij hil hjl lx ly lz ha hw hs) fun σ H D hq => ?_
  obtain ⟨ρ, w, S, E, q⟩ := sT_to hq
  unfold sPar3 at q
  refine aT_of E E.rf ((OutOk.ofR E q).imp fun p hp vs H' p1 r1 => ?_)
  obtain ⟨rs, w1⟩ := p
  dsimp only at hp r1 p1
  split at hp
  · rename_i r q z
    split at hp
    · rename_i nb
      cases r1.rps E nb with
      | cons ra rest =>
        cases rest with
        | cons rb rest =>
          cases rest with
          | cons rc rest =>
            cases rest
            exact ⟨_, _, _, rfl, hp _ _ _ ((((E.go p1).setF (by rw [h.pi]; exact hi) ra).setF (by rw [h.pi]; exact hj) rb).setF (by rw [h.pi]; exact hl) rc)⟩
    · exact hp.elim
  · exact hp.elim
/-! ### -x -/
def fNeg : D → Option RV
  | .int i => some (.fz (.int (-i)))
  | _ => none
theorem un_neg' : UnR X (unaryOp .USub) (op1 C fNeg) := by
  intro pins s σ H x v Q I rx h
  obtain ⟨S, d, hS, l, q⟩ := h
  cases d with
  | int i =>
    obtain rfl := l.int
    refine un_neg pins s σ H _ v Q I rx ⟨i, rfl, ?_⟩
    exact q _ _ .refl (.int _)
  | _ => exact q.elim
/-! ### a block -/
def blkB (N : List Str) (sc scope : Scope) (own : List (Str × Nat)) : Bool :=
  (match scope.kind with | .function => true | _ => false) && (scope.names.all fun y => decide (scope.names.lookup y.1 = some y.2)) && (own.all fun p => decide (N[p.2]? = some p.1)) &&
    (scope.names.all fun y => !decide (y.2 = .free) || (decide (sc.names.lookup y.1 = some .cell) || decide (sc.names.lookup y.1 = some .free))) &&
    (scope.names.all fun y => !(decide (y.2 = .local) || decide (y.2 = .cell)) || ((own.any fun p => decide (p.1 = y.1)) || !decide (y.1 ∈ N)))
theorem blk_of {N : List Str} {sc scope : Scope} {own : List (Str × Nat)} (h : blkB N sc scope own = true) : BlkOk N sc scope own := by
  unfold blkB at h
  simp only [Bool.and_eq_true] at h
  obtain ⟨⟨⟨⟨h1, h2⟩, h3⟩, h4⟩, h5⟩ := h
  refine ⟨?_, fun y hy => of_decide_eq_true (List.all_eq_true.mp h2 y hy), fun p hp => of_decide_eq_true (List.all_eq_true.mp h3 p hp), fun y hy e => ?_, fun y hy e => ?_⟩
  · revert h1
    cases scope.kind <;> intro h1 <;> first | rfl | cases h1
  · have := List.all_eq_true.mp h4 y hy
    simp only [e, decide_true, Bool.not_true, Bool.false_or, Bool.or_eq_true, decide_eq_true_eq] at this
    exact this
  · have := List.all_eq_true.mp h5 y hy
    have e2 : (decide (y.2 = .local) || decide (y.2 = .cell)) = true := by rcases e with e | e <;> simp [e]
    simp only [e2, Bool.not_true, Bool.false_or, Bool.or_eq_true, List.any_eq_true, decide_eq_true_eq, Bool.not_eq_true', decide_eq_false_iff_not] at this
    rcases this with ⟨p, hp, z⟩ | z
    · exact .inl (List.mem_map.mpr ⟨p, hp, z⟩)
    · exact .inr z
theorem deLc {elt tg iter : Expr} {ifs : List Expr} {scope : Scope} {own : List (Str × Nat)} {pos : Pos} {f : Ix} {b : Gx} {tf : Tx} {ef : Ex} {ts : List Nat} (h : Wk G k X C W) (hv : C.pw = none ∨ (ownS own).contains 0 = false) (hts : ∀ j ∈ ts, j ∈ ownS own) (hi : DI X C W tg iter f) (ok : blkB X.N X.env.scope scope own = true)
    (hg : ∀ (s : Shared) (H : Hp) (A : Addr) (cl : List (Str × Addr)) (fp : List Addr), DG (X.blk s H scope (compEnvC scope cl A X.env) fp) C tg b ts) (ht : ∀ (s : Shared) (H : Hp) (A : Addr) (cl : List (Str × Addr)) (fp : List Addr), DPs (X.blk s H scope (compEnvC scope cl A X.env) fp) C W0 ifs tf)
    (he : ∀ (s : Shared) (H : Hp) (A : Addr) (cl : List (Str × Addr)) (fp : List Addr), DE (X.blk s H scope (compEnvC scope cl A X.env) fp) C W0 elt ef) (hs : ∀ x, foldedSetIterable iter X.env x = pure x := by intro _; rfl) :
    DE X C W (.ListComp elt [⟨tg, iter, ifs, 0⟩] scope pos) (eLc (ownS own) f b tf ef) :=
  de_lc h.t h.nd (hv.imp id fun z m => by
    rw [h.pi] at m
    have := List.contains_iff_mem.mpr m
    rw [z] at this; cases this) hts hi (blk_of ok) hg ht he hs
end
end DL
namespace DL
open PySem PySem.Spec PyProof.Rows L2
/-! ### reckoning: the combinators as rewriting -/
theorem bindC {α β : Type} {r r' : Res α} {f : α → Res β} (h : r = r') : r.bind f = r'.bind f := by rw [h]
theorem bind1 {α β : Type} {a : α} {f : α → Res β} : (Res.ok a).bind f = f a := rfl
theorem ofRC {α : Type} {r r' : Res α} {k : α → Out} (h : r = r') : ofR r k = ofR r' k := by rw [h]
theorem ofR1 {α : Type} {a : α} {k : α → Out} : ofR (Res.ok a) k = k a := rfl
def Out.seq (o : Out) (h : Sx) : Out := match o with
  | .nx ρ w => h ρ w
  | o => o
theorem seqC {o o' : Out} {h : Sx} (e : o = o') : o.seq h = o'.seq h := by rw [e]
theorem seq_nx {ρ : DEnv} {w : List Int} {h : Sx} : (Out.nx ρ w).seq h = h ρ w := rfl
theorem seq_rt {r : RV} {w : List Int} {h : Sx} : (Out.rt r w).seq h = .rt r w := rfl
theorem seq_ct {r : DEnv} {w : List Int} {h : Sx} : (Out.ct r w).seq h = .ct r w := rfl
theorem seq_bk {r : DEnv} {w : List Int} {h : Sx} : (Out.bk r w).seq h = .bk r w := rfl
theorem seq_exc {c : Nat} {d : D} {h : Sx} : (Out.exc c d).seq h = .exc c d := rfl
def Out.fin (o : Out) : Res (RV × List Int) := match o with
  | .nx _ w => .ok (.fz .none, w)
  | .rt r w => .ok (given r, w)
  | .exc c d => .exc c d
  | _ => .err
theorem fin_nx {ρ : DEnv} {w : List Int} : (Out.nx ρ w).fin = .ok (.fz .none, w) := rfl
theorem fin_rt {r : RV} {w : List Int} : (Out.rt r w).fin = .ok (given r, w) := rfl
theorem given_fz {d : D} : given (.fz d) = .fz d := rfl
theorem given_ow {d : D} : given (.ow d) = .ow d := rfl
theorem given_bw {d : D} : given (.bw d) = .ow d := rfl
theorem run1 {n : Nat} {st : Bool} {g : List CSem → Sx} {Φ : List CSem} {args : List EV} {w : List Int} : runB n st g Φ args w = (g Φ (env0 n st args) w).fin := by
  unfold runB Out.fin
  cases g Φ (env0 n st args) w <;> rfl
/-! what stands behind a step -/
abbrev RW2 : Type := RV × List Int
def kOp2 (F : D → D → Option RV) (d : D) (q : RW2) : Res RW2 := lift (F d q.1.d) q.2
def kOp1 (F : D → D → Option RV) (g : Ex) (ρ : DEnv) (p : RW2) : Res RW2 := (g ρ p.2).bind (kOp2 F p.1.d)
def kUn (U : D → Option RV) (p : RW2) : Res RW2 := lift (U p.1.d) p.2
def kCall (B : List D → Option RV) (p : List RV × List Int) : Res RW2 := lift (B (p.1.map RV.d)) p.2
def toB (d : D) (w : List Int) : Res (Bool × List Int) := match d with
  | .bool b => .ok (b, w)
  | _ => .err
def kB (p : RW2) : Res (Bool × List Int) := toB p.1.d p.2
def kAnd (tg : Tx) (ρ : DEnv) (p : Bool × List Int) : Res (Bool × List Int) := if p.1 then tg ρ p.2 else .ok (false, p.2)
def kOr (tg : Tx) (ρ : DEnv) (p : Bool × List Int) : Res (Bool × List Int) := if p.1 then .ok (true, p.2) else tg ρ p.2
def kNot (p : Bool × List Int) : Res (Bool × List Int) := .ok (!p.1, p.2)
def kEAnd (g : Ex) (ρ : DEnv) (p : Bool × List Int) : Res RW2 := if p.1 then g ρ p.2 else .ok (.fz (.bool false), p.2)
def kEOr (g : Ex) (ρ : DEnv) (p : Bool × List Int) : Res RW2 := if p.1 then .ok (.fz (.bool true), p.2) else g ρ p.2
def kENot (p : Bool × List Int) : Res RW2 := .ok (.fz (.bool (!p.1)), p.2)
def kIf (f g : Ex) (ρ : DEnv) (p : Bool × List Int) : Res RW2 := if p.1 then f ρ p.2 else g ρ p.2
def chn (G : D → D → Option RV) (h : Ex) (ρ : DEnv) (q : D) (z : D) (w : List Int) : Res RW2 := match z with
  | .bool true => (h ρ w).bind (kOp2 G q)
  | .bool false => .ok (.fz (.bool false), w)
  | _ => .err
def kC3 (G : D → D → Option RV) (h : Ex) (ρ : DEnv) (e : D) (z : RW2) : Res RW2 := chn G h ρ e z.1.d z.2
def kC2 (F G : D → D → Option RV) (h : Ex) (ρ : DEnv) (d : D) (q : RW2) : Res RW2 := (lift (F d q.1.d) q.2).bind (kC3 G h ρ q.1.d)
def kC1 (F G : D → D → Option RV) (g h : Ex) (ρ : DEnv) (p : RW2) : Res RW2 := (g ρ p.2).bind (kC2 F G h ρ p.1.d)
def kCons2 (a : RV) (q : List RV × List Int) : Res (List RV × List Int) := .ok (a :: q.1, q.2)
def kCons1 (af : Ax) (ρ : DEnv) (p : RW2) : Res (List RV × List Int) := (af ρ p.2).bind (kCons2 p.1)
def kTup (p : List RV × List Int) : Res RW2 := if noBw p.1 && decide (p.1.length ≤ sizeLine) then .ok (.fz (.tuple (p.1.map RV.d)), p.2) else .err
def kLst (p : List RV × List Int) : Res RW2 := if noBw p.1 && decide (p.1.length ≤ sizeLine) then .ok (.ow (.list (p.1.map RV.d)), p.2) else .err
def kFn (n : Nat) (G : FSem) (p : List RV × List Int) : Res RW2 := if p.1.length == n then outR p.1 (G [] (p.1.map frz) []) p.2 else .err
def kFnS (n : Nat) (G : FSem) (p : List RV × List Int) : Res RW2 := if p.1.length + 1 == n then outS p.1 (G [] (p.1.map frz) p.2) else .err
def kFnK (n m : Nat) (perm : List Nat) (G : FSem) (p : List RV × List Int) : Res RW2 := if p.1.length == m && (pick perm p.1).length == n then outR (pick perm p.1) (G [] ((pick perm p.1).map frz) []) p.2 else .err
def isiR (o : Option Bool) (w : List Int) : Res RW2 := match o with
  | some b => .ok (.fz (.bool b), w)
  | none => .err
def kIsi (T : String) (p : RW2) : Res RW2 := isiR (isT T p.1.d) p.2
def kSl3 (d : D) (l : Option Int) (h : Option Int × List Int) : Res RW2 := lift (fSl d l h.1) h.2
def kSl2 (hi : Bx) (ρ : DEnv) (d : D) (l : Option Int × List Int) : Res RW2 := (hi ρ l.2).bind (kSl3 d l.1)
def kSl1 (lo hi : Bx) (ρ : DEnv) (p : RW2) : Res RW2 := (lo ρ p.2).bind (kSl2 hi ρ p.1.d)
def toI (d : D) (w : List Int) : Res (Option Int × List Int) := match d with
  | .int i => .ok (some i, w)
  | _ => .err
def kI (p : RW2) : Res (Option Int × List Int) := toI p.1.d p.2
def nxO (o : Option DEnv) (w : List Int) : Out := match o with
  | some ρ => .nx ρ w
  | none => .err
def asgO (b : Gx) (ρ : DEnv) (r : RV) (w : List Int) : Out := match r with
  | .bw _ => .err
  | r => nxO (b r.d ρ) w
def stO (k : Nat) (ρ : DEnv) (d : D) (w : List Int) : Out := match d with
  | .int z => if k < w.length then .nx ρ (w.set k z) else .err
  | _ => .err
def oSx (ρ : DEnv) (p : RW2) : Out := .nx ρ p.2
def oRet (p : RW2) : Out := .rt p.1 p.2
def oIf (sg sh : Sx) (ρ : DEnv) (p : Bool × List Int) : Out := if p.1 then sg ρ p.2 else sh ρ p.2
def oSet (i : Nat) (ρ : DEnv) (p : RW2) : Out := nxO (put i ρ p.1) p.2
def oAsg (b : Gx) (ρ : DEnv) (p : RW2) : Out := asgO b ρ p.1 p.2
def par2O (i j : Nat) (ρ : DEnv) (rs : List RV) (w : List Int) : Out := match rs with
  | [r, q] => if noBw [r, q] then .nx ((ρ.set i (some (.fz r.d))).set j (some (.fz q.d))) w else .err
  | _ => .err
def par3O (i j l : Nat) (ρ : DEnv) (rs : List RV) (w : List Int) : Out := match rs with
  | [r, q, z] => if noBw [r, q, z] then .nx (((ρ.set i (some (.fz r.d))).set j (some (.fz q.d))).set l (some (.fz z.d))) w else .err
  | _ => .err
def oPar2 (i j : Nat) (ρ : DEnv) (p : List RV × List Int) : Out := par2O i j ρ p.1 p.2
def oPar3 (i j l : Nat) (ρ : DEnv) (p : List RV × List Int) : Out := par3O i j l ρ p.1 p.2
def oStS (k : Nat) (ρ : DEnv) (p : RW2) : Out := stO k ρ p.1.d p.2
def stTO (k i2 : Nat) (ρ : DEnv) (r : RV) (w : List Int) : Out := match r with
  | .fz (.tuple [.int z, d]) => if k < w.length then .nx (ρ.set i2 (some (.fz d))) (w.set k z) else .err
  | _ => .err
def oStT (k i2 : Nat) (ρ : DEnv) (p : RW2) : Out := stTO k i2 ρ p.1 p.2
def oFor (b : Gx) (g : Sx) (ρ : DEnv) (p : List D × List Int) : Out := loopL b g p.1 ρ p.2
def seqI (r : RV) (w : List Int) : Res (List D × List Int) := match r with
  | .fz (.list ds) => .ok (ds, w)
  | .fz (.tuple ds) => .ok (ds, w)
  | .ow (.list ds) => .ok (ds, w)
  | .ow (.tuple ds) => .ok (ds, w)
  | _ => .err
def kSeq (p : RW2) : Res (List D × List Int) := seqI p.1 p.2
def rg1 (l : List D) (w : List Int) : Res (List D × List Int) := match l with
  | [.int j] => if rngOk j then .ok (rngD 0 j.toNat, w) else .err
  | _ => .err
def rg2 (l : List D) (w : List Int) : Res (List D × List Int) := match l with
  | [.int i, .int j] => if rngOk i && rngOk j then .ok (rngD i (j - i).toNat, w) else .err
  | _ => .err
def kRg1 (p : List RV × List Int) : Res (List D × List Int) := rg1 (p.1.map RV.d) p.2
def kRg2 (p : List RV × List Int) : Res (List D × List Int) := rg2 (p.1.map RV.d) p.2
def mkL (z : List D × List Int) : Res RW2 := if bz z.1.length then .ok (.ow (.list z.1), z.2) else .err
def kLc (vs : List Nat) (b : Gx) (t : Tx) (e : Ex) (ρ : DEnv) (p : List D × List Int) : Res RW2 := (noX (lcL b t e p.1 (wipeE ρ vs) p.2)).bind mkL
def valD (r : RV) : Option D := match r with
  | .bw _ => none
  | r => some r.d
def kLc2 (d : D) (z : List D × List Int) : Res (List D × List Int) := .ok (d :: z.1, z.2)
def lcN (o : Option D) (k : List Int → Res (List D × List Int)) (w : List Int) : Res (List D × List Int) := match o with
  | some d => (k w).bind (kLc2 d)
  | none => .err
def kLe (k : List Int → Res (List D × List Int)) (q : RW2) : Res (List D × List Int) := lcN (valD q.1) k q.2
def kLt (e : Ex) (k : List Int → Res (List D × List Int)) (ρ : DEnv) (p : Bool × List Int) : Res (List D × List Int) := if p.1 then (e ρ p.2).bind (kLe k) else k p.2
def fnF (G : FSem) (rs : List RV) (w : List Int) : Res RW2 := match rs with
  | [.ow (.list ds)] => (match intsD ds with
    | some w0 => outR [] (G [] [] w0) w
    | none => .err)
  | _ => .err
def kFnF (G : FSem) (p : List RV × List Int) : Res RW2 := fnF G p.1 p.2
section
variable {ρ ρ' : DEnv} {w w' : List Int} {f g h : Ex} {tf tg : Tx} {af : Ax} {sg sh : Sx} {F G2 : D → D → Option RV} {U : D → Option RV} {B : List D → Option RV} {a r : RV} {rs : List RV} {G : FSem} {d e : D}
theorem e_seq : sSeq sg sh ρ w = (sg ρ w).seq sh := by
  unfold sSeq Out.seq
  cases sg ρ w <;> rfl
theorem e_var {i : Nat} : eVar i ρ w = match ρ[i]? with
  | some (some (.fz d)) => .ok (.fz d, w)
  | some (some (.ow d)) => .ok (.bw d, w)
  | some (some (.lk kvs)) => .ok (.fz (.dict kvs), w)
  | _ => .err := rfl
theorem e_op : eOp F f g ρ w = (f ρ w).bind (kOp1 F g ρ) := rfl
theorem k_op1 : kOp1 F g ρ (a, w) = (g ρ w).bind (kOp2 F a.d) := rfl
theorem k_op2 : kOp2 F d (a, w) = lift (F d a.d) w := rfl
theorem e_un : eUn U f ρ w = (f ρ w).bind (kUn U) := rfl
theorem k_un : kUn U (a, w) = lift (U a.d) w := rfl
theorem e_call : eCall B af ρ w = (af ρ w).bind (kCall B) := rfl
theorem k_call : kCall B (rs, w) = lift (B (rs.map RV.d)) w := rfl
theorem e_c {d : D} : eC d ρ w = .ok (.fz d, w) := rfl
theorem lift1 {r : RV} : lift (some r) w = .ok (r, w) := rfl
theorem toB1 {b : Bool} : toB (.bool b) w = .ok (b, w) := rfl
theorem e_asB : asB f ρ w = (f ρ w).bind kB := by
  unfold asB
  refine congrArg _ (funext fun p => ?_)
  unfold kB toB
  cases p.1.d <;> rfl
theorem k_b : kB (a, w) = toB a.d w := rfl
theorem e_tand : tAnd' tf tg ρ w = (tf ρ w).bind (kAnd tg ρ) := rfl
theorem k_and {b : Bool} : kAnd tg ρ (b, w) = if b then tg ρ w else .ok (false, w) := rfl
theorem e_tor : tOr' tf tg ρ w = (tf ρ w).bind (kOr tg ρ) := rfl
theorem k_or {b : Bool} : kOr tg ρ (b, w) = if b then .ok (true, w) else tg ρ w := rfl
theorem e_tnot : tNot' tf ρ w = (tf ρ w).bind kNot := rfl
theorem k_not {b : Bool} : kNot (b, w) = .ok (!b, w) := rfl
theorem e_and : eAnd f g ρ w = (asB f ρ w).bind (kEAnd g ρ) := rfl
theorem k_eand {b : Bool} : kEAnd g ρ (b, w) = if b then g ρ w else .ok (.fz (.bool false), w) := rfl
theorem e_or : eOr f g ρ w = (asB f ρ w).bind (kEOr g ρ) := rfl
theorem k_eor {b : Bool} : kEOr g ρ (b, w) = if b then .ok (.fz (.bool true), w) else g ρ w := rfl
theorem e_not : eNot f ρ w = (asB f ρ w).bind kENot := rfl
theorem k_enot {b : Bool} : kENot (b, w) = .ok (.fz (.bool (!b)), w) := rfl
theorem e_if : eIf tf f g ρ w = (tf ρ w).bind (kIf f g ρ) := rfl
theorem k_if {b : Bool} : kIf f g ρ (b, w) = if b then f ρ w else g ρ w := rfl
theorem chn1 {q : D} {b : Bool} : chn G2 h ρ q (.bool b) w = if b then (h ρ w).bind (kOp2 G2 q) else .ok (.fz (.bool false), w) := by cases b <;> rfl
theorem e_chain : eChain F G2 f g h ρ w = (f ρ w).bind (kC1 F G2 g h ρ) := by
  unfold eChain
  refine congrArg _ (funext fun p => congrArg _ (funext fun q => congrArg _ (funext fun z => ?_)))
  unfold kC3 chn
  cases z.1.d <;> first | rfl | (rename_i b; cases b <;> rfl)
theorem k_c1 : kC1 F G2 g h ρ (a, w) = (g ρ w).bind (kC2 F G2 h ρ a.d) := rfl
theorem k_c2 : kC2 F G2 h ρ d (a, w) = (lift (F d a.d) w).bind (kC3 G2 h ρ a.d) := rfl
theorem k_c3 : kC3 G2 h ρ d (a, w) = chn G2 h ρ d a.d w := rfl
theorem e_nil : aNil ρ w = .ok ([], w) := rfl
theorem e_cons : aCons f af ρ w = (f ρ w).bind (kCons1 af ρ) := rfl
theorem k_cons1 : kCons1 af ρ (a, w) = (af ρ w).bind (kCons2 a) := rfl
theorem k_cons2 : kCons2 a (rs, w) = .ok (a :: rs, w) := rfl
theorem e_tup : eTup af ρ w = (af ρ w).bind kTup := rfl
theorem k_tup : kTup (rs, w) = if noBw rs && decide (rs.length ≤ sizeLine) then .ok (.fz (.tuple (rs.map RV.d)), w) else .err := rfl
theorem e_lst : eLst af ρ w = (af ρ w).bind kLst := rfl
theorem k_lst : kLst (rs, w) = if noBw rs && decide (rs.length ≤ sizeLine) then .ok (.ow (.list (rs.map RV.d)), w) else .err := rfl
theorem e_fn {n : Nat} : eFn n G af ρ w = (af ρ w).bind (kFn n G) := rfl
theorem k_fn {n : Nat} : kFn n G (rs, w) = if rs.length == n then outR rs (G [] (rs.map frz) []) w else .err := rfl
theorem e_fnS {n : Nat} : eFnS n G af ρ w = (af ρ w).bind (kFnS n G) := rfl
theorem k_fnS {n : Nat} : kFnS n G (rs, w) = if rs.length + 1 == n then outS rs (G [] (rs.map frz) w) else .err := rfl
theorem e_fnK {n m : Nat} {perm : List Nat} : eFnK n m perm G af ρ w = (af ρ w).bind (kFnK n m perm G) := rfl
theorem k_fnK {n m : Nat} {perm : List Nat} : kFnK n m perm G (rs, w) = if rs.length == m && (pick perm rs).length == n then outR (pick perm rs) (G [] ((pick perm rs).map frz) []) w else .err := rfl
theorem isiR1 {b : Bool} : isiR (some b) w = .ok (.fz (.bool b), w) := rfl
theorem e_isi {T : String} : eIsi T f ρ w = (f ρ w).bind (kIsi T) := by
  unfold eIsi
  refine congrArg _ (funext fun p => ?_)
  unfold kIsi isiR
  cases isT T p.1.d <;> rfl
theorem k_isi {T : String} : kIsi T (a, w) = isiR (isT T a.d) w := rfl
theorem outR1 {r : RV} : outR rs (.ok (r, w')) w = if noBw rs || indep r then .ok (r, w) else .err := rfl
theorem outS1 {r : RV} : outS rs (.ok (r, w')) = if noBw rs || indep r then .ok (r, w') else .err := rfl
theorem e_stG {k : Nat} : eStG k ρ w = match w[k]? with
  | some z => .ok (.fz (.int z), w)
  | none => .err := rfl
theorem e_sl {lo hi : Bx} : eSl f lo hi ρ w = (f ρ w).bind (kSl1 lo hi ρ) := rfl
theorem k_sl1 {lo hi : Bx} : kSl1 lo hi ρ (a, w) = (lo ρ w).bind (kSl2 hi ρ a.d) := rfl
theorem k_sl2 {hi : Bx} {l : Option Int} : kSl2 hi ρ d (l, w) = (hi ρ w).bind (kSl3 d l) := rfl
theorem k_sl3 {l m : Option Int} : kSl3 d l (m, w) = lift (fSl d l m) w := rfl
theorem b_no : bNo ρ w = .ok (none, w) := rfl
theorem toI1 {i : Int} : toI (.int i) w = .ok (some i, w) := rfl
theorem b_so : bSo f ρ w = (f ρ w).bind kI := by
  unfold bSo
  refine congrArg _ (funext fun p => ?_)
  unfold kI toI
  cases p.1.d <;> rfl
theorem k_i : kI (a, w) = toI a.d w := rfl
/-! statements -/
theorem e_no : sNo ρ w = .nx ρ w := rfl
theorem e_brk : sBrk ρ w = .bk ρ w := rfl
theorem e_cnt : sCnt ρ w = .ct ρ w := rfl
theorem e_sx : sExpr f ρ w = ofR (f ρ w) (oSx ρ) := rfl
theorem o_sx : oSx ρ (a, w) = .nx ρ w := rfl
theorem e_ret : sRet f ρ w = ofR (f ρ w) oRet := rfl
theorem o_ret : oRet (a, w) = .rt a w := rfl
theorem e_retN : sRetN ρ w = .rt (.fz .none) w := rfl
theorem e_sif : sIf tf sg sh ρ w = ofR (tf ρ w) (oIf sg sh ρ) := rfl
theorem o_if {b : Bool} : oIf sg sh ρ (b, w) = if b then sg ρ w else sh ρ w := rfl
theorem put_fz {i : Nat} {d : D} : put i ρ (.fz d) = some (ρ.set i (some (.fz d))) := rfl
theorem put_ow {i : Nat} {d : D} : put i ρ (.ow d) = some (ρ.set i (some (.ow d))) := rfl
theorem nxO1 : nxO (some ρ) w = .nx ρ w := rfl
theorem e_set {i : Nat} : sSet i f ρ w = ofR (f ρ w) (oSet i ρ) := by
  unfold sSet
  refine congrArg _ (funext fun p => ?_)
  unfold oSet nxO
  cases put i ρ p.1 <;> rfl
theorem o_set {i : Nat} : oSet i ρ (a, w) = nxO (put i ρ a) w := rfl
theorem asg_fz {b : Gx} {d : D} : asgO b ρ (.fz d) w = nxO (b d ρ) w := rfl
theorem asg_ow {b : Gx} {d : D} : asgO b ρ (.ow d) w = nxO (b d ρ) w := rfl
theorem e_asg {b : Gx} : sAsg f b ρ w = ofR (f ρ w) (oAsg b ρ) := by
  unfold sAsg
  refine congrArg _ (funext fun p => ?_)
  unfold oAsg asgO nxO
  cases p.1 <;> first | rfl | (simp only [RV.d]; rename_i d; cases b d ρ <;> rfl)
theorem o_asg {b : Gx} : oAsg b ρ (a, w) = asgO b ρ a w := rfl
theorem g_nm {i : Nat} {d : D} : gNm i d ρ = some (ρ.set i (some (.fz d))) := rfl
theorem g_nl : gNl [] ρ = some ρ := rfl
theorem g_cn {b : Gx} {c : Gxs} {d : D} {ds : List D} : gCn b c (d :: ds) ρ = (b d ρ).bind (c ds) := rfl
theorem obind1 {α β : Type} {a : α} {k : α → Option β} : (some a).bind k = k a := rfl
theorem g_tuT {n : Nat} {c : Gxs} {ds : List D} : gTu n c (.tuple ds) ρ = if ds.length == n then c ds ρ else none := rfl
theorem g_tuL {n : Nat} {c : Gxs} {ds : List D} : gTu n c (.list ds) ρ = if ds.length == n then c ds ρ else none := rfl
theorem e_par2 {i j : Nat} : sPar2 i j af ρ w = ofR (af ρ w) (oPar2 i j ρ) := by
  unfold sPar2
  refine congrArg _ (funext fun p => ?_)
  rfl
theorem o_par2 {i j : Nat} {q : RV} : oPar2 i j ρ ([r, q], w) = if noBw [r, q] then .nx ((ρ.set i (some (.fz r.d))).set j (some (.fz q.d))) w else .err := rfl
theorem e_par3 {i j l : Nat} : sPar3 i j l af ρ w = ofR (af ρ w) (oPar3 i j l ρ) := by
  unfold sPar3
  refine congrArg _ (funext fun p => ?_)
  rfl
theorem o_par3 {i j l : Nat} {q z : RV} : oPar3 i j l ρ ([r, q, z], w) = if noBw [r, q, z] then .nx (((ρ.set i (some (.fz r.d))).set j (some (.fz q.d))).set l (some (.fz z.d))) w else .err := rfl
theorem stO1 {k : Nat} {z : Int} : stO k ρ (.int z) w = if k < w.length then .nx ρ (w.set k z) else .err := rfl
theorem e_stS {k : Nat} : sStS k f ρ w = ofR (f ρ w) (oStS k ρ) := by
  unfold sStS
  refine congrArg _ (funext fun p => ?_)
  unfold oStS stO
  cases p.1.d <;> rfl
theorem o_stS {k : Nat} : oStS k ρ (a, w) = stO k ρ a.d w := rfl
theorem e_stT {k i2 : Nat} : sStT k i2 f ρ w = ofR (f ρ w) (oStT k i2 ρ) := by
  unfold sStT
  refine congrArg _ (funext fun p => ?_)
  rfl
theorem o_stT {k i2 : Nat} {z : Int} : oStT k i2 ρ (.fz (.tuple [.int z, d]), w) = if k < w.length then .nx (ρ.set i2 (some (.fz d))) (w.set k z) else .err := rfl
/-! loops -/
def loopO (b : Gx) (g : Sx) (ds : List D) (o : Out) : Out := match o with
  | .nx ρ w => loopL b g ds ρ w
  | .ct ρ w => loopL b g ds ρ w
  | .bk ρ w => .nx ρ w
  | o => o
theorem loop_nil {b : Gx} {g : Sx} : loopL b g [] ρ w = .nx ρ w := rfl
theorem loop_cons {b : Gx} {g : Sx} {d : D} {ds : List D} (h : b d ρ = some ρ') : loopL b g (d :: ds) ρ w = loopO b g ds (g ρ' w) := by
  show (match b d ρ with | none => Out.err | some ρ1 => match g ρ1 w with
      | .nx ρ' w' => loopL b g ds ρ' w'
      | .ct ρ' w' => loopL b g ds ρ' w'
      | .bk ρ' w' => .nx ρ' w'
      | o => o) = _
  rw [h]
  show (match g ρ' w with
      | .nx ρ' w' => loopL b g ds ρ' w'
      | .ct ρ' w' => loopL b g ds ρ' w'
      | .bk ρ' w' => .nx ρ' w'
      | o => o) = _
  unfold loopO
  cases g ρ' w <;> rfl
theorem e_for {f : Ix} {b : Gx} {g : Sx} : sFor f b g ρ w = ofR (f ρ w) (oFor b g ρ) := rfl
theorem o_for {b : Gx} {g : Sx} {ds : List D} : oFor b g ρ (ds, w) = loopL b g ds ρ w := rfl
theorem seqI_fl {ds : List D} : seqI (.fz (.list ds)) w = .ok (ds, w) := rfl
theorem seqI_ft {ds : List D} : seqI (.fz (.tuple ds)) w = .ok (ds, w) := rfl
theorem seqI_ol {ds : List D} : seqI (.ow (.list ds)) w = .ok (ds, w) := rfl
theorem seqI_ot {ds : List D} : seqI (.ow (.tuple ds)) w = .ok (ds, w) := rfl
theorem e_iseq : iSeq f ρ w = (f ρ w).bind kSeq := by
  unfold iSeq
  refine congrArg _ (funext fun p => ?_)
  unfold kSeq seqI
  cases p.1 <;> rename_i d <;> cases d <;> rfl
theorem k_seq : kSeq (a, w) = seqI a w := rfl
theorem rg1_1 {j : Int} : rg1 [.int j] w = if rngOk j then .ok (rngD 0 j.toNat, w) else .err := rfl
theorem e_rg1 : iRg1 af ρ w = (af ρ w).bind kRg1 := by
  unfold iRg1
  refine congrArg _ (funext fun p => ?_)
  rfl
theorem k_rg1 : kRg1 (rs, w) = rg1 (rs.map RV.d) w := rfl
theorem rg2_1 {i j : Int} : rg2 [.int i, .int j] w = if rngOk i && rngOk j then .ok (rngD i (j - i).toNat, w) else .err := rfl
theorem e_rg2 : iRg2 af ρ w = (af ρ w).bind kRg2 := by
  unfold iRg2
  refine congrArg _ (funext fun p => ?_)
  rfl
theorem k_rg2 : kRg2 (rs, w) = rg2 (rs.map RV.d) w := rfl
theorem noX1 {α : Type} {a : α} : noX (Res.ok a) = .ok a := rfl
theorem e_lc {vs : List Nat} {f : Ix} {b : Gx} {t : Tx} {e : Ex} : eLc vs f b t e ρ w = (f ρ w).bind (kLc vs b t e ρ) := rfl
theorem k_lc {vs : List Nat} {b : Gx} {t : Tx} {e : Ex} {ds : List D} : kLc vs b t e ρ (ds, w) = (noX (lcL b t e ds (wipeE ρ vs) w)).bind mkL := rfl
theorem lc_nil {b : Gx} {t : Tx} {e : Ex} : lcL b t e [] ρ w = .ok ([], w) := rfl
theorem lc_cons {b : Gx} {t : Tx} {e : Ex} {d : D} {ds : List D} (h : b d ρ = some ρ') : lcL b t e (d :: ds) ρ w = (t ρ' w).bind (kLt e (lcL b t e ds ρ) ρ') := by
  show (match b d ρ with | none => Res.err | some ρ1 => _) = _
  rw [h]
  show ((t ρ' w).bind fun p => if p.1 then (e ρ' p.2).bind fun q => match q.1 with
        | .bw _ => .err
        | r => (lcL b t e ds ρ q.2).bind fun z => .ok (r.d :: z.1, z.2)
      else lcL b t e ds ρ p.2) = _
  refine congrArg _ (funext fun p => ?_)
  unfold kLt
  split
  · rename_i hp
    refine congrArg _ (funext fun q => ?_)
    unfold kLe
    cases q.1 <;> rfl
  · rfl
theorem k_lt {e : Ex} {k : List Int → Res (List D × List Int)} {b : Bool} : kLt e k ρ (b, w) = if b then (e ρ w).bind (kLe k) else k w := rfl
theorem k_le {k : List Int → Res (List D × List Int)} : kLe k (a, w) = lcN (valD a) k w := rfl
def lcS (t : Tx) (e : Ex) (k : List Int → Res (List D × List Int)) (o : Option DEnv) (w : List Int) : Res (List D × List Int) := match o with
  | none => .err
  | some ρ1 => (t ρ1 w).bind (kLt e k ρ1)
theorem lcS1 {t : Tx} {e : Ex} {k : List Int → Res (List D × List Int)} : lcS t e k (some ρ) w = (t ρ w).bind (kLt e k ρ) := rfl
theorem lc_step {b : Gx} {t : Tx} {e : Ex} {d : D} {ds : List D} : lcL b t e (d :: ds) ρ w = lcS t e (lcL b t e ds ρ) (b d ρ) w := by
  cases h : b d ρ with
  | none =>
    show (match b d ρ with | none => Res.err | some ρ1 => _) = _
    rw [h]; rfl
  | some ρ1 => rw [lc_cons h, lcS1]
theorem lcN1 {d : D} {k : List Int → Res (List D × List Int)} : lcN (some d) k w = (k w).bind (kLc2 d) := rfl
theorem k_lc2 {ds : List D} : kLc2 d (ds, w) = .ok (d :: ds, w) := rfl
theorem val_fz {d : D} : valD (.fz d) = some d := rfl
theorem val_ow {d : D} : valD (.ow d) = some d := rfl
theorem t_true : tTrue ρ w = .ok (true, w) := rfl
theorem wipe0 : wipeE ρ [] = ρ := rfl
theorem wipe1 {v : Nat} {vs : List Nat} : wipeE ρ (v :: vs) = (wipeE ρ vs).set v none := rfl
theorem mkL1 {ds : List D} : mkL (ds, w) = if ds.length ≤ 16777216 then .ok (.ow (.list ds), w) else .err := by
  unfold mkL bz
  have e : sizeLine = 16777216 := by decide
  rw [e]
  simp only [decide_eq_true_eq]
theorem size_eq : sizeLine = 16777216 := by decide
def loopS (b : Gx) (g : Sx) (ds : List D) (o : Option DEnv) (w : List Int) : Out := match o with
  | none => .err
  | some ρ1 => loopO b g ds (g ρ1 w)
theorem loopSC {b : Gx} {g : Sx} {ds : List D} {o o' : Option DEnv} {w : List Int} (h : o = o') : loopS b g ds o w = loopS b g ds o' w := by rw [h]
theorem loopOC {b : Gx} {g : Sx} {ds : List D} {o o' : Out} (h : o = o') : loopO b g ds o = loopO b g ds o' := by rw [h]
theorem loopS1 {b : Gx} {g : Sx} {ds : List D} : loopS b g ds (some ρ) w = loopO b g ds (g ρ w) := rfl
theorem loop_step {b : Gx} {g : Sx} {d : D} {ds : List D} : loopL b g (d :: ds) ρ w = loopS b g ds (b d ρ) w := by
  cases h : b d ρ with
  | none =>
    show (match b d ρ with | none => Out.err | some ρ1 => _) = _
    rw [h]; rfl
  | some ρ1 => rw [loop_cons h, loopS1]
theorem loop_nx {b : Gx} {g : Sx} {ds : List D} : loopO b g ds (.nx ρ w) = loopL b g ds ρ w := rfl
theorem loop_ct {b : Gx} {g : Sx} {ds : List D} : loopO b g ds (.ct ρ w) = loopL b g ds ρ w := rfl
theorem loop_bk {b : Gx} {g : Sx} {ds : List D} : loopO b g ds (.bk ρ w) = .nx ρ w := rfl
theorem loop_rt {b : Gx} {g : Sx} {ds : List D} {r : RV} : loopO b g ds (.rt r w) = .rt r w := rfl
theorem loop_exc {b : Gx} {g : Sx} {ds : List D} {c : Nat} {d : D} : loopO b g ds (.exc c d) = .exc c d := rfl
/-- items one by one, the state untouched -/
theorem lc_map {b : Gx} {t : Tx} {e : Ex} (Fm : D → D) : ∀ {ds : List D}, (∀ d ∈ ds, ∃ ρ' r, b d ρ = some ρ' ∧ t ρ' w = .ok (true, w) ∧ e ρ' w = .ok (r, w) ∧ valD r = some (Fm d)) → lcL b t e ds ρ w = .ok (ds.map Fm, w)
  | [], _ => rfl
  | d :: ds, h => by
    obtain ⟨ρ', r, h1, h2, h3, h4⟩ := h d List.mem_cons_self
    rw [lc_cons h1, h2, bind1]
    rw [k_lt, if_pos rfl, h3, bind1, k_le, h4, lcN1, lc_map Fm fun d m => h d (List.mem_cons_of_mem _ m), bind1]
    rfl
theorem lc_filter {b : Gx} {t : Tx} {e : Ex} (q : D → Bool) (Fm : D → D) : ∀ {ds : List D}, (∀ d ∈ ds, ∃ ρ', b d ρ = some ρ' ∧ t ρ' w = .ok (q d, w) ∧ (q d = true → ∃ r, e ρ' w = .ok (r, w) ∧ valD r = some (Fm d))) → lcL b t e ds ρ w = .ok ((ds.filter q).map Fm, w)
  | [], _ => rfl
  | d :: ds, h => by
    obtain ⟨ρ', h1, h2, h3⟩ := h d List.mem_cons_self
    have ih := lc_filter q Fm fun d m => h d (List.mem_cons_of_mem _ m)
    rw [lc_cons h1, h2, bind1]
    cases hq : q d with
    | true =>
      obtain ⟨r, h4, h5⟩ := h3 hq
      rw [k_lt, if_pos rfl, h4, bind1, k_le, h5, lcN1, ih, bind1, List.filter_cons_of_pos hq]
      rfl
    | false =>
      rw [k_lt, if_neg (by simp), ih, List.filter_cons_of_neg (by rw [hq]; simp)]
theorem lc_mapE {α : Type} {b : Gx} {t : Tx} {e : Ex} (enc : α → D) (Fm : α → D) : ∀ {l : List α}, (∀ x ∈ l, ∃ ρ' r, b (enc x) ρ = some ρ' ∧ t ρ' w = .ok (true, w) ∧ e ρ' w = .ok (r, w) ∧ valD r = some (Fm x)) → lcL b t e (l.map enc) ρ w = .ok (l.map Fm, w)
  | [], _ => rfl
  | d :: ds, h => by
    obtain ⟨ρ', r, h1, h2, h3, h4⟩ := h d List.mem_cons_self
    rw [List.map_cons, lc_cons h1, h2, bind1]
    rw [k_lt, if_pos rfl, h3, bind1, k_le, h4, lcN1, lc_mapE enc Fm fun d m => h d (List.mem_cons_of_mem _ m), bind1]
    rfl
theorem lc_filterE {α : Type} {b : Gx} {t : Tx} {e : Ex} (enc : α → D) (q : α → Bool) (Fm : α → D) : ∀ {l : List α}, (∀ x ∈ l, ∃ ρ', b (enc x) ρ = some ρ' ∧ t ρ' w = .ok (q x, w) ∧ (q x = true → ∃ r, e ρ' w = .ok (r, w) ∧ valD r = some (Fm x))) → lcL b t e (l.map enc) ρ w = .ok ((l.filter q).map Fm, w)
  | [], _ => rfl
  | d :: ds, h => by
    obtain ⟨ρ', h1, h2, h3⟩ := h d List.mem_cons_self
    have ih := lc_filterE enc q Fm fun d m => h d (List.mem_cons_of_mem _ m)
    rw [List.map_cons, lc_cons h1, h2, bind1]
    cases hq : q d with
    | true =>
      obtain ⟨r, h4, h5⟩ := h3 hq
      rw [k_lt, if_pos rfl, h4, bind1, k_le, h5, lcN1, ih, bind1, List.filter_cons_of_pos hq]
      rfl
    | false =>
      rw [k_lt, if_neg (by simp), ih, List.filter_cons_of_neg (by rw [hq]; simp)]
/-- items that draw on: the state changes -/
theorem lc_draw {b : Gx} {e : Ex} {P : List Int → Prop} {R : D → Prop} : ∀ {ds : List D} {w : List Int}, (∀ d ∈ ds, ∀ w, P w → ∃ ρ' r w' z, b d ρ = some ρ' ∧ e ρ' w = .ok (r, w') ∧ valD r = some z ∧ R z ∧ P w') → P w → ∃ zs w', lcL b tTrue e ds ρ w = .ok (zs, w') ∧ zs.length = ds.length ∧ (∀ z ∈ zs, R z) ∧ P w'
  | [], w, _, p => ⟨[], w, rfl, rfl, by simp, p⟩
  | d :: ds, w, h, p => by
    obtain ⟨ρ', r, w1, z, h1, h2, h3, h4, p1⟩ := h d List.mem_cons_self w p
    obtain ⟨zs, w2, h5, h6, h7, p2⟩ := lc_draw (fun d m => h d (List.mem_cons_of_mem _ m)) p1
    refine ⟨z :: zs, w2, ?_, by rw [List.length_cons, List.length_cons, h6], fun y hy => ?_, p2⟩
    · rw [lc_cons h1]
      show (Res.ok (true, w)).bind _ = _
      rw [bind1]
      rw [k_lt, if_pos rfl, h2, bind1, k_le, h3, lcN1, h5, bind1]
      rfl
    · rcases List.mem_cons.mp hy with rfl | hy
      · exact h4
      · exact h7 y hy
/-- a loop through which something stays true -/
theorem loop_all {b : Gx} {g : Sx} {P : DEnv → List Int → Prop} : ∀ {ds : List D} {ρ : DEnv} {w : List Int}, (∀ d ∈ ds, ∀ ρ w, P ρ w → ∃ ρ1 ρ' w', b d ρ = some ρ1 ∧ g ρ1 w = .nx ρ' w' ∧ P ρ' w') → P ρ w → ∃ ρ' w', loopL b g ds ρ w = .nx ρ' w' ∧ P ρ' w'
  | [], ρ, w, _, p => ⟨ρ, w, rfl, p⟩
  | d :: ds, ρ, w, h, p => by
    obtain ⟨ρ1, ρ2, w2, h1, h2, p2⟩ := h d List.mem_cons_self ρ w p
    obtain ⟨ρ3, w3, h3, p3⟩ := loop_all (fun d m => h d (List.mem_cons_of_mem _ m)) p2
    exact ⟨ρ3, w3, by rw [loop_cons h1, h2]; exact h3, p3⟩
theorem e_fnF : eFnF G af ρ w = (af ρ w).bind (kFnF G) := by
  unfold eFnF
  refine congrArg _ (funext fun p => ?_)
  rfl
theorem k_fnF {ds : List D} : kFnF G ([.ow (.list ds)], w) = match intsD ds with
    | some w0 => outR [] (G [] [] w0) w
    | none => .err := rfl
theorem d_fz {d : D} : (RV.fz d).d = d := rfl
theorem d_ow {d : D} : (RV.ow d).d = d := rfl
theorem d_bw {d : D} : (RV.bw d).d = d := rfl
theorem frz_fz {d : D} : frz (.fz d) = .fz d := rfl
theorem frz_ow {d : D} : frz (.ow d) = .fz d := rfl
theorem frz_bw {d : D} : frz (.bw d) = .fz d := rfl
theorem nb_nil : noBw [] = true := rfl
theorem nb_fz {d : D} {l : List RV} : noBw (.fz d :: l) = noBw l := rfl
theorem nb_ow {d : D} {l : List RV} : noBw (.ow d :: l) = noBw l := rfl
theorem nb_bw {d : D} {l : List RV} : noBw (.bw d :: l) = false := rfl
end
end DL
namespace DL
open PySem PySem.Spec PyProof.Rows L2
/-! ### operations at numbers, texts, tuples -/
section
variable {a b c : Int} {x y : Str} {p q : Bool} {ds es : List D} {d e : D}
theorem v_add : fAdd (.int a) (.int b) = some (.fz (.int (a + b))) := rfl
theorem v_sub : fSub (.int a) (.int b) = some (.fz (.int (a - b))) := rfl
theorem v_mul (h : smallB b = true ∨ smallB a = true) : fMul (.int a) (.int b) = some (.fz (.int (a * b))) := by
  exact if_pos (show (smallB a || smallB b) = true by rcases h with h | h <;> simp [h])
theorem small_of {i : Int} (h1 : -18446744073709551616 < i) (h2 : i < 18446744073709551616) : smallB i = true := by
  unfold smallB
  exact decide_eq_true (by omega)
theorem v_mod (h : b ≠ 0) : fMod (.int a) (.int b) = some (.fz (.int (Int.fmod a b))) := by
  exact if_pos (show decide (b ≠ 0) = true from decide_eq_true h)
theorem v_div (h : b ≠ 0) (h2 : b.natAbs < 1073741824) : fDiv (.int a) (.int b) = some (.fz (.int (Int.fdiv a b))) := by
  exact if_pos (show (decide (b ≠ 0) && decide (b.natAbs < 1073741824)) = true by simp [h, h2])
theorem v_divmod (h : 0 < b) (h2 : b < 1073741824) : fDivmod [.int a, .int b] = some (.fz (.tuple [.int (a / b), .int (a % b)])) := by
  exact if_pos (show (decide (0 < b) && decide (b.natAbs < 1073741824)) = true by
    rw [Bool.and_eq_true, decide_eq_true_eq, decide_eq_true_eq]
    omega)
theorem v_neg : fNeg (.int a) = some (.fz (.int (-a))) := rfl
theorem v_addT (h : ds.length + es.length ≤ sizeLine) : fAdd (.tuple ds) (.tuple es) = some (.fz (.tuple (ds ++ es))) := by
  exact if_pos (decide_eq_true h)
theorem v_addL (h : ds.length + es.length ≤ sizeLine) : fAdd (.list ds) (.list es) = some (.ow (.list (ds ++ es))) := by
  exact if_pos (decide_eq_true h)
theorem v_addS (h : x.length + y.length ≤ sizeLine) : fAdd (.str x) (.str y) = some (.fz (.str (x ++ y))) := by
  exact if_pos (decide_eq_true h)
theorem ord_int : ordD (.int a) (.int b) = true := by
  unfold ordD
  simp [flatD, PySem.W.alike, PyData.depth]
theorem v_lt : fLt (.int a) (.int b) = some (.fz (.bool (decide (a < b)))) := by
  unfold fLt fOrd
  rw [if_pos ord_int, PySem.W.dataLt_int]
theorem v_gt : fGt (.int a) (.int b) = some (.fz (.bool (decide (b < a)))) := by
  unfold fGt fOrd
  rw [if_pos ord_int]
  show some (RV.fz (PyData.bool (PySem.W.dataLt (.int b) (.int a)))) = _
  rw [PySem.W.dataLt_int]
theorem v_le : fLe (.int a) (.int b) = some (.fz (.bool (decide (a ≤ b)))) := by
  unfold fLe fOrd
  rw [if_pos ord_int]
  show some (RV.fz (PyData.bool (!PySem.W.dataLt _ _))) = _
  rw [PySem.W.dataLt_int]
  congr 3
  rw [Bool.eq_iff_iff]
  simp
theorem v_ge : fGe (.int a) (.int b) = some (.fz (.bool (decide (b ≤ a)))) := by
  unfold fGe fOrd
  rw [if_pos ord_int]
  show some (RV.fz (PyData.bool (!PySem.W.dataLt _ _))) = _
  rw [PySem.W.dataLt_int]
  congr 3
  rw [Bool.eq_iff_iff]
  simp
theorem v_is : fIs d .none = some (.fz (.bool (isN d))) := rfl
theorem v_isNot : fIsNot d .none = some (.fz (.bool (!isN d))) := rfl
theorem v_eqS : fEq (.str x) (.str y) = some (.fz (.bool (decide (x = y)))) := rfl
theorem v_neS : fNe (.str x) (.str y) = some (.fz (.bool (!decide (x = y)))) := rfl
theorem cmp_int : cmpD (.int a) = true := by
  unfold cmpD SeqAt.shaped
  simp [flatD, PyData.canLay0, PyData.depth]
theorem cmp_bool : cmpD (.bool p) = true := by
  unfold cmpD SeqAt.shaped
  simp [flatD, PyData.canLay0, PyData.depth]
theorem v_eqD (h : cmpD d = true) (h2 : cmpD e = true) (h3 : strEq d e = none) : fEq d e = some (.fz (.bool (PyData.eqv d e))) := by
  unfold fEq
  rw [h3]
  simp [h, h2]
theorem v_neD (h : cmpD d = true) (h2 : cmpD e = true) (h3 : strEq d e = none) : fNe d e = some (.fz (.bool (!PyData.eqv d e))) := by
  unfold fNe
  rw [h3]
  simp [h, h2]
theorem v_eq : fEq (.int a) (.int b) = some (.fz (.bool (decide (a = b)))) := by
  rw [v_eqD cmp_int cmp_int rfl]
  rfl
theorem v_ne : fNe (.int a) (.int b) = some (.fz (.bool (!decide (a = b)))) := by
  rw [v_neD cmp_int cmp_int rfl]
  rfl
theorem v_eqB : fEq (.bool p) (.bool q) = some (.fz (.bool (p == q))) := by
  rw [v_eqD cmp_bool cmp_bool rfl]
  rfl
theorem v_neB : fNe (.bool p) (.bool q) = some (.fz (.bool (!(p == q)))) := by
  rw [v_neD cmp_bool cmp_bool rfl]
  rfl
/-! the same data: == -/
theorem v_eqR (h : cmpD d = true) : fEq d d = some (.fz (.bool true)) := by
  have r : PyData.eqv d d = true := by
    refine SeqAt.eqv_refl d ?_
    have := (Bool.and_eq_true_iff.mp h).2
    exact (Bool.and_eq_true_iff.mp this).1
  cases d with
  | str x => rw [v_eqS]; simp
  | _ => rw [v_eqD h h rfl, r]
theorem v_neR (h : cmpD d = true) : fNe d d = some (.fz (.bool false)) := by
  have r : PyData.eqv d d = true := by
    refine SeqAt.eqv_refl d ?_
    have := (Bool.and_eq_true_iff.mp h).2
    exact (Bool.and_eq_true_iff.mp this).1
  cases d with
  | str x => rw [v_neS]; simp
  | _ => rw [v_neD h h rfl, r]; rfl
/-! places -/
theorem v_ixT {i : Int} : fIx (.tuple ds) (.int i) = (atI ds i).map .fz := rfl
theorem v_ixL {i : Int} : fIx (.list ds) (.int i) = (atI ds i).map .fz := rfl
theorem at_of {i : Int} (h : 0 ≤ i) : atI ds i = ds[i.toNat]? := by
  unfold atI ixN
  rw [if_pos h]
  by_cases z : i < ds.length
  · rw [if_pos z]; rfl
  · rw [if_neg z]
    show none = _
    rw [List.getElem?_eq_none]
    omega
theorem at0 : atI (d :: ds) 0 = some d := at_of (by decide)
theorem at1 {x0 : D} : atI (x0 :: d :: ds) 1 = some d := at_of (by decide)
theorem at2 {x0 x1 : D} : atI (x0 :: x1 :: d :: ds) 2 = some d := at_of (by decide)
theorem at3 {x0 x1 x2 : D} : atI (x0 :: x1 :: x2 :: d :: ds) 3 = some d := at_of (by decide)
theorem at4 {x0 x1 x2 x3 : D} : atI (x0 :: x1 :: x2 :: x3 :: d :: ds) 4 = some d := at_of (by decide)
theorem at5 {x0 x1 x2 x3 x4 : D} : atI (x0 :: x1 :: x2 :: x3 :: x4 :: d :: ds) 5 = some d := at_of (by decide)
theorem map1 {α β : Type} {k : α → β} {z : α} : (some z).map k = some (k z) := rfl
/-! built-ins -/
theorem v_lenL : fLen [.list ds] = some (.fz (.int ds.length)) := rfl
theorem v_lenT : fLen [.tuple ds] = some (.fz (.int ds.length)) := rfl
theorem v_abs : fAbs [.int a] = some (.fz (.int (if a < 0 then -a else a))) := rfl
theorem v_int : fInt [.int a] = some (.fz (.int a)) := rfl
theorem v_intB : fInt [.bool p] = some (.fz (.int (if p then 1 else 0))) := rfl
theorem v_max2 : fMax [.int a, .int b] = some (.fz (.int (if b > a then b else a))) := rfl
theorem v_min2 : fMin [.int a, .int b] = some (.fz (.int (if b < a then b else a))) := rfl
theorem v_max3 : fMax [.int a, .int b, .int c] = some (.fz (.int (if (if b > a then b else a) < c then c else if b > a then b else a))) := rfl
theorem v_min3 : fMin [.int a, .int b, .int c] = some (.fz (.int (if c < (if b < a then b else a) then c else if b < a then b else a))) := rfl
theorem v_tupL : fTuple [.list ds] = some (.fz (.tuple ds)) := rfl
theorem v_tupT : fTuple [.tuple ds] = some (.fz (.tuple ds)) := rfl
theorem v_lstL : fList [.list ds] = some (.ow (.list ds)) := rfl
theorem v_lstT : fList [.tuple ds] = some (.ow (.list ds)) := rfl
theorem bools_map : ∀ {l : List Bool}, boolsD (l.map PyData.bool) = some l
  | [] => rfl
  | b :: l => by
    show (boolsD (l.map PyData.bool)).map (b :: ·) = _
    rw [bools_map]; rfl
theorem ints_map : ∀ {l : List Int}, intsD (l.map PyData.int) = some l
  | [] => rfl
  | b :: l => by
    show (intsD (l.map PyData.int)).map (b :: ·) = _
    rw [ints_map]; rfl
theorem v_all {l : List Bool} : fAll [.list (l.map PyData.bool)] = some (.fz (.bool (l.all id))) := by
  show Option.map _ (boolsD (l.map PyData.bool)) = _
  rw [bools_map]; rfl
theorem v_any {l : List Bool} : fAny [.list (l.map PyData.bool)] = some (.fz (.bool (l.any id))) := by
  show Option.map _ (boolsD (l.map PyData.bool)) = _
  rw [bools_map]; rfl
theorem v_allD : fAll [.list ds] = (boolsD ds).map fun bs => .fz (.bool (bs.all id)) := rfl
theorem v_anyD : fAny [.list ds] = (boolsD ds).map fun bs => .fz (.bool (bs.any id)) := rfl
theorem v_sumDL : fSum [.list ds] = (intsD ds).map fun bs => .fz (.int bs.sum) := rfl
theorem v_sumDT : fSum [.tuple ds] = (intsD ds).map fun bs => .fz (.int bs.sum) := rfl
theorem bools0 : boolsD [] = some [] := rfl
theorem bools1 : boolsD (.bool p :: ds) = (boolsD ds).map (p :: ·) := rfl
theorem ints0 : intsD [] = some [] := rfl
theorem ints1 : intsD (.int a :: ds) = (intsD ds).map (a :: ·) := rfl
theorem v_sumL {l : List Int} : fSum [.list (l.map PyData.int)] = some (.fz (.int l.sum)) := by
  show Option.map _ (intsD (l.map PyData.int)) = _
  rw [ints_map]; rfl
theorem v_sumT {l : List Int} : fSum [.tuple (l.map PyData.int)] = some (.fz (.int l.sum)) := by
  show Option.map _ (intsD (l.map PyData.int)) = _
  rw [ints_map]; rfl
end
/-! kinds -/
section
variable {a : Int} {x : Str} {p : Bool} {ds : List D}
theorem k_int_none : isT "int" .none = some false := (show kitB "NoneType" "int" = some false by decide +kernel)
theorem k_int_bool : isT "int" (.bool p) = some true := (show kitB "bool" "int" = some true by decide +kernel)
theorem k_int_int : isT "int" (.int a) = some true := (show kitB "int" "int" = some true by decide +kernel)
theorem k_int_str : isT "int" (.str x) = some false := (show kitB "str" "int" = some false by decide +kernel)
theorem k_int_list : isT "int" (.list ds) = some false := (show kitB "list" "int" = some false by decide +kernel)
theorem k_int_tuple : isT "int" (.tuple ds) = some false := (show kitB "tuple" "int" = some false by decide +kernel)
theorem k_bool_none : isT "bool" .none = some false := (show kitB "NoneType" "bool" = some false by decide +kernel)
theorem k_bool_bool : isT "bool" (.bool p) = some true := (show kitB "bool" "bool" = some true by decide +kernel)
theorem k_bool_int : isT "bool" (.int a) = some false := (show kitB "int" "bool" = some false by decide +kernel)
theorem k_bool_str : isT "bool" (.str x) = some false := (show kitB "str" "bool" = some false by decide +kernel)
theorem k_bool_list : isT "bool" (.list ds) = some false := (show kitB "list" "bool" = some false by decide +kernel)
theorem k_bool_tuple : isT "bool" (.tuple ds) = some false := (show kitB "tuple" "bool" = some false by decide +kernel)
theorem k_str_none : isT "str" .none = some false := (show kitB "NoneType" "str" = some false by decide +kernel)
theorem k_str_bool : isT "str" (.bool p) = some false := (show kitB "bool" "str" = some false by decide +kernel)
theorem k_str_int : isT "str" (.int a) = some false := (show kitB "int" "str" = some false by decide +kernel)
theorem k_str_str : isT "str" (.str x) = some true := (show kitB "str" "str" = some true by decide +kernel)
theorem k_str_list : isT "str" (.list ds) = some false := (show kitB "list" "str" = some false by decide +kernel)
theorem k_str_tuple : isT "str" (.tuple ds) = some false := (show kitB "tuple" "str" = some false by decide +kernel)
theorem k_list_none : isT "list" .none = some false := (show kitB "NoneType" "list" = some false by decide +kernel)
theorem k_list_bool : isT "list" (.bool p) = some false := (show kitB "bool" "list" = some false by decide +kernel)
theorem k_list_int : isT "list" (.int a) = some false := (show kitB "int" "list" = some false by decide +kernel)
theorem k_list_str : isT "list" (.str x) = some false := (show kitB "str" "list" = some false by decide +kernel)
theorem k_list_list : isT "list" (.list ds) = some true := (show kitB "list" "list" = some true by decide +kernel)
theorem k_list_tuple : isT "list" (.tuple ds) = some false := (show kitB "tuple" "list" = some false by decide +kernel)
theorem k_tuple_none : isT "tuple" .none = some false := (show kitB "NoneType" "tuple" = some false by decide +kernel)
theorem k_tuple_bool : isT "tuple" (.bool p) = some false := (show kitB "bool" "tuple" = some false by decide +kernel)
theorem k_tuple_int : isT "tuple" (.int a) = some false := (show kitB "int" "tuple" = some false by decide +kernel)
theorem k_tuple_str : isT "tuple" (.str x) = some false := (show kitB "str" "tuple" = some false by decide +kernel)
theorem k_tuple_list : isT "tuple" (.list ds) = some false := (show kitB "list" "tuple" = some false by decide +kernel)
theorem k_tuple_tuple : isT "tuple" (.tuple ds) = some true := (show kitB "tuple" "tuple" = some true by decide +kernel)
theorem k_dict_none : isT "dict" .none = some false := (show kitB "NoneType" "dict" = some false by decide +kernel)
theorem k_dict_bool : isT "dict" (.bool p) = some false := (show kitB "bool" "dict" = some false by decide +kernel)
theorem k_dict_int : isT "dict" (.int a) = some false := (show kitB "int" "dict" = some false by decide +kernel)
theorem k_dict_str : isT "dict" (.str x) = some false := (show kitB "str" "dict" = some false by decide +kernel)
theorem k_dict_list : isT "dict" (.list ds) = some false := (show kitB "list" "dict" = some false by decide +kernel)
theorem k_dict_tuple : isT "dict" (.tuple ds) = some false := (show kitB "tuple" "dict" = some false by decide +kernel)
end
/-! ### tidy data: numbers below 10^12, plain texts -/
mutual
def tdy : D → Bool
  | .none => true
  | .bool _ => true
  | .int i => decide (i.natAbs < 1000000000000)
  | .str x => x.cps.toList.all (fun c => decide (c < 1114112))
  | .list ds => tdys ds
  | .tuple ds => tdys ds
  | .dict _ => false
def tdys : List D → Bool
  | [] => true
  | d :: ds => tdy d && tdys ds
end
theorem tdys_all : ∀ {ds : List D}, tdys ds = true ↔ ∀ d ∈ ds, tdy d = true
  | [] => by simp [tdys]
  | d :: ds => by
    unfold tdys
    rw [Bool.and_eq_true, tdys_all]
    simp
mutual
theorem tdy_flat : ∀ d : D, tdy d = true → flatD d = true
  | .none, _ => rfl
  | .bool _, _ => rfl
  | .int _, _ => rfl
  | .str _, _ => rfl
  | .list ds, h => by unfold flatD; unfold tdy at h; exact tdys_flat ds h
  | .tuple ds, h => by unfold flatD; unfold tdy at h; exact tdys_flat ds h
  | .dict _, h => by unfold tdy at h; cases h
theorem tdys_flat : ∀ ds : List D, tdys ds = true → flatDs ds = true
  | [], _ => rfl
  | d :: ds, h => by
    unfold tdys at h
    have h := Bool.and_eq_true_iff.mp h
    unfold flatDs
    rw [tdy_flat d h.1, tdys_flat ds h.2]; rfl
end
mutual
theorem tdy_lay : ∀ d : D, tdy d = true → d.canLay0 = true
  | .none, _ => by unfold PyData.canLay0; rfl
  | .bool _, _ => by unfold PyData.canLay0; rfl
  | .int _, _ => by unfold PyData.canLay0; rfl
  | .str x, h => by
    unfold PyData.canLay0 PyData.strOk
    unfold tdy at h
    simp only [List.all_eq_true, decide_eq_true_eq, Array.mem_toList_iff] at h
    simp only [Array.all_eq_true_iff_forall_mem, decide_eq_true_eq]
    exact fun c hc => h c hc
  | .list ds, h => by unfold PyData.canLay0; unfold tdy at h; exact tdys_lay ds h
  | .tuple ds, h => by unfold PyData.canLay0; unfold tdy at h; exact tdys_lay ds h
  | .dict _, h => by unfold tdy at h; cases h
theorem tdys_lay : ∀ ds : List D, tdys ds = true → PyData.canLayAll0 ds = true
  | [], _ => by unfold PyData.canLayAll0; rfl
  | d :: ds, h => by
    unfold tdys at h
    have h := Bool.and_eq_true_iff.mp h
    unfold PyData.canLayAll0
    rw [tdy_lay d h.1, tdys_lay ds h.2]; rfl
end
mutual
theorem tdy_show : ∀ d : D, tdy d = true → d.showable = true
  | .none, _ => by unfold PyData.showable; rfl
  | .bool _, _ => by unfold PyData.showable; rfl
  | .int i, h => by
    unfold PyData.showable
    unfold tdy at h
    have h := of_decide_eq_true h
    refine decide_eq_true ?_
    by_cases z : i.natAbs = 0
    · rw [z]; decide
    · have h1 : i.natAbs.log2 < 40 := (Nat.log2_lt z).mpr (Nat.lt_of_lt_of_le h (by decide))
      omega
  | .str x, h => by unfold PyData.showable; rfl
  | .list ds, h => by unfold PyData.showable; unfold tdy at h; exact tdys_show ds h
  | .tuple ds, h => by unfold PyData.showable; unfold tdy at h; exact tdys_show ds h
  | .dict _, h => by unfold tdy at h; cases h
theorem tdys_show : ∀ ds : List D, tdys ds = true → PyData.showableAll ds = true
  | [], _ => by unfold PyData.showableAll; rfl
  | d :: ds, h => by
    unfold tdys at h
    have h := Bool.and_eq_true_iff.mp h
    unfold PyData.showableAll
    rw [tdy_show d h.1, tdys_show ds h.2]; rfl
end
mutual
theorem tdy_short : ∀ d : D, tdy d = true → d.leavesShort 13 = true
  | .none, _ => by unfold PyData.leavesShort; rfl
  | .bool _, _ => by unfold PyData.leavesShort; rfl
  | .int i, h => by
    unfold PyData.leavesShort
    unfold tdy at h
    have h := of_decide_eq_true h
    exact decide_eq_true (PyData.shown_int_le (by omega))
  | .str x, h => by
    unfold PyData.leavesShort
    unfold tdy at h
    simp only [List.all_eq_true, decide_eq_true_eq] at h ⊢
    exact fun c hc => Nat.lt_of_lt_of_le (h c hc) (by decide)
  | .list ds, h => by unfold PyData.leavesShort; unfold tdy at h; exact tdys_short ds h
  | .tuple ds, h => by unfold PyData.leavesShort; unfold tdy at h; exact tdys_short ds h
  | .dict _, h => by unfold tdy at h; cases h
theorem tdys_short : ∀ ds : List D, tdys ds = true → PyData.leavesShortAll 13 ds = true
  | [], _ => by unfold PyData.leavesShortAll; rfl
  | d :: ds, h => by
    unfold tdys at h
    have h := Bool.and_eq_true_iff.mp h
    unfold PyData.leavesShortAll
    rw [tdy_short d h.1, tdys_short ds h.2]; rfl
end
theorem cmp_tdy {d : D} (h : tdy d = true) (h2 : d.depth ≤ 64) : cmpD d = true := by
  unfold cmpD SeqAt.shaped
  rw [tdy_flat d h, tdy_lay d h]
  simp [h2]
theorem shown_len {d : D} (h : tdy d = true) (h2 : d.bulk ≤ 1000000) : bz d.shown.length = true := by
  have := PyData.shown_le_bulk 13 (by decide) d (tdy_short d h)
  unfold bz
  refine decide_eq_true ?_
  have e : sizeLine = 16777216 := by decide
  rw [e]
  omega
theorem v_reprL {ds : List D} (h : tdy (.list ds) = true) (h2 : (PyData.list ds).depth ≤ 60) (h3 : (PyData.list ds).bulk ≤ 1000000) : fRepr [.list ds] = some (.fz (.str (PyData.list ds).shown)) := by
  refine if_pos ?_
  have f := tdy_flat _ h
  unfold flatD at f
  rw [shown_len h h3, tdy_show _ h, f]
  simp [h2]
theorem v_reprT {ds : List D} (h : tdy (.tuple ds) = true) (h2 : (PyData.tuple ds).depth ≤ 60) (h3 : (PyData.tuple ds).bulk ≤ 1000000) : fRepr [.tuple ds] = some (.fz (.str (PyData.tuple ds).shown)) := by
  refine if_pos ?_
  have f := tdy_flat _ h
  unfold flatD at f
  rw [shown_len h h3, tdy_show _ h, f]
  simp [h2]
/-! ### least, greatest of numbers -/
theorem ints_tdy : ∀ (ns : List Int), (∀ n ∈ ns, n.natAbs < 1000000000000) → tdys (ns.map PyData.int) = true := fun ns h => tdys_all.mpr fun d hd => by
  obtain ⟨n, hn, rfl⟩ := List.mem_map.mp hd
  unfold tdy
  exact decide_eq_true (h n hn)
theorem ints_depth : ∀ ns : List Int, PyData.depthAll (ns.map PyData.int) = 0
  | [] => by simp [PyData.depthAll]
  | n :: ns => by
    rw [List.map_cons, PyData.depthAll, ints_depth ns]
    simp [PyData.depth]
theorem ints_cmp (ns : List Int) : flatDs (ns.map PyData.int) = true ∧ PyData.canLayAll0 (ns.map PyData.int) = true := by
  induction ns with
  | nil => exact ⟨rfl, by simp [PyData.canLayAll0]⟩
  | cons n ns ih => exact ⟨by rw [List.map_cons, flatDs, ih.1]; rfl, by rw [List.map_cons, PyData.canLayAll0, ih.2]; simp [PyData.canLay0]⟩
theorem ints_cmpL (ns : List Int) : cmpD (.list (ns.map PyData.int)) = true := by
  unfold cmpD SeqAt.shaped
  simp [flatD, PyData.canLay0, PyData.depth, ints_cmp ns, ints_depth ns]
theorem ints_cmpT (ns : List Int) : cmpD (.tuple (ns.map PyData.int)) = true := by
  unfold cmpD SeqAt.shaped
  simp [flatD, PyData.canLay0, PyData.depth, ints_cmp ns, ints_depth ns]
theorem ints_like (ns : List Int) : ((ns.map PyData.int).all fun a => (ns.map PyData.int).all fun b => PySem.W.alike a b) = true := by
  simp [PySem.W.alike]
theorem ints_some (ns : List Int) : ((ns.map PyData.int).all fun a => !isN a) = true := by
  simp [isN]
theorem v_minL (n : Int) (ns : List Int) : fMin [.list ((n :: ns).map PyData.int)] = some (.fz (.int (ns.foldl min n))) := by
  show (if (cmpD (.list ((n :: ns).map PyData.int)) && decide (PyData.depthAll ((n :: ns).map PyData.int) ≤ 60) && _ && _) = true then some (RV.fz (PySem.W.minD (.int n) (ns.map PyData.int))) else none) = _
  rw [if_pos, PySem.W.minD_ints]
  have h1 := ints_like (n :: ns)
  have h2 := ints_some (n :: ns)
  rw [List.map_cons] at h1 h2
  rw [ints_cmpL, ints_depth, h1, h2]
  rfl
theorem v_maxL (n : Int) (ns : List Int) : fMax [.list ((n :: ns).map PyData.int)] = some (.fz (.int (ns.foldl max n))) := by
  show (if (cmpD (.list ((n :: ns).map PyData.int)) && decide (PyData.depthAll ((n :: ns).map PyData.int) ≤ 60) && _ && _) = true then some (RV.fz (PySem.W.maxD (.int n) (ns.map PyData.int))) else none) = _
  rw [if_pos, PySem.W.maxD_ints]
  have h1 := ints_like (n :: ns)
  have h2 := ints_some (n :: ns)
  rw [List.map_cons] at h1 h2
  rw [ints_cmpL, ints_depth, h1, h2]
  rfl
theorem foldl_min_le (n : Int) : ∀ (ns : List Int), ns.foldl min n ≤ n ∧ (∀ m ∈ ns, ns.foldl min n ≤ m) ∧ (ns.foldl min n = n ∨ ns.foldl min n ∈ ns) := by
  intro ns
  induction ns generalizing n with
  | nil => simp
  | cons m ns ih =>
    obtain ⟨h1, h2, h3⟩ := ih (min n m)
    rw [List.foldl_cons]
    refine ⟨by omega, fun k hk => ?_, ?_⟩
    · rcases List.mem_cons.mp hk with rfl | hk
      · omega
      · exact h2 k hk
    · rcases h3 with h3 | h3
      · rw [h3]
        by_cases z : n ≤ m
        · left; omega
        · right
          rw [show min n m = m by omega]
          exact List.mem_cons_self
      · exact .inr (List.mem_cons_of_mem _ h3)
theorem foldl_max_ge (n : Int) : ∀ (ns : List Int), n ≤ ns.foldl max n ∧ (∀ m ∈ ns, m ≤ ns.foldl max n) ∧ (ns.foldl max n = n ∨ ns.foldl max n ∈ ns) := by
  intro ns
  induction ns generalizing n with
  | nil => simp
  | cons m ns ih =>
    obtain ⟨h1, h2, h3⟩ := ih (max n m)
    rw [List.foldl_cons]
    refine ⟨by omega, fun k hk => ?_, ?_⟩
    · rcases List.mem_cons.mp hk with rfl | hk
      · omega
      · exact h2 k hk
    · rcases h3 with h3 | h3
      · rw [h3]
        by_cases z : m ≤ n
        · left; omega
        · right
          rw [show max n m = m by omega]
          exact List.mem_cons_self
      · exact .inr (List.mem_cons_of_mem _ h3)
/-! least, greatest of a list of numbers -/
def lmin : List Int → Int
  | [] => 0
  | n :: ns => ns.foldl min n
def lmax : List Int → Int
  | [] => 0
  | n :: ns => ns.foldl max n
theorem v_lmin {l : List Int} (h : l ≠ []) : fMin [.list (l.map PyData.int)] = some (.fz (.int (lmin l))) := by
  cases l with
  | nil => exact absurd rfl h
  | cons n ns => exact v_minL n ns
theorem v_lmax {l : List Int} (h : l ≠ []) : fMax [.list (l.map PyData.int)] = some (.fz (.int (lmax l))) := by
  cases l with
  | nil => exact absurd rfl h
  | cons n ns => exact v_maxL n ns
theorem lmin_le {l : List Int} {x : Int} (h : x ∈ l) : lmin l ≤ x := by
  cases l with
  | nil => cases h
  | cons n ns =>
    obtain ⟨h1, h2, _⟩ := foldl_min_le n ns
    rcases List.mem_cons.mp h with rfl | h
    · exact h1
    · exact h2 x h
theorem lmin_mem {l : List Int} (h : l ≠ []) : lmin l ∈ l := by
  cases l with
  | nil => exact absurd rfl h
  | cons n ns =>
    obtain ⟨_, _, h3⟩ := foldl_min_le n ns
    show ns.foldl min n ∈ _
    rcases h3 with h3 | h3
    · rw [h3]; exact List.mem_cons_self
    · exact List.mem_cons_of_mem _ h3
theorem lmax_ge {l : List Int} {x : Int} (h : x ∈ l) : x ≤ lmax l := by
  cases l with
  | nil => cases h
  | cons n ns =>
    obtain ⟨h1, h2, _⟩ := foldl_max_ge n ns
    rcases List.mem_cons.mp h with rfl | h
    · exact h1
    · exact h2 x h
theorem lmax_mem {l : List Int} (h : l ≠ []) : lmax l ∈ l := by
  cases l with
  | nil => exact absurd rfl h
  | cons n ns =>
    obtain ⟨_, _, h3⟩ := foldl_max_ge n ns
    show ns.foldl max n ∈ _
    rcases h3 with h3 | h3
    · rw [h3]; exact List.mem_cons_self
    · exact List.mem_cons_of_mem _ h3
/-! sorted numbers -/
theorem srt_ints (l : List Int) : srtD (l.map PyData.int) = (l.mergeSort (fun a b => decide (a ≤ b))).map PyData.int := by
  unfold srtD
  rw [← List.map_mergeSort (r := fun a b => decide (a ≤ b))]
  intro a _ b _
  rw [PySem.W.dataLe_eq]
  show decide (a ≤ b) = !PySem.W.dataLt (.int b) (.int a)
  rw [PySem.W.dataLt_int, Bool.eq_iff_iff]
  simp
theorem v_sorted {l : List Int} : fSorted [.list (l.map PyData.int)] = some (.ow (.list ((l.mergeSort (fun a b => decide (a ≤ b))).map PyData.int))) := by
  rw [← srt_ints]
  refine if_pos ?_
  have h1 := ints_like l
  have h2 : noneTup (l.map PyData.int) = true := by simp [noneTup]
  unfold alikes
  rw [(ints_cmp l).1, ints_depth, h1, h2]
  simp
theorem sort2 (x y : Int) : [x, y].mergeSort (fun a b => decide (a ≤ b)) = [min x y, max x y] := by
  by_cases h : x ≤ y
  · rw [show min x y = x by omega, show max x y = y by omega]
    simp [List.mergeSort, List.MergeSort.Internal.splitInTwo, List.merge, h]
  · rw [show min x y = y by omega, show max x y = x by omega]
    simp [List.mergeSort, List.MergeSort.Internal.splitInTwo, List.merge, h]
theorem v_sort2 (x y : Int) : fSorted [.list [.int x, .int y]] = some (.ow (.list [.int (min x y), .int (max x y)])) := by
  have := v_sorted (l := [x, y])
  rw [sort2] at this
  exact this
/-! small factors -/
theorem small_mod {k c : Int} (h : 0 < k) (h2 : k < 4294967296) (h3 : 0 ≤ c) (h4 : c < 4294967296) (x : Int) : smallB (Int.fmod x k + c) = true :=
  small_of (by have := Int.fmod_nonneg_of_pos x h; omega) (by have := Int.fmod_lt_of_pos x h; omega)
/-- three numbers -/
def W3 (w : List Int) : Prop := ∃ a b c, w = [a, b, c]
/-! numbers in a row -/
def rngI (lo : Int) : Nat → List Int
  | 0 => []
  | n + 1 => lo :: rngI (lo + 1) n
theorem rngD_map : ∀ (lo : Int) (n : Nat), rngD lo n = (rngI lo n).map PyData.int
  | _, 0 => rfl
  | lo, n + 1 => by
    unfold rngD rngI
    rw [List.map_cons, rngD_map]
theorem rngI_len : ∀ (lo : Int) (n : Nat), (rngI lo n).length = n
  | _, 0 => rfl
  | lo, n + 1 => by unfold rngI; rw [List.length_cons, rngI_len]
theorem rngI_mem : ∀ {lo x : Int} {n : Nat}, x ∈ rngI lo n ↔ lo ≤ x ∧ x < lo + n
  | lo, x, 0 => by
    unfold rngI
    constructor
    · intro h; cases h
    · intro h; omega
  | lo, x, n + 1 => by
    unfold rngI
    rw [List.mem_cons, rngI_mem]
    push_cast
    omega
theorem rng_ok {i : Int} (h : -4611686018427387904 < i) (h2 : i < 4611686018427387904) : rngOk i = true := by
  unfold rngOk
  exact decide_eq_true (by omega)
/-! a part of a list of numbers -/
theorem cut_ints (zs : List Int) (lo hi : Option Int) : ∃ l : List Int, cutD (zs.map PyData.int) lo hi = l.map PyData.int := by
  unfold cutD
  exact ⟨_, by rw [← List.map_drop, ← List.map_take]⟩
theorem v_slL {ds : List D} {lo hi : Option Int} : fSl (.list ds) lo hi = some (.ow (.list (cutD ds lo hi))) := rfl
theorem v_slT {ds : List D} {lo hi : Option Int} : fSl (.tuple ds) lo hi = some (.fz (.tuple (cutD ds lo hi))) := rfl
theorem at_int {zs : List Int} {k : Int} (h : 0 ≤ k) (h2 : k < zs.length) : ∃ z, atI (zs.map PyData.int) k = some (.int z) := by
  rw [at_of h, List.getElem?_map]
  have : k.toNat < zs.length := by omega
  exact ⟨_, by rw [List.getElem?_eq_getElem this]; rfl⟩
theorem pow15 : fPow (.int 10) (.int 15) = some (.fz (.int 1000000000000000)) := by
  show (if (decide ((0 : Int) ≤ 15) && decide ((15 : Int) ≤ 1000000) && decide ((10 : Int).natAbs < 2 ^ 64)) = true then some (RV.fz (.int ((10 : Int) ^ (15 : Int).toNat))) else none) = _
  rw [if_pos (by decide)]
  rfl
end DL
namespace DL
open PySem PySem.Spec PyProof.Rows L2
/-! ### the law, end to end -/
/-- what is written holds no list -/
def noList (K : PySem.W.Frag) : Bool := K.all fun q => match q.2.cls with
  | .type c => c != "list"
  | _ => true
theorem noList_at {K : PySem.W.Frag} (h : noList K = true) {a : Addr} {o : Obj} (e : K.lookup a = some o) : o.cls ≠ .type "list" := by
  have hm := He.lookup_mem e
  have h1 := List.all_eq_true.mp h _ hm
  intro z
  simp [z] at h1
/-- the law's def keeps its promise, whatever the base -/
structure LawOk (P : Program) (w : World) (K : PySem.W.Frag) (mg : Str → Option Value) (k : Nat) : Prop where
  go : ∃ (φ : FSem) (fd : FuncData), (∀ zs : List Int, φ [] [.fz (.list (zs.map PyData.int))] [] = .ok (.fz (.bool true), [])) ∧ noList K = true ∧ mg ("law" : Str) = some (.ref (He.ga K ("law" : Str))) ∧ (∀ (s : Shared) (u : Value), BindsTo s fd ⟨[u], []⟩ [(("script" : Str), u)]) ∧
    ∀ base : Heap, K.In base → base.Ns mainGlobals mg → FnD ⟨P, w, K, mg, base, [], fun _ => .none, fun _ _ _ _ => False⟩ k 0 (He.ga K ("law" : Str)) fd ["script"] false φ
theorem lawOk_of {P : Program} {w : World} {K : PySem.W.Frag} {mg : Str → Option Value} {k : Nat} {φ : FSem} {fd : FuncData} (m : noList K = true) (g : mg ("law" : Str) = some (.ref (He.ga K ("law" : Str))))
    (h : ∀ base : Heap, K.In base → base.Ns mainGlobals mg → FnD ⟨P, w, K, mg, base, [], fun _ => .none, fun _ _ _ _ => False⟩ k 0 (He.ga K ("law" : Str)) fd ["script"] false φ) (b : ∀ (s : Shared) (u : Value), BindsTo s fd ⟨[u], []⟩ [(("script" : Str), u)])
    (p : ∀ zs : List Int, φ [] [.fz (.list (zs.map PyData.int))] [] = .ok (.fz (.bool true), [])) : LawOk P w K mg k := ⟨φ, fd, p, m, g, b, h⟩
theorem law_walk {l : PySem.W.OpenLaw} {n k : Nat} {q : Program} {loose : List Str} {XP : (Str → Option Value) → Heap → Prop} {d : DefRec} {fa : List He.Fa} {fn : List He.DefD} {ex : PySem.W.Frag → Bool}
    (most : l.most = some n) (small : n ≤ sizeLine) (plain : d.params.defaults = []) (nm : d.name = ("law" : Str)) (room : Room k callerA)
    (F : ∀ (w : World) (mg : Str → Option Value) (K : PySem.W.Frag) (h : Heap), K.In h → h.Ns mainGlobals mg → He.SaysX fa fn [] [] ex w h K → LawOk l.prog w K mg k) :
    PySem.W.WalkO q loose XP (He.hookX 4 fa fn [] [] ex).says l.row.toRowW d [] (fun f vs => PySem.call f vs) := by
  refine Att.attach_callB most plain fun w s0 s1 mg mb f o pm cd doc a vs zs Gr says ho hd code at_ obj numb len bits gens => ?_
  obtain ⟨K, inK, c⟩ := says
  obtain ⟨φ, fd, law, nl, gf, b, keeps⟩ := (F w mg K _ inK Gr.T.g c).go
  rw [nm] at at_
  have aK : K.lookup a = none := by
    cases z : K.lookup a with
    | none => rfl
    | some u =>
      have := inK a u z
      rw [obj] at this
      cases this
      exact absurd rfl (noList_at nl z)
  rw [at_] at gf
  cases gf
  refine law_door (cs := []) (T := []) (k := k) (kc := 0) (fd := fd) (x := "script") (φ := φ) inK Gr.T.g Gr.T.b Gr.T.builtins Gr.T.nolimit gens (fun p hp => by cases hp) (fun p hp => by cases hp) (fun p hp => by cases hp) Gr.T.bmain obj numb (Nat.le_trans len small) room aK (fun q hq => by cases hq) (fun base bi bn _ => keeps base bi bn) b (law zs)
end DL
namespace DL
open PySem PySem.Spec PyProof.Rows L2
/-! ### targets write values that stay, in their places alone -/
def Tidy (b : Gx) (ts : List Nat) : Prop := ∀ d ρ ρ', b d ρ = some ρ' → (∀ j, j ∉ ts → ρ'[j]? = ρ[j]?) ∧ ∀ j e, j ∈ ts → ρ'[j]? = some (some e) → ∃ d, e = .fz d
def Tidys (c : Gxs) (ts : List Nat) : Prop := ∀ ds ρ ρ', c ds ρ = some ρ' → (∀ j, j ∉ ts → ρ'[j]? = ρ[j]?) ∧ ∀ j e, j ∈ ts → ρ'[j]? = some (some e) → ∃ d, e = .fz d
theorem ty_nm {i : Nat} : Tidy (gNm i) [i] := fun d ρ ρ' h => by
  cases h
  refine ⟨fun j hj => List.getElem?_set_ne fun z => hj (by rw [z]; exact List.mem_singleton.mpr rfl), fun j e hj he => ?_⟩
  cases List.mem_singleton.mp hj
  rcases get_set he with ⟨_, z⟩ | ⟨z, _⟩
  · cases z; exact ⟨_, rfl⟩
  · exact absurd rfl z
theorem ty_nl : Tidys gNl [] := fun ds ρ ρ' h => by
  cases ds with
  | nil => cases h; exact ⟨fun _ _ => rfl, fun j e hj => by cases hj⟩
  | cons _ _ => cases h
theorem ty_cn {b : Gx} {c : Gxs} {ts us : List Nat} (h1 : Tidy b ts) (h2 : Tidys c us) : Tidys (gCn b c) (ts ++ us) := fun ds ρ ρ' h => by
  cases ds with
  | nil => cases h
  | cons d ds =>
    obtain ⟨ρ1, e1, e2⟩ := Option.bind_eq_some_iff.mp (show (b d ρ).bind (c ds) = some ρ' from h)
    obtain ⟨a1, a2⟩ := h1 _ _ _ e1
    obtain ⟨b1, b2⟩ := h2 _ _ _ e2
    refine ⟨fun j hj => ?_, fun j e hj he => ?_⟩
    · rw [b1 j fun z => hj (List.mem_append_right _ z), a1 j fun z => hj (List.mem_append_left _ z)]
    · by_cases hu : j ∈ us
      · exact b2 j e hu he
      · rw [b1 j hu] at he
        exact a2 j e ((List.mem_append.mp hj).resolve_right hu) he
theorem ty_tu {n : Nat} {c : Gxs} {ts : List Nat} (h : Tidys c ts) : Tidy (gTu n c) ts := fun d ρ ρ' e => by
  cases d with
  | tuple ds =>
    have e : (if (ds.length == n) = true then c ds ρ else none) = some ρ' := e
    split at e
    · exact h _ _ _ e
    · cases e
  | list ds =>
    have e : (if (ds.length == n) = true then c ds ρ else none) = some ρ' := e
    split at e
    · exact h _ _ _ e
    · cases e
  | _ => cases e
/-! ### list comprehensions with two clauses -/
/-- amid the turns: the new list at Dn, what is walked, both envs -/
structure LcSt (C : Cn) (H : Hp) (Dn : Addr) (S : Addr → Prop) (ρo ρi : DEnv) (σo σi : L2.St) (srcs : List (V × D)) (w : List Int) (accD : List D) (Hc : Hp) : Prop where
  eo : EnvOk C ρo w S σo Hc
  ei : EnvOk C ρi w S σi Hc
  acc : ∃ acc, Hc Dn = some (.lst acc) ∧ Rps C.P C.w C.K Hc S acc accD
  gr : Grow C.pw H Hc
  src : ∀ v d, (v, d) ∈ srcs → Rp C.P C.w C.K Hc S v d
structure LcFx (C : Cn) (H : Hp) (Dn : Addr) (S : Addr → Prop) (ρo ρi : DEnv) (σo σi : L2.St) : Prop where
  fo : Free ρo σo Dn
  fi : Free ρi σi Dn
  hS : ¬ S Dn
  h0 : C.H0 Dn = none
  hw : C.pw ≠ some Dn
  hH : H Dn = none
section
variable {C : Cn} {H Hc H' : Hp} {Dn : Addr} {S : Addr → Prop} {ρo ρi : DEnv} {σo σi : L2.St} {srcs : List (V × D)} {w w' : List Int} {accD : List D}
theorem LcSt.go (s : LcSt C H Dn S ρo ρi σo σi srcs w accD Hc) (f : LcFx C H Dn S ρo ρi σo σi) (p : Pst C Hc H' w') : LcSt C H Dn S ρo ρi σo σi srcs w' accD H' := by
  obtain ⟨acc, h1, h2⟩ := s.acc
  have k := s.eo.kept p.g
  exact ⟨s.eo.go p, s.ei.go p, ⟨acc, p.g.keep _ _ h1 (fun _ z => nomatch z) f.hw, h2.mono k fun _ z => z⟩, s.gr.trans p.g, fun v d m => (s.src v d m).mono k fun _ z => z⟩
theorem LcSt.push {v : V} {d : D} {acc : List V} (s : LcSt C H Dn S ρo ρi σo σi srcs w accD Hc) (f : LcFx C H Dn S ρo ρi σo σi) (e : Hc Dn = some (.lst acc)) (r : Rp C.P C.w C.K Hc S v d) : LcSt C H Dn S ρo ρi σo σi srcs w (accD ++ [d]) (upd Hc Dn (.lst (acc ++ [v]))) := by
  obtain ⟨acc', h1, h2⟩ := s.acc
  rw [e] at h1
  cases h1
  have k := kept_upd (S := S) (o' := .lst (acc ++ [v])) f.hS e (.inl ⟨_, rfl⟩)
  refine ⟨s.eo.turn f.fo f.hS f.h0 f.hw e (.inl ⟨_, rfl⟩), s.ei.turn f.fi f.hS f.h0 f.hw e (.inl ⟨_, rfl⟩), ⟨_, upd_same, (h2.append (.cons r .nil)).mono k fun _ z => z⟩, ?_, fun v d m => (s.src v d m).mono k fun _ z => z⟩
  refine ⟨fun a o h n q => ?_, fun a h => ?_⟩
  · rw [upd_ne (fun z => by rw [z, f.hH] at h; cases h)]
    exact s.gr.keep a o h n q
  · by_cases z : a = Dn
    · rw [z]; exact f.hH
    · rw [upd_ne z] at h; exact s.gr.nn a h
/-- the inner turns -/
theorem lc_inner {ρ2 : DEnv} {σ2 : L2.St} {vs1 ts1 : List Nat} {J : It} {ds : List D} {src1 : List (V × D)} {b : Gx} {t : Tx} {e : Ex} {Nx : Hp → Prop} {H4 : Hp} (f : LcFx C H Dn S ρo (wipeE ρ2 vs1) σo (wipe σ2 vs1)) (sub : ∀ z ∈ src1, z ∈ srcs) (it : ItD C J ds src1) (hts : ∀ j ∈ ts1, j ∈ vs1)
    (st : LcSt C H Dn S ρo (wipeE ρ2 vs1) σo (wipe σ2 vs1) srcs w accD H4)
    (fin : ∃ zs w', lcL b t e ds (wipeE ρ2 vs1) w = .ok (zs, w') ∧ (accD ++ zs).length ≤ sizeLine ∧ ∀ Hc, LcSt C H Dn S ρo (wipeE ρ2 vs1) σo (wipe σ2 vs1) srcs w' (accD ++ zs) Hc → Nx Hc) :
    ∃ W1 : Nat → Nat → Hp → Prop, (∃ m, W1 0 m H4) ∧ ∀ j k Hc, W1 j k Hc →
      (J.stop j Hc ∧ Nx Hc) ∨ (J.go j Hc ∧ ∃ Nx1 : Hp → Prop, (∀ H', Nx1 H' → ∃ k', k' < k ∧ W1 (j + 1) k' H') ∧ ∀ x H', J.yld j Hc x H' → gT C b ts1 x (wipe σ2 vs1) H' fun σ3 H5 => wipe σ3 vs1 = wipe σ2 vs1 ∧ tT C W0 t σ3 H5 fun q H6 =>
        if q = true then eT C W0 e σ3 H6 fun y H7 => ∃ acc, H7 Dn = some (.lst acc) ∧ acc.length < sizeLine ∧ Nx1 (upd H7 Dn (.lst (acc ++ [y]))) else Nx1 H6) := by
  refine ⟨fun j k Hc => k + j = ds.length ∧ ∃ wc aD, LcSt C H Dn S ρo (wipeE ρ2 vs1) σo (wipe σ2 vs1) srcs wc aD Hc ∧ ∃ zs w', lcL b t e (ds.drop j) (wipeE ρ2 vs1) wc = .ok (zs, w') ∧ (aD ++ zs).length ≤ sizeLine ∧ ∀ Hc, LcSt C H Dn S ρo (wipeE ρ2 vs1) σo (wipe σ2 vs1) srcs w' (aD ++ zs) Hc → Nx Hc,
    ⟨ds.length, rfl, w, accD, st, fin⟩, ?_⟩
  intro j k Hc ⟨hm, wc, aD, s, zs0, w0, el, hl, nx⟩
  obtain ⟨i1, i2⟩ := it S Hc s.eo.sN (fun v d m => s.src v d (sub _ m)) s.eo.lo
  cases k with
  | zero =>
    refine .inl ⟨i2 j (by omega), ?_⟩
    rw [List.drop_eq_nil_of_le (by omega)] at el
    cases el
    rw [List.append_nil] at nx
    exact nx _ s
  | succ k =>
    have hj : j < ds.length := by omega
    obtain ⟨go, yl⟩ := i1 j hj
    rw [List.drop_eq_getElem_cons hj] at el
    unfold lcL at el
    refine .inr ⟨go, _, fun H' z => ⟨k, Nat.lt_succ_self k, z⟩, fun x H' y => ?_⟩
    obtain ⟨ex, d, ed, rd⟩ := yl x H' y
    have px := ex.pst s.eo
    have ed' : ds[j] = d := by rw [List.getElem?_eq_getElem hj] at ed; exact Option.some.inj ed
    rw [ed'] at el
    have s1 := s.go f px
    cases eb : b d (wipeE ρ2 vs1) with
    | none => rw [eb] at el; cases el
    | some ρ1 =>
      rw [eb] at el
      obtain ⟨⟨q, wt⟩, et, el⟩ := bind_ok el
      refine ⟨_, wc, S, d, ρ1, s1.ei, rd, eb, fun σ3 Es bt => ⟨wipe_but ⟨bt.1, fun i hi => bt.2 i fun z => hi (hts i z)⟩, ?_⟩⟩
      refine tT_of Es Es.rf (by
          rw [et]
          intro H3 p3
          have s3 := s1.go f p3
          cases q with
          | false => exact ⟨by omega, wt, aD, s3, zs0, w0, el, hl, nx⟩
          | true =>
            have Es3 := Es.go p3
            obtain ⟨⟨r, we⟩, ee, el⟩ := bind_ok el
            refine eT_of Es3 Es3.rf (by
                rw [ee]
                intro v H7 p4 r4
                have s4 := s3.go f p4
                have nb : ∀ d, r ≠ .bw d := fun d z => by subst z; cases el
                have rv := r4.rp Es3 nb
                have el : ((lcL b t e (ds.drop (j + 1)) (wipeE ρ2 vs1) we).bind fun z => Res.ok (r.d :: z.1, z.2)) = .ok (zs0, w0) := by
                  revert el
                  cases r with
                  | fz d => exact fun f => f
                  | ow d => exact fun f => f
                  | bw d => exact absurd rfl (nb d)
                obtain ⟨⟨zs, wz⟩, ez, el⟩ := bind_ok el
                cases el
                have ea : aD ++ r.d :: zs = aD ++ [r.d] ++ zs := by simp
                obtain ⟨acc, ha, hr⟩ := s4.acc
                refine ⟨acc, ha, ?_, by omega, we, aD ++ [r.d], s4.push f ha rv, zs, wz, ez, ?_, fun Hc z => nx Hc (by rw [ea]; exact z)⟩
                · rw [hr.length]
                  rw [List.length_append, List.length_cons] at hl
                  omega
                · rw [← ea]; exact hl))
end
/-- two clauses: for each thing of the first, the second's items -/
def lcL2 (vs1 : List Nat) (b : Gx) (t : Tx) (fi : Ix) (b1 : Gx) (t1 : Tx) (e : Ex) : List D → DEnv → List Int → Res (List D × List Int)
  | [], _, w => .ok ([], w)
  | d :: ds, ρ, w => match b d ρ with
    | none => .err
    | some ρ1 => (t ρ1 w).bind fun p => if p.1 then (fi ρ1 p.2).bind fun q => (lcL b1 t1 e q.1 (wipeE ρ1 vs1) q.2).bind fun z => (lcL2 vs1 b t fi b1 t1 e ds ρ z.2).bind fun y => .ok (z.1 ++ y.1, y.2)
      else lcL2 vs1 b t fi b1 t1 e ds ρ p.2
def eLc2 (vs vs1 : List Nat) (f : Ix) (b : Gx) (t : Tx) (fi : Ix) (b1 : Gx) (t1 : Tx) (e : Ex) : Ex := fun ρ w => (f ρ w).bind fun p => (noX (lcL2 vs1 b t fi b1 t1 e p.1 (wipeE ρ vs) p.2)).bind fun z => if bz z.1.length then .ok (.ow (.list z.1), z.2) else .err
section
variable {X : Cx} {C : Cn} {W : WX}
theorem free_wiped {ρ : DEnv} {σ : L2.St} {p : Addr} {vs : List Nat} (f : Free ρ σ p) : Free (wipeE ρ vs) (wipe σ vs) p := fun i d h => by
  obtain ⟨h1, n⟩ := wipeE_get h
  rw [wipe_out n]
  exact f i d h1
theorem go_lc2 {own : List (Str × Nat)} {vs1 : List Nat} {f fi : Ix} {b b1 : Gx} {tf tf1 : Tx} {ef : Ex} {ts ts1 : List Nat} (hv : C.pw = none ∨ C.pi ∉ ownS own) (hts : ∀ j ∈ ts, j ∈ ownS own) (hts1 : ∀ j ∈ ts1, j ∈ vs1) (ty : Tidy b ts) (hv2 : C.pw = none ∨ C.pi ∉ vs1) : ∀ (σ : L2.St) (H : Hp) (Q : VK), eT C W (eLc2 (ownS own) vs1 f b tf fi b1 tf1 ef) σ H Q → tLc2 (iT C W f) (gT C b ts) (tT C W0 tf) (iT C W0 fi) (gT C b1 ts1) (tT C W0 tf1) (eT C W0 ef) (ownS own) vs1 σ H Q := by
  intro σ H Q hq
  obtain ⟨ρ, w, S, E, q⟩ := eT_to hq
  unfold eLc2 at q
  refine ⟨ρ, w, S, E, q.bind.imp fun p hp J H1 src p1 it hsrc Dn hn => ?_⟩
  obtain ⟨ds, w1⟩ := p
  have E1 := E.go p1
  have hH : H Dn = none := p1.g.nn _ hn
  have h0 : C.H0 Dn = none := E1.gn Dn hn
  have hw : C.pw ≠ some Dn := fun z => by have := E1.st Dn z; rw [hn] at this; cases this
  obtain ⟨E2, fr⟩ := (E1.wiped hv).lay (o := .lst []) hn
  let S' : Addr → Prop := fun a => S a ∧ a ≠ Dn
  have hS' : ¬ S' Dn := fun z => z.2 rfl
  have fin0 : FinL C H S Q (lcL2 vs1 b tf fi b1 tf1 ef ds (wipeE ρ (ownS own)) w1) [] := by
    revert hp
    show Good C W σ H ((noX (lcL2 vs1 b tf fi b1 tf1 ef ds (wipeE ρ (ownS own)) w1)).bind _) _ → _
    cases lcL2 vs1 b tf fi b1 tf1 ef ds (wipeE ρ (ownS own)) w1 with
    | ok z =>
      obtain ⟨zs, w2⟩ := z
      intro hp
      have hp : Good C W σ H (if bz zs.length = true then Res.ok (RV.ow (.list zs), w2) else .err) fun p => ∀ v H', Pst C H H' p.2 → RvOk C H H' S v p.1 → Q v H' := hp
      split at hp
      · rename_i hz
        exact ⟨zs, w2, rfl, of_decide_eq_true hz, hp⟩
      · exact hp.elim
    | exc c d => exact fun h => h.elim
    | err => exact fun h => h.elim
  have F0 : LcFx C H Dn S' (wipeE ρ (ownS own)) (wipeE ρ (ownS own)) (wipe σ (ownS own)) (wipe σ (ownS own)) := ⟨fr, fr, hS', h0, hw, hH⟩
  refine ⟨fun i m Hc => m + i = ds.length ∧ ∃ wc accD, LcSt C H Dn S' (wipeE ρ (ownS own)) (wipeE ρ (ownS own)) (wipe σ (ownS own)) (wipe σ (ownS own)) src wc accD Hc ∧ FinL C H S Q (lcL2 vs1 b tf fi b1 tf1 ef (ds.drop i) (wipeE ρ (ownS own)) wc) accD,
    ⟨ds.length, rfl, w1, [], ⟨E2, E2, ⟨[], upd_same, .nil⟩, p1.g.trans (Grow.new hn), fun v d m => ((hsrc v d m).avoid hn).mono (Ext.new hn).kept fun _ z => z⟩, fin0⟩, ?_⟩
  intro i m Hc ⟨hm, wc, accD, s, fin⟩
  obtain ⟨i1, i2⟩ := it S' Hc s.eo.sN s.src s.eo.lo
  cases m with
  | zero =>
    refine .inl ⟨i2 i (by show ds.length ≤ i; omega), ?_⟩
    rw [List.drop_eq_nil_of_le (by omega)] at fin
    obtain ⟨zs, w', e, _, fin⟩ := fin
    cases e
    rw [List.append_nil] at fin
    obtain ⟨acc, ha, hr⟩ := s.acc
    exact fin _ Hc ⟨s.gr, s.eo.st, s.eo.tb⟩ ⟨Dn, rfl, .lst ha hr, hH⟩
  | succ m =>
    have hi' : i < ds.length := by omega
    obtain ⟨go, yl⟩ := i1 i hi'
    rw [List.drop_eq_getElem_cons hi'] at fin
    obtain ⟨zs0, w0, el, fl⟩ := fin
    unfold lcL2 at el
    refine .inr ⟨go, _, fun H' z => ⟨m, Nat.lt_succ_self m, z⟩, fun x H' y => ?_⟩
    obtain ⟨ex, d, ed, rd⟩ := yl x H' y
    have px := ex.pst s.eo
    have ed' : ds[i] = d := by rw [List.getElem?_eq_getElem hi'] at ed; exact Option.some.inj ed
    rw [ed'] at el
    have s1 := s.go F0 px
    cases eb : b d (wipeE ρ (ownS own)) with
    | none => rw [eb] at el; cases el
    | some ρ1 =>
      rw [eb] at el
      obtain ⟨⟨k, wt⟩, et, el⟩ := bind_ok el
      refine ⟨_, wc, S', d, ρ1, s1.eo, rd, eb, fun σ2 Es bt => ⟨wipe_but ⟨bt.1, fun j hj => bt.2 j fun z => hj (hts j z)⟩, ?_⟩⟩
      refine tT_of Es Es.rf (by
          rw [et]
          intro H3 p3
          have s3 := s1.go F0 p3
          cases k with
          | false => exact ⟨by omega, wt, accD, s3, zs0, w0, el, fl⟩
          | true =>
            have Es3 := Es.go p3
            obtain ⟨⟨ds1, wi⟩, ei, el⟩ := bind_ok el
            obtain ⟨⟨zs1, wz⟩, ez, el⟩ := bind_ok el
            obtain ⟨⟨zs2, wy⟩, ey, el⟩ := bind_ok el
            cases el
            refine ⟨ρ1, wt, S', Es3, ?_⟩
            rw [ei]
            intro J1 H4 src1 p4 it1 hsrc1
            have s4 := s3.go F0 p4
            have Es4 := Es3.go p4
            -- Dn is none of the names' own
            have fr1 : Free ρ1 σ2 Dn := fun j dd hj hσ => by
              obtain ⟨t1, t2⟩ := ty _ _ _ eb
              by_cases z : j ∈ ts
              · obtain ⟨_, z2⟩ := t2 j _ z hj
                cases z2
              · rw [t1 j z] at hj
                rw [bt.2 j z] at hσ
                exact fr j dd hj hσ
            have F1 : LcFx C H Dn S' (wipeE ρ (ownS own)) (wipeE ρ1 vs1) (wipe σ (ownS own)) (wipe σ2 vs1) := ⟨fr, free_wiped fr1, hS', h0, hw, hH⟩
            obtain ⟨acc4, ha4, hr4⟩ := s4.acc
            have s5 : LcSt C H Dn S' (wipeE ρ (ownS own)) (wipeE ρ1 vs1) (wipe σ (ownS own)) (wipe σ2 vs1) (src ++ src1) wi accD H4 := ⟨s4.eo, Es4.wiped hv2, s4.acc, s4.gr, fun v d m => (List.mem_append.mp m).elim (fun m => s4.src v d m) fun m => hsrc1 v d m⟩
            have fl1 : (accD ++ (zs1 ++ zs2)).length ≤ sizeLine := fl.1
            refine lc_inner (ts1 := ts1) F1 (fun z m => List.mem_append_right _ m) it1 hts1 s5 ⟨zs1, wz, ez, ?_, fun Hc s6 => ⟨by omega, wz, accD ++ zs1, ⟨s6.eo, s6.eo, s6.acc, s6.gr, fun v d m => s6.src v d (List.mem_append_left _ m)⟩, zs2, wy, ey, ?_, ?_⟩⟩
            · rw [List.length_append, List.length_append] at fl1
              rw [List.length_append]
              omega
            · rw [List.append_assoc]; exact fl1
            · rw [List.append_assoc]; exact fl.2)
theorem de_lc2 {elt tg iter tg1 iter1 : Expr} {ifs ifs1 : List Expr} {scope : Scope} {own : List (Str × Nat)} {vs1 : List Nat} {pos : Pos} {f fi : Ix} {b b1 : Gx} {tf tf1 : Tx} {ef : Ex} {ts ts1 : List Nat} (t : Tie X C) (hN : X.N.Nodup) (hv : C.pw = none ∨ C.pi ∉ ownS own) (hts : ∀ j ∈ ts, j ∈ ownS own) (hv1 : ∀ i ∈ vs1, i ∈ ownS own) (hts1 : ∀ j ∈ ts1, j ∈ vs1) (ty : Tidy b ts) (hv2 : C.pw = none ∨ C.pi ∉ vs1) (hi : DI X C W tg iter f) (ok : BlkOk X.N X.env.scope scope own)
    (hg : ∀ (s : Shared) (H : Hp) (A : Addr) (cl : List (Str × Addr)) (fp : List Addr), DG (X.blk s H scope (compEnvC scope cl A X.env) fp) C tg b ts) (ht : ∀ (s : Shared) (H : Hp) (A : Addr) (cl : List (Str × Addr)) (fp : List Addr), DPs (X.blk s H scope (compEnvC scope cl A X.env) fp) C W0 ifs tf)
    (hi1 : ∀ (s : Shared) (H : Hp) (A : Addr) (cl : List (Str × Addr)) (fp : List Addr), DI (X.blk s H scope (compEnvC scope cl A X.env) fp) C W0 tg1 iter1 fi)
    (hg1 : ∀ (s : Shared) (H : Hp) (A : Addr) (cl : List (Str × Addr)) (fp : List Addr), DG (X.blk s H scope (compEnvC scope cl A X.env) fp) C tg1 b1 ts1) (ht1 : ∀ (s : Shared) (H : Hp) (A : Addr) (cl : List (Str × Addr)) (fp : List Addr), DPs (X.blk s H scope (compEnvC scope cl A X.env) fp) C W0 ifs1 tf1)
    (he : ∀ (s : Shared) (H : Hp) (A : Addr) (cl : List (Str × Addr)) (fp : List Addr), DE (X.blk s H scope (compEnvC scope cl A X.env) fp) C W0 elt ef) (hs : ∀ x, foldedSetIterable iter X.env x = pure x := by intro _; rfl) (hs1 : ∀ env x, foldedSetIterable iter1 env x = pure x := by intro _ _; rfl) :
    DE X C W (.ListComp elt [⟨tg, iter, ifs, 0⟩, ⟨tg1, iter1, ifs1, 0⟩] scope pos) (eLc2 (ownS own) vs1 f b tf fi b1 tf1 ef) := by
  exact pe_imp (pe_lc2 t.calm hN hi ok hv1 hg ht hi1 hg1 ht1 he hs hs1) (go_lc2 hv hts hts1 ty hv2)
end
end DL
/-! ### enumerate(a tuple) -/
namespace DLE
open PySem PySem.Spec PySem.F
open Sem (wp)
theorem meets_enum1 {v : Value} {o : Obj} {H : Heap → Prop} (B : Begins v o H) :
    Meets (Builtin.«enumerate.__new__» ⟨[.type "enumerate", v], []⟩) (fun _ R s => H s.heap ∧
      R (.ok (.ret (.ref (s.heap.push o).objs.size))) { s with heap := (s.heap.push o).push { cls := .type "enumerate", data := .fields #[.none, .bool false, .ref s.heap.objs.size, rawInt 0, .none, .none] } }) :=
  .of_wp fun prog w A R s h => by
    obtain ⟨hp, gn, dr, tk, os⟩ := s; obtain ⟨h1, h⟩ := h
    have sub := sub_enumerate
    have go : ∀ {A' : Around} {E : Value → Shared → Prop} {Q : Value → Shared → Prop}, Q (.ref hp.objs.size) ⟨hp.push o, gn, dr, tk, os⟩ → wpAny (model prog w) A' (pyIter v) Q E ⟨hp, gn, dr, tk, os⟩ :=
      fun q => B.iter prog w _ _ ⟨hp, gn, dr, tk, os⟩ _ h1 q
    wp_walk using go
    refine wpAny_stack_any fun st => wpAny_pure ?_
    split
    · rename_i c _ _ _ _ _
      cases (c == Value.type "enumerate")
      · wp_walk using go
        exact ⟨_, rfl, h⟩
      · wp_walk using go
        exact ⟨_, rfl, h⟩
    · wp_walk using go
      exact ⟨_, rfl, h⟩
section
variable {prog : Program} {w : World} {A : Around} {E : Value → Shared → Prop} {s : Shared}
theorem call_enum1 {v : Value} {o : Obj} {H : Heap → Prop} {Q : Value → Shared → Prop} (B : Begins v o H) (h1 : H s.heap)
    (h : ∀ h', IsEnum h' (s.heap.objs.size + 1) s.heap.objs.size 0 .none → h'.get? s.heap.objs.size = some o → h'.objs.size = s.heap.objs.size + 2 →
      (∀ b q, s.heap.get? b = some q → h'.get? b = some q) → Q (.ref (s.heap.objs.size + 1)) { s with heap := h' }) :
    wpAny (model prog w) A (call (.type "enumerate") [v]) Q E s := by
  refine callType_new F.called_enumerate (by decide) (F.typeCall_enumerate_1 _) (F.newCall_enumerate_1 _) (fun obj => F.args_object_init_2 obj _) F.entry_enumerate_new (meets_enum1 B) ⟨h1, ?_⟩
  have sz : (s.heap.push o).objs.size = s.heap.objs.size + 1 := Heap.size_push ..
  show _ ∧ _
  rw [sz]
  have en : IsEnum ((s.heap.push o).push { cls := .type "enumerate", data := .fields #[.none, .bool false, .ref s.heap.objs.size, rawInt 0, .none, .none] }) (s.heap.objs.size + 1) s.heap.objs.size 0 .none := by
    have z := Heap.get?_push_size (s.heap.push o) (o := { cls := .type "enumerate", data := .fields #[.none, .bool false, .ref s.heap.objs.size, rawInt 0, .none, .none] }) rfl
    rw [sz] at z; exact z
  exact ⟨⟨_, en, rfl⟩, h _ en (Heap.get?_push_of_some _ (Heap.get?_push_size _ B.free)) (by rw [Heap.size_push, sz]) fun b q x => Heap.get?_push_of_some _ (Heap.get?_push_of_some _ x)⟩
end
end DLE
namespace DL
open PySem PySem.Spec PyProof.Rows L2
/-- the tuple at a, each item in a new pair -/
def IteT (K : PySem.W.Frag) (a : Addr) : It :=
  ⟨fun i H => ∃ (xs : List V) (x : V), SqT K H a xs ∧ xs[i]? = some x, fun i H v H' => ∃ T x, v = .ref T ∧ H T = none ∧ H' = upd H T (.tup [.int (i : Nat), x]) ∧ ∀ xs, SqT K H a xs → xs[i]? = some x, fun i H => ∃ xs : List V, SqT K H a xs ∧ xs.length ≤ i⟩
theorem turn_enumT {P : Program} {w : World} {K : PySem.W.Frag} {elts : List Expr} {kk : Nat} {tpos : Pos} (a e it : Addr) :
    Turn P w K (.Tuple elts kk tpos) (IteT K a) [e, it] e (fun i h => (∃ old, IsEnum h e it ((i : Nat) : Int) old) ∧ h.IsTupleIter it a i ∧ e ≠ it) where
  mem := by simp
  obj := fun i h st b hb => by
    obtain ⟨⟨old, he⟩, ⟨o, ho, hc, hd⟩, _⟩ := st
    have e' : b = e ∨ b = it := by simpa using hb
    rcases e' with rfl | rfl
    · exact ⟨_, he, fun v q => nomatch q⟩
    · exact ⟨o, ho, fun v q => by rw [hd] at q; cases q⟩
  keep := fun i h h' st k => let ⟨⟨old, he⟩, hi, hne⟩ := st; ⟨⟨old, k e (by simp) _ he⟩, hi.at fun o q => k it (by simp) o q, hne⟩
  item := by
    intro X hP hw hK hc i pins s σ H E I hf st hg
    subst hP hw hK
    obtain ⟨⟨old, he⟩, hit, hne⟩ := st
    obtain ⟨xs, x, hq, hx⟩ := hg
    obtain ⟨its, rv, p, hz⟩ := I.tuple hq
    obtain ⟨u, hu, ru⟩ := rv.get hx
    have hel : e < s.heap.objs.size := Heap.lt_size he
    have hil : it < s.heap.objs.size := by obtain ⟨_, q, _⟩ := hit; exact Heap.lt_size q
    have nai : a ≠ it := fun z => by
      obtain ⟨o1, h1, c1, d1⟩ := hit
      obtain ⟨o2, h2, c2, n2, d2⟩ := p
      rw [z, h1] at h2; cases h2
      rw [d1] at d2; cases d2
    have nea : e ≠ a := fun z => by
      obtain ⟨o2, h2, c2, n2, d2⟩ := p
      rw [← z, he] at h2; cases h2
      cases d2
    have Dr := Draws.tuple (prog := X.prog) (w := X.w) (A := X.A.in1) (I.ok.hd hc) it a nai its.toArray
    have hlt : i < its.toArray.size := by
      have := (List.getElem?_eq_some_iff.mp hu).1
      simpa using this
    refine wpAny_pyNext_enum_itemD Dr he ⟨hit, p⟩ hlt hne (fun z => by
      have e' : e = it ∨ e = a := by simpa using z
      exact e'.elim hne nea) fun x2 h' tk hx2 ho st' hT hsz hk => ?_
    obtain rfl : x2 = u := by
      have z : its.toArray[i]? = some x2 := hx2
      rw [List.getElem?_toArray, hu] at z
      exact (Option.some.inj z).symm
    refine ⟨_, rfl, wpAny_letOwnedTupleGo_enum (s := { s with heap := h', toks := tk + 1 }) ho fun h'' he' sb => ?_⟩
    have hT2 : h''.get? s.heap.objs.size = some { cls := .type "tuple", data := .seq #[.int i tk, x2] } := (sb.2 _ (Nat.ne_of_gt hel)).trans hT
    have new : ObjOk X.prog X.w (upd H s.heap.objs.size (.tup [.int (i : Nat), x])) h'' s.heap.objs.size (.tup [.int (i : Nat), x]) :=
      ⟨by show 2 ≤ sizeLine; decide, [.int i tk, x2], .cons ⟨_, rfl⟩ (.cons ru .nil), ⟨_, hT2, rfl, _, rfl⟩⟩
    have I1 : Inv X pins σ (upd H s.heap.objs.size (.tup [.int (i : Nat), x])) { s with heap := h'', toks := tk + 1 } :=
      I.turnedNew (ch := [e, it]) (fun b ob hb q => (sb.2 b (fun z => hb (by simp [z]))).trans (hk b ob (fun z => hb (by simp [z])) (fun z => hb (by simp [z])) q)) hf (Nat.le_refl _) new
    refine ⟨.ref s.heap.objs.size, _, I1, rfl, ⟨_, x, rfl, I.hok.fresh (Nat.le_refl _), rfl, fun ys hy => by rw [I.tuple_inj hy hq]; exact hx⟩, ⟨⟨x2, ?_⟩, st'.1.at fun o q => (sb.2 it (Ne.symm hne)).trans q, hne⟩, fun b hb => ?_⟩
    · have e1 : ((i + 1 : Nat) : Int) = (i : Int) + 1 := by omega
      rw [e1]; exact he'
    · have hb' : b < s.heap.objs.size := by
        have e' : b = e ∨ b = it := by simpa using hb
        rcases e' with rfl | rfl
        · exact hel
        · exact hil
      rw [upd_ne (Nat.ne_of_lt hb')]
      exact (hf b hb).1
  done := by
    intro X hP hw hK hc i pins s σ H E I hf st hg
    subst hP hw hK
    obtain ⟨⟨old, he⟩, hit, hne⟩ := st
    obtain ⟨xs, hq, hx⟩ := hg
    obtain ⟨its, rv, p, hz⟩ := I.tuple hq
    obtain ⟨f0, f1, f2, f3, f4, f5⟩ := hf it (by simp)
    have hlen := rv.length
    have none_ : its.toArray[i]? = Option.none := by
      rw [List.getElem?_toArray, List.getElem?_eq_none]
      omega
    have Dr : Draws X.prog X.w X.A.in1 it [it, a] i (fun _ _ => True) (fun j h => h.IsTupleIter it a j ∧ h.IsTuple a its.toArray ∧ j = i) := {
      live := fun _ _ st => let ⟨o, ho, _⟩ := st.1; ⟨o, ho⟩
      frame := fun _ _ _ st hk => ⟨st.1.at fun o e => hk it (by simp) o e, st.2.1.at fun o e => hk a (by simp) o e, st.2.2⟩
      item := fun j s' Q' E' hj st _ => absurd st.2.2 (Nat.ne_of_lt hj)
      done := fun s' Q' E' st hE => wpAny_nextOf_tuple_end (I.ok.hd hc) st.1 st.2.1 none_ hE }
    exact wpAny_pyNext_enum_endD Dr he ⟨hit, p, rfl⟩ fun h' eb => ⟨rfl, I.turned (t' := s.toks) (fun b o hb q => eb b o hb q) f0 f1 f3 f4 f5⟩
  self := fun A i s Q E st h => let ⟨⟨_, he⟩, _⟩ := st; wpAny_pyIter_enum he h
def iEnumT (K : PySem.W.Frag) (ta : TA) : TI := fun σ H R => ta σ H fun vs H1 => ∃ a xs, vs = [.ref a] ∧ SqT K H1 a xs ∧ R (IteT K a) H1
theorem pi_enumT {X : Cx} {e : Expr} {ta : TA} {p pos tpos : Pos} {elts : List Expr} {kk : Nat} (hg : Gl X "enumerate") (hm : X.mg "enumerate" = none) (ha : PA X [e] ta) (hs : starEach [e] X.env = [(false, eval e X.env)] := by rfl) :
    PI X (.Tuple elts kk tpos) (.Call (.Name "enumerate" p) [e] [] pos) (iEnumT X.K ta) := by
  refine ⟨fun pins s σ H R I h => ?_⟩
  refine Call_ (ld_blt I hg hm boot_enumerate (PyProof.Rows.callWith_type1 (thn (ha.run pos pins s σ H _ I h) fun us s1 ⟨vs, H1, I1, r1, q1⟩ => ?_) hs rfl))
  obtain ⟨a, xs, ex, hq, q⟩ := q1
  subst ex
  cases r1 with
  | cons r rr =>
    cases rr
    cases r
    obtain ⟨its, rv, p', hz⟩ := I1.tuple hq
    refine DLE.call_enum1 (begins_tuple a its.toArray) p' fun h' he hit hsz hk => wpAny_pyIter_enum he ?_
    have I2 : Inv X pins σ H1 { s1 with heap := h' } := I1.kept (t' := s1.toks) hk
    refine ⟨s1.heap.objs.size + 1, [s1.heap.objs.size + 1, s1.heap.objs.size], _, _, H1, rfl, I2, turn_enumT a (s1.heap.objs.size + 1) s1.heap.objs.size, ⟨⟨.none, he⟩, ⟨_, hit, rfl, rfl⟩, Nat.succ_ne_self _⟩, fun b hb => ?_, q⟩
    have e' : b = s1.heap.objs.size + 1 ∨ b = s1.heap.objs.size := by simpa using hb
    have hle : s1.heap.objs.size ≤ b := by rcases e' with rfl | rfl <;> omega
    exact I1.fpOk hle (I1.hok.fresh hle)
/-! ### as data -/
section
variable {X : Cx} {C : Cn} {W : WX} {pos : Pos}
/-- numbered things -/
def enumD (k : Nat) : List D → List D
  | [] => []
  | d :: ds => .tuple [.int k, d] :: enumD (k + 1) ds
theorem enumD_length : ∀ (k : Nat) (ds : List D), (enumD k ds).length = ds.length
  | _, [] => rfl
  | k, d :: ds => by unfold enumD; rw [List.length_cons, List.length_cons, enumD_length]
theorem enumD_get : ∀ (k : Nat) (ds : List D) (i : Nat) (d : D), ds[i]? = some d → (enumD k ds)[i]? = some (.tuple [.int ((k + i : Nat) : Int), d])
  | _, [], i, d, h => by simp at h
  | k, x :: ds, 0, d, h => by
    cases (Option.some.inj (by simpa using h) : x = d)
    unfold enumD
    simp
  | k, x :: ds, i + 1, d, h => by
    unfold enumD
    rw [List.getElem?_cons_succ, enumD_get (k + 1) ds i d (by simpa using h)]
    rw [show k + 1 + i = k + (i + 1) by omega]
theorem rp_pair {H : Hp} {S : Addr → Prop} {T : Addr} {x y : V} {d e : D} (hT : H T = none) (h1 : Rp C.P C.w C.K H S x d) (h2 : Rp C.P C.w C.K H S y e) : Ext H (upd H T (.tup [x, y])) ∧ Rp C.P C.w C.K (upd H T (.tup [x, y])) S (.ref T) (.tuple [d, e]) := by
  have ex := Ext.new (o := .tup [x, y]) hT
  exact ⟨ex, .tup (.inl (.inl upd_same)) (.cons (h1.mono ex.kept fun _ z => z) (.cons (h2.mono ex.kept fun _ z => z) .nil))⟩
theorem itD_enumL {a : Addr} {ds : List D} : ItD C (Ite C.K a) (enumD 0 ds) [(.ref a, .list ds)] := by
  intro S H sN hs _
  obtain ⟨a', vs, ea, rd, rps⟩ := Lt.list (C := C) (.inl (hs _ _ (List.mem_singleton.mpr rfl)))
  cases ea
  have hq : SqL C.K H a vs := .inl rd
  rw [enumD_length]
  refine ⟨fun i hi => ?_, fun i hi => ⟨vs, hq, by rw [rps.length]; exact hi⟩⟩
  obtain ⟨v, hv, rv⟩ := rps.getD (List.getElem?_eq_getElem hi)
  refine ⟨⟨vs, v, hq, hv⟩, fun x H' y => ?_⟩
  obtain ⟨T, z, rfl, hT, rfl, hz⟩ := y
  have e := hz vs hq
  rw [hv] at e
  cases e
  obtain ⟨ex, r⟩ := rp_pair (x := .int (i : Nat)) hT (.int _) rv
  exact ⟨ex, _, by rw [enumD_get 0 ds i _ (List.getElem?_eq_getElem hi), Nat.zero_add], r⟩
theorem itD_enumT {a : Addr} {ds : List D} : ItD C (IteT C.K a) (enumD 0 ds) [(.ref a, .tuple ds)] := by
  intro S H sN hs _
  obtain ⟨a', vs, ea, rd, rps⟩ := Lt.tuple (C := C) (.inl (hs _ _ (List.mem_singleton.mpr rfl)))
  cases ea
  rw [enumD_length]
  refine ⟨fun i hi => ?_, fun i hi => ⟨vs, rd, by rw [rps.length]; exact hi⟩⟩
  obtain ⟨v, hv, rv⟩ := rps.getD (List.getElem?_eq_getElem hi)
  refine ⟨⟨vs, v, rd, hv⟩, fun x H' y => ?_⟩
  obtain ⟨T, z, rfl, hT, rfl, hz⟩ := y
  have e := hz vs rd
  rw [hv] at e
  cases e
  obtain ⟨ex, r⟩ := rp_pair (x := .int (i : Nat)) hT (.int _) rv
  exact ⟨ex, _, by rw [enumD_get 0 ds i _ (List.getElem?_eq_getElem hi), Nat.zero_add], r⟩
def enR (rs : List RV) (w : List Int) : Res (List D × List Int) := match rs with
  | [.fz (.list ds)] => .ok (enumD 0 ds, w)
  | [.fz (.tuple ds)] => .ok (enumD 0 ds, w)
  | [.ow (.list ds)] => .ok (enumD 0 ds, w)
  | _ => .err
def iEn (f : Ax) : Ix := fun ρ w => (f ρ w).bind fun p => enR p.1 p.2
theorem di_enum {elts : List Expr} {kk : Nat} {tpos p : Pos} {e : Expr} {f : Ax} (t : Tie X C) (hg : Gl X "enumerate") (hm : X.mg "enumerate" = none) (ha : DA X C W [e] f) (hs : starEach [e] X.env = [(false, eval e X.env)] := by rfl) : DI X C W (.Tuple elts kk tpos) (.Call (.Name "enumerate" p) [e] [] pos) (iEn f) := by
  have pl := pi_enum (pos := pos) (p := p) (elts := elts) (kk := kk) (tpos := tpos) hg hm ha hs
  have pt := pi_enumT (pos := pos) (p := p) (elts := elts) (kk := kk) (tpos := tpos) hg hm ha hs
  refine ⟨fun pins s σ H R I hq => ?_⟩
  obtain ⟨ρ, w, S, E, q⟩ := hq
  unfold iEn at q
  replace q := q.bind
  cases e1 : f ρ w with
  | err => rw [e1] at q; exact q.elim
  | exc c d =>
    rw [e1] at q
    exact pl.run pins s σ H R I (aT_of E E.rf (by rw [e1]; exact q))
  | ok z =>
    obtain ⟨rs, w1⟩ := z
    rw [e1] at q
    replace q : Good C W σ H (enR rs w1) fun p => ∀ J H' src, Pst C H H' p.2 → ItD C J p.1 src → (∀ v d, (v, d) ∈ src → Rp C.P C.w C.K H' S v d) → R J H' := q
    unfold enR at q
    split at q
    · rename_i ds
      refine pl.run pins s σ H R I (aT_of E E.rf (by
        rw [e1]
        intro vs H1 p1 r1
        cases r1 with
        | cons h rest =>
          cases rest
          have rr : Rp C.P C.w C.K H1 S _ (.list ds) := h
          obtain ⟨a, vs, rfl, ra, pa⟩ := Lt.list (C := C) (.inl rr)
          refine ⟨a, vs, rfl, .inl ra, ?_⟩
          rw [← t.K]
          exact q _ H1 _ p1 itD_enumL fun v d m => by cases List.mem_singleton.mp m; exact rr))
    · rename_i ds
      refine pt.run pins s σ H R I (aT_of E E.rf (by
        rw [e1]
        intro vs H1 p1 r1
        cases r1 with
        | cons h rest =>
          cases rest
          have rr : Rp C.P C.w C.K H1 S _ (.tuple ds) := h
          obtain ⟨a, vs, rfl, ra, pa⟩ := Lt.tuple (C := C) (.inl rr)
          refine ⟨a, vs, rfl, by rw [← t.K]; exact ra, ?_⟩
          rw [← t.K]
          exact q _ H1 _ p1 itD_enumT fun v d m => by cases List.mem_singleton.mp m; exact rr))
    · rename_i ds
      refine pl.run pins s σ H R I (aT_of E E.rf (by
        rw [e1]
        intro vs H1 p1 r1
        cases r1 with
        | cons h rest =>
          cases rest
          have rr := h.rp E fun _ z => nomatch z
          obtain ⟨a, vs, rfl, ra, pa⟩ := Lt.list (C := C) (.inl rr)
          refine ⟨a, vs, rfl, .inl ra, ?_⟩
          rw [← t.K]
          exact q _ H1 _ p1 itD_enumL fun v d m => by cases List.mem_singleton.mp m; exact rr))
    · exact q.elim
/-! zip of two lists, of two tuples -/
def zipD : List D → List D → List D
  | x :: xs, y :: ys => .tuple [x, y] :: zipD xs ys
  | _, _ => []
theorem zipD_length : ∀ (xs ys : List D), (zipD xs ys).length = min xs.length ys.length
  | [], ys => by unfold zipD; simp
  | _ :: _, [] => by unfold zipD; simp
  | x :: xs, y :: ys => by unfold zipD; rw [List.length_cons, zipD_length, List.length_cons, List.length_cons]; omega
theorem zipD_get : ∀ (xs ys : List D) (i : Nat) (x y : D), xs[i]? = some x → ys[i]? = some y → (zipD xs ys)[i]? = some (.tuple [x, y])
  | [], _, i, x, y, h, _ => by simp at h
  | _ :: _, [], i, x, y, _, h => by simp at h
  | a :: xs, b :: ys, 0, x, y, h, h' => by
    cases (Option.some.inj (by simpa using h) : a = x)
    cases (Option.some.inj (by simpa using h') : b = y)
    unfold zipD; simp
  | a :: xs, b :: ys, i + 1, x, y, h, h' => by
    unfold zipD
    rw [List.getElem?_cons_succ]
    exact zipD_get xs ys i x y (by simpa using h) (by simpa using h')
theorem itD_zipL {a b : Addr} {ds es : List D} : ItD C (Itz C.K a b) (zipD ds es) [(.ref a, .list ds), (.ref b, .list es)] := by
  intro S H sN hs _
  obtain ⟨a', vs, ea, rd, rps⟩ := Lt.list (C := C) (.inl (hs (.ref a) (.list ds) (by simp)))
  obtain ⟨b', us, eb, rd', rps'⟩ := Lt.list (C := C) (.inl (hs (.ref b) (.list es) (by simp)))
  cases ea
  cases eb
  have hq : SqL C.K H a vs := .inl rd
  have hq' : SqL C.K H b us := .inl rd'
  have l1 := rps.length
  have l2 := rps'.length
  rw [zipD_length]
  refine ⟨fun i hi => ?_, fun i hi => ⟨vs, us, hq, hq', by omega⟩⟩
  obtain ⟨v, hv, rv⟩ := rps.getD (List.getElem?_eq_getElem (show i < ds.length by omega))
  obtain ⟨u, hu, ru⟩ := rps'.getD (List.getElem?_eq_getElem (show i < es.length by omega))
  refine ⟨⟨vs, us, v, u, hq, hq', hv, hu⟩, fun x H' y => ?_⟩
  obtain ⟨T, z1, z2, rfl, hT, rfl, h1, h2⟩ := y
  have e1 := h1 vs hq
  have e2 := h2 us hq'
  rw [hv] at e1
  rw [hu] at e2
  cases e1
  cases e2
  obtain ⟨ex, r⟩ := rp_pair hT rv ru
  exact ⟨ex, _, zipD_get _ _ i _ _ (List.getElem?_eq_getElem (by omega)) (List.getElem?_eq_getElem (by omega)), r⟩
theorem itD_zipT {a b : Addr} {ds es : List D} : ItD C (RZ.ItzT C.K a b) (zipD ds es) [(.ref a, .tuple ds), (.ref b, .tuple es)] := by
  intro S H sN hs _
  obtain ⟨a', vs, ea, hq, rps⟩ := Lt.tuple (C := C) (.inl (hs (.ref a) (.tuple ds) (by simp)))
  obtain ⟨b', us, eb, hq', rps'⟩ := Lt.tuple (C := C) (.inl (hs (.ref b) (.tuple es) (by simp)))
  cases ea
  cases eb
  have l1 := rps.length
  have l2 := rps'.length
  rw [zipD_length]
  refine ⟨fun i hi => ?_, fun i hi => ⟨vs, us, hq, hq', by omega⟩⟩
  obtain ⟨v, hv, rv⟩ := rps.getD (List.getElem?_eq_getElem (show i < ds.length by omega))
  obtain ⟨u, hu, ru⟩ := rps'.getD (List.getElem?_eq_getElem (show i < es.length by omega))
  refine ⟨⟨vs, us, v, u, hq, hq', hv, hu⟩, fun x H' y => ?_⟩
  obtain ⟨T, z1, z2, rfl, hT, rfl, h1, h2⟩ := y
  have e1 := h1 vs hq
  have e2 := h2 us hq'
  rw [hv] at e1
  rw [hu] at e2
  cases e1
  cases e2
  obtain ⟨ex, r⟩ := rp_pair hT rv ru
  exact ⟨ex, _, zipD_get _ _ i _ _ (List.getElem?_eq_getElem (by omega)) (List.getElem?_eq_getElem (by omega)), r⟩
def zpR (rs : List RV) (w : List Int) : Res (List D × List Int) := match noBw rs, rs.map RV.d with
  | true, [.list ds, .list es] => .ok (zipD ds es, w)
  | true, [.tuple ds, .tuple es] => .ok (zipD ds es, w)
  | _, _ => .err
def iZp (f : Ax) : Ix := fun ρ w => (f ρ w).bind fun p => zpR p.1 p.2
theorem di_zip {elts : List Expr} {kk : Nat} {tpos p : Pos} {e e2 : Expr} {f : Ax} (t : Tie X C) (hg : Gl X "zip") (hm : X.mg "zip" = none) (ha : DA X C W [e, e2] f) (hs : starEach [e, e2] X.env = (false, eval e X.env) :: starEach [e2] X.env := by rfl) (hpl : (backTo pos (starEach [e2] X.env)).any (·.1) = false := by rfl) : DI X C W (.Tuple elts kk tpos) (.Call (.Name "zip" p) [e, e2] [] pos) (iZp f) := by
  refine pi_imp (RZ.pi_zipA (pos := pos) (p := p) (elts := elts) (kk := kk) (tpos := tpos) hg hm ha hs hpl) fun σ H R hq => ?_
  obtain ⟨ρ, w, S, E, q⟩ := hq
  unfold iZp at q
  refine aT_of E E.rf (q.bind.imp fun p hp vs H1 p1 r1 => ?_)
  obtain ⟨rs, w1⟩ := p
  have hp : Good C W σ H (zpR rs w1) fun p => ∀ J H' src, Pst C H H' p.2 → ItD C J p.1 src → (∀ v d, (v, d) ∈ src → Rp C.P C.w C.K H' S v d) → R J H' := hp
  unfold zpR at hp
  split at hp
  · rename_i ds es nb eds
    have rp := r1.rps E nb
    rw [eds] at rp
    cases rp with
    | cons ra rest =>
      cases rest with
      | cons rb rest =>
        cases rest
        obtain ⟨a, xs, rfl, h1, _⟩ := Lt.list (C := C) (.inl ra)
        obtain ⟨b, ys, rfl, h2, _⟩ := Lt.list (C := C) (.inl rb)
        refine ⟨a, b, xs, ys, rfl, .inl ⟨.inl h1, .inl h2, ?_⟩⟩
        rw [← t.K]
        exact hp _ H1 _ p1 itD_zipL fun v d m => by
          rcases List.mem_cons.mp m with z | z
          · cases z; exact ra
          · cases List.mem_singleton.mp z; exact rb
  · rename_i ds es nb eds
    have rp := r1.rps E nb
    rw [eds] at rp
    cases rp with
    | cons ra rest =>
      cases rest with
      | cons rb rest =>
        cases rest
        obtain ⟨a, xs, rfl, h1, _⟩ := Lt.tuple (C := C) (.inl ra)
        obtain ⟨b, ys, rfl, h2, _⟩ := Lt.tuple (C := C) (.inl rb)
        refine ⟨a, b, xs, ys, rfl, .inr ⟨by rw [← t.K]; exact h1, by rw [← t.K]; exact h2, ?_⟩⟩
        rw [← t.K]
        exact hp _ H1 _ p1 itD_zipT fun v d m => by
          rcases List.mem_cons.mp m with z | z
          · cases z; exact ra
          · cases List.mem_singleton.mp z; exact rb
  · exact hp.elim
end
end DL
namespace DL
open PySem PySem.Spec PyProof.Rows L2
/-! ### keys -/
mutual
def asKey : D → Option NestedKey
  | .none => some .none
  | .int i => some (.num i)
  | .str x => some (.text x)
  | .tuple ds => (asKeys ds).map .tup
  | _ => none
def asKeys : List D → Option (List NestedKey)
  | [] => some []
  | d :: ds => (asKey d).bind fun k => (asKeys ds).map (k :: ·)
end
mutual
theorem asKey_keyD : ∀ k : NestedKey, asKey (keyD k) = some k
  | .none => by unfold keyD asKey; rfl
  | .num i => by unfold keyD asKey; rfl
  | .text x => by unfold keyD asKey; rfl
  | .tup ks => by unfold keyD asKey; rw [asKeys_keyDs ks]; rfl
theorem asKeys_keyDs : ∀ ks : List NestedKey, asKeys (keyDs ks) = some ks
  | [] => by unfold keyDs asKeys; rfl
  | k :: ks => by unfold keyDs asKeys; rw [asKey_keyD k, asKeys_keyDs ks]; rfl
end
mutual
theorem keyD_asKey : ∀ (d : D) (k : NestedKey), asKey d = some k → keyD k = d
  | .none, k, h => by unfold asKey at h; cases h; rfl
  | .int i, k, h => by unfold asKey at h; cases h; rfl
  | .str x, k, h => by unfold asKey at h; cases h; rfl
  | .tuple ds, k, h => by
    unfold asKey at h
    obtain ⟨ks, e, rfl⟩ := Option.map_eq_some_iff.mp h
    unfold keyD
    rw [keyDs_asKeys ds ks e]
  | .bool _, k, h => by unfold asKey at h; cases h
  | .list _, k, h => by unfold asKey at h; cases h
  | .dict _, k, h => by unfold asKey at h; cases h
theorem keyDs_asKeys : ∀ (ds : List D) (ks : List NestedKey), asKeys ds = some ks → keyDs ks = ds
  | [], ks, h => by unfold asKeys at h; cases h; rfl
  | d :: ds, ks, h => by
    unfold asKeys at h
    obtain ⟨k, e1, h⟩ := Option.bind_eq_some_iff.mp h
    obtain ⟨ks', e2, rfl⟩ := Option.map_eq_some_iff.mp h
    unfold keyDs
    rw [keyD_asKey d k e1, keyDs_asKeys ds ks' e2]
end
theorem keyD_inj {a b : NestedKey} (h : keyD a = keyD b) : a = b := by
  have := asKey_keyD a
  rw [h, asKey_keyD b] at this
  exact (Option.some.inj this).symm
mutual
theorem keyD_flat : ∀ k : NestedKey, flatD (keyD k) = true
  | .none => rfl
  | .num _ => rfl
  | .text _ => rfl
  | .tup ks => by unfold keyD flatD; exact keyDs_flat ks
theorem keyDs_flat : ∀ ks : List NestedKey, flatDs (keyDs ks) = true
  | [] => rfl
  | k :: ks => by unfold keyDs flatDs; rw [keyD_flat k, keyDs_flat ks]; rfl
end
mutual
theorem nested_reads {h : Heap} : ∀ (k : NestedKey) (u : Value) (as : List Addr), Reads h u (keyD k) as → NestedIs h k u
  | .none, u, as, r => by unfold keyD at r; cases r; exact .none
  | .num i, u, as, r => by unfold keyD at r; cases r; exact .int _ _
  | .text x, u, as, r => by unfold keyD at r; cases r; exact .text _ _
  | .tup ks, u, as, r => by
    unfold keyD at r
    cases r with
    | tuple h1 h2 h3 h4 => exact .tup h1 h2 h3 (nested_readsAll ks _ _ h4)
theorem nested_readsAll {h : Heap} : ∀ (ks : List NestedKey) (us : List Value) (as : List Addr), ReadsAll h us (keyDs ks) as → NestedAll h ks us
  | [], us, as, r => by unfold keyDs at r; cases r; exact .nil
  | k :: ks, us, as, r => by
    unfold keyDs at r
    cases r with
    | cons h1 h2 => exact .cons (nested_reads k _ _ h1) (nested_readsAll ks _ _ h2)
end
/-! ### what stands under a key -/
def kget (kvs : List (D × D)) (k : NestedKey) : Option D := (kvs.find? fun p => decide (asKey p.1 = some k)).map fun p => p.2
def kput (kvs : List (D × D)) (k : NestedKey) (v : D) : List (D × D) := if (kget kvs k).isSome then kvs.map fun p => if asKey p.1 = some k then (p.1, v) else p else kvs ++ [(keyD k, v)]
def kgetX (xs : List (NestedKey × Addr × V)) (k : NestedKey) : Option V := (xs.find? fun x => decide (x.1 = k)).map fun x => x.2.2
section
variable {P : Program} {w : World} {K : PySem.W.Frag} {H : Hp} {S : Addr → Prop}
theorem rpk_get {k : NestedKey} : ∀ {xs : List (NestedKey × Addr × V)} {kvs : List (D × D)}, Rpk P w K H S xs kvs → (kget kvs k = none ∧ kgetX xs k = none) ∨ ∃ d v, kget kvs k = some d ∧ kgetX xs k = some v ∧ Rp P w K H S v d
  | _, _, .nil => .inl ⟨rfl, rfl⟩
  | _, _, .cons (k := k') (b := b) (v := v) (xs := xs) (d := d) (kvs := kvs) h1 h2 h3 r => by
    by_cases e : k' = k
    · subst e
      refine .inr ⟨d, v, ?_, ?_, h3⟩
      · unfold kget
        rw [List.find?_cons_of_pos (by simp [asKey_keyD])]
        rfl
      · unfold kgetX
        rw [List.find?_cons_of_pos (by simp)]
        rfl
    · have n1 : kget ((keyD k', d) :: kvs) k = kget kvs k := by
        unfold kget
        rw [List.find?_cons_of_neg (by simp [asKey_keyD, e])]
      have n2 : kgetX ((k', b, v) :: xs) k = kgetX xs k := by
        unfold kgetX
        rw [List.find?_cons_of_neg (by simp [e])]
      rw [n1, n2]
      exact rpk_get r
theorem rpk_length : ∀ {xs : List (NestedKey × Addr × V)} {kvs : List (D × D)}, Rpk P w K H S xs kvs → xs.length = kvs.length
  | _, _, .nil => rfl
  | _, _, .cons _ _ _ r => by rw [List.length_cons, List.length_cons, rpk_length r]
end
/-- at the heap: the keys as values -/
abbrev PrR : NestedKey × Addr × V → NestedKey × Addr × Value → Prop := fun x y => x.1 = y.1 ∧ x.2.1 = y.2.1 ∧ RelV x.2.2 y.2.2
theorem pr_get {k : NestedKey} : ∀ {xs : List (NestedKey × Addr × V)} {ys : List (NestedKey × Addr × Value)}, Paired PrR xs ys → (kgetX xs k = none ∧ atKey ys k = none) ∨ ∃ v u p, kgetX xs k = some v ∧ atKey ys k = some p ∧ p.2 = u ∧ RelV v u
  | _, _, .nil => .inl ⟨rfl, rfl⟩
  | _, _, .cons (a := x) (b := y) (l₁ := xs) (l₂ := ys) ⟨h1, h2, h3⟩ r => by
    obtain ⟨k1, b1, v1⟩ := x
    obtain ⟨k2, b2, u2⟩ := y
    dsimp only at h1 h2 h3
    subst h1 h2
    by_cases e : k1 = k
    · refine .inr ⟨v1, u2, (b1, u2), ?_, ?_, rfl, h3⟩
      · unfold kgetX; rw [List.find?_cons_of_pos (by simp [e])]; rfl
      · unfold atKey; rw [List.find?_cons_of_pos (by simp [e])]; rfl
    · have n1 : kgetX ((k1, b1, v1) :: xs) k = kgetX xs k := by
        unfold kgetX
        rw [List.find?_cons_of_neg (by simp [e])]
      have n2 : atKey ((k1, b1, u2) :: ys) k = atKey ys k := by
        unfold atKey
        rw [List.find?_cons_of_neg (by simp [e])]
      rw [n1, n2]
      exact pr_get r
section
variable {X : Cx} {C : Cn} {pins : List (Addr × Obj)} {σ : L2.St} {H : Hp} {s : Shared} {S : Addr → Prop}
/-- a key at the heap -/
theorem key_at (t : Tie X C) (I : Inv X pins σ H s) {v : V} {u : Value} {k : NestedKey} (l : Lt C H S v (keyD k)) (r : RelV v u) (hd : k.depth ≤ 8) {a : Addr} (e : u = .ref a) : (nestedKind C.P C.w).is s.heap k a := by
  obtain ⟨as, rd⟩ := l.reads t I (keyD_flat k) r
  subst e
  exact ⟨nested_reads k _ _ rd, hd⟩
/-- a dict at the heap -/
theorem dict_at (t : Tie X C) (I : Inv X pins σ H s) {a : Addr} {xs : List (NestedKey × Addr × V)} {kvs : List (D × D)} (h : Rd H a (DN C.P C.w a xs)) (r : Rpk C.P C.w C.K H S xs kvs) :
    ∃ ys, Paired PrR xs ys ∧ s.heap.DictOfH (nestedKind C.P C.w) a ys ∧ (a == sysModules) = false ∧ xs.length ≤ sizeLine := by
  have ok := h.ok I.hok
  obtain ⟨o, es, ep, ys, h1, h2, h3, h4, h5, h6, h7, h8⟩ := ok.1
  refine ⟨ys, h5, ⟨o, es, ep, h1, h2, h3, h4, ?_, ?_⟩, h7, h8⟩
  · clear h4 h6 h8 h ok
    induction h5 generalizing kvs with
    | nil => intro x hx; cases hx
    | cons hp hr ih =>
      cases r with
      | cons g1 g2 g3 g4 =>
        intro x hx
        rcases List.mem_cons.mp hx with rfl | hx
        · obtain ⟨e1, e2, _⟩ := hp
          rw [← e1, ← e2]
          exact key_at (S := S) t I (.inl g1) rfl g2 rfl
        · exact ih g4 x hx
  · rw [← show xs.map (·.1) = ys.map (·.1) from ?_]
    · exact h6
    · clear h4 h6 h8 h r ok
      induction h5 with
      | nil => rfl
      | cons hp hr ih => rw [List.map_cons, List.map_cons, hp.1, ih]
theorem key_ref {v : V} {k : NestedKey} {H : Hp} {S : Addr → Prop} (l : Lt C H S v (keyD k)) (ht : ∃ ks, k = .tup ks) : ∃ b, v = .ref b := by
  obtain ⟨ks, rfl⟩ := ht
  unfold keyD at l
  obtain ⟨b, _, e, _⟩ := l.tuple
  exact ⟨b, e⟩
/-- a key that may stand in a dict -/
def dKey (d : D) : Option NestedKey := match asKey d with
  | some (.tup ks) => if NestedKey.depth (.tup ks) ≤ 8 then some (.tup ks) else none
  | _ => none
theorem dKey_some {d : D} {k : NestedKey} (h : dKey d = some k) : keyD k = d ∧ k.depth ≤ 8 ∧ ∃ ks, k = .tup ks := by
  unfold dKey at h
  split at h
  · rename_i ks e
    split at h
    · rename_i hd
      cases h
      exact ⟨keyD_asKey _ _ e, hd, _, rfl⟩
    · cases h
  · cases h
/-! ### d[k], k in d -/
def fIxA (d e : D) : Option RV := match d with
  | .dict kvs => ((dKey e).bind fun k => kget kvs k).map .fz
  | d => fIx d e
theorem ixA (t : Tie X C) : IxR X (op2 C fIxA) := by
  intro value slice pins s σ H x y v u Q I rx ry q hs
  by_cases hd : ∃ S d e, (∀ a, H a = none → S a) ∧ Lt C H S x d ∧ Lt C H S y e ∧ opQ C S (fIxA d e) H Q ∧ ∃ kvs, d = .dict kvs
  · clear q
    obtain ⟨S, d, e, sN, l1, l2, q, kvs, rfl⟩ := hd
    obtain ⟨a, xs, rfl, ra, rk⟩ := l1.dict
    replace q : opQ C S (((dKey e).bind fun k => kget kvs k).map .fz) H Q := q
    cases hk : dKey e with
    | none => rw [hk] at q; exact q.elim
    | some k =>
      rw [hk] at q
      replace q : opQ C S ((kget kvs k).map .fz) H Q := q
      obtain ⟨e1, dep, tp⟩ := dKey_some hk
      subst e1
      obtain ⟨b, rfl⟩ := key_ref l2 tp
      obtain rfl : v = Value.ref a := rx
      obtain rfl : u = Value.ref b := ry
      obtain ⟨ys, pr, dd, sm, _⟩ := dict_at t I ra rk
      rcases rpk_get (k := k) rk with ⟨g1, g2⟩ | ⟨dv, vv, g1, g2, g3⟩
      · rw [g1] at q; exact q.elim
      · rw [g1] at q
        rcases pr_get (k := k) pr with ⟨p1, _⟩ | ⟨v2, u2, p, p1, p2, p3, p4⟩
        · rw [p1] at g2; cases g2
        · rw [p1] at g2
          cases g2
          have room := t.room
          unfold subscriptTail
          refine wpAny_bind ?_
          rw [getitemInPython_of_ne dd.typeIs.not_modules]
          refine wpAny_bind (wpAny_specialOf dd.typeIs PySem.F.slot_dict_getitem.lookup ?_)
          have fin : wpAny (model X.prog X.w) X.A (subscripted slice false (.ref a) (.ref b)) (fun r s3 => wpAny (model X.prog X.w) X.A (letTemporaryGo value (.ref a) r >>= fun _ => pure r) (EP X pins σ Q) X.xe s3) X.xe s := by
            rw [hs]
            refine wpAny_operating ?_
            have kk := key_at t I l2 rfl dep rfl
            rw [t.P, t.w] at kk dd
            refine wpAny_getItem_heap (knd := nestedKind X.prog X.w) (show X.A.in1.units + 8 < cLine by show X.A.units + 1 + 8 < cLine; omega) kk dd p2 ?_
            refine wpAny_bind (wpAny_letTemporaryGo (wpAny_pure ⟨vv, H, I.tok _, by rw [p3]; exact p4, q vv H .refl g3⟩))
          first
            | exact wpAny_pure (wpAny_bind fin)
            | exact wpAny_bind (wpAny_pure (wpAny_bind fin))
            | exact wpAny_bind fin
  · refine ix' t value slice pins s σ H x y v u Q I rx ry ?_ hs
    obtain ⟨S, d, e, sN, l1, l2, q⟩ := q
    refine ⟨S, d, e, sN, l1, l2, ?_⟩
    cases d with
    | dict kvs => exact absurd ⟨S, _, e, sN, l1, l2, q, kvs, rfl⟩ hd
    | _ => exact q
def fInA (d e : D) : Option RV := match e with
  | .dict kvs => (dKey d).map fun k => .fz (.bool (kget kvs k).isSome)
  | e => fIn d e
def fNotInA (d e : D) : Option RV := match e with
  | .dict kvs => (dKey d).map fun k => .fz (.bool (!(kget kvs k).isSome))
  | e => fNotIn d e
theorem some_iff (t : Tie X C) {a : Addr} {xs : List (NestedKey × Addr × V)} {kvs : List (D × D)} {ys : List (NestedKey × Addr × Value)} {k : NestedKey} (rk : Rpk C.P C.w C.K H S xs kvs) (pr : Paired PrR xs ys) : (atKey ys k).isSome = (kget kvs k).isSome := by
  rcases rpk_get (k := k) rk with ⟨g1, g2⟩ | ⟨dv, vv, g1, g2, g3⟩
  · rcases pr_get (k := k) pr with ⟨_, p2⟩ | ⟨v2, u2, p, p1, _⟩
    · rw [g1, p2]; rfl
    · rw [p1] at g2; cases g2
  · rcases pr_get (k := k) pr with ⟨p1, _⟩ | ⟨v2, u2, p, _, p2, _⟩
    · rw [p1] at g2; cases g2
    · rw [g1, p2]; rfl
theorem op_inA (t : Tie X C) : OpR X (compareOp .In) (op2 C fInA) := by
  intro pins s σ H x y v u Q I rx ry q
  obtain ⟨S, d, e, sN, l1, l2, q⟩ := q
  cases e with
  | dict kvs =>
    obtain ⟨a, xs, rfl, ra, rk⟩ := l2.dict
    replace q : opQ C S ((dKey d).map fun k => RV.fz (.bool (kget kvs k).isSome)) H Q := q
    cases hk : dKey d with
    | none => rw [hk] at q; exact q.elim
    | some k =>
      rw [hk] at q
      obtain ⟨e1, dep, tp⟩ := dKey_some hk
      subst e1
      obtain ⟨b, rfl⟩ := key_ref l1 tp
      obtain rfl : u = Value.ref a := ry
      obtain rfl : v = Value.ref b := rx
      obtain ⟨ys, pr, dd, sm, _⟩ := dict_at t I ra rk
      have room := t.room
      have kk := key_at t I l1 rfl dep rfl
      rw [t.P, t.w] at kk dd
      refine wpAny_in_heap (knd := nestedKind X.prog X.w) (show X.A.in1.units + 8 < cLine by show X.A.units + 1 + 8 < cLine; omega) kk sm dd ?_
      rw [some_iff (S := S) t rk pr (a := a)]
      exact ⟨.bl _, H, I.tok _, rfl, opQ_val q rfl fun _ _ _ _ _ => .bl _⟩
  | _ => exact op_in' t pins s σ H x y v u Q I rx ry ⟨S, d, _, sN, l1, l2, q⟩
theorem op_notInA (t : Tie X C) : OpR X (compareOp .NotIn) (op2 C fNotInA) := by
  intro pins s σ H x y v u Q I rx ry q
  obtain ⟨S, d, e, sN, l1, l2, q⟩ := q
  cases e with
  | dict kvs =>
    obtain ⟨a, xs, rfl, ra, rk⟩ := l2.dict
    replace q : opQ C S ((dKey d).map fun k => RV.fz (.bool (!(kget kvs k).isSome))) H Q := q
    cases hk : dKey d with
    | none => rw [hk] at q; exact q.elim
    | some k =>
      rw [hk] at q
      obtain ⟨e1, dep, tp⟩ := dKey_some hk
      subst e1
      obtain ⟨b, rfl⟩ := key_ref l1 tp
      obtain rfl : u = Value.ref a := ry
      obtain rfl : v = Value.ref b := rx
      obtain ⟨ys, pr, dd, sm, _⟩ := dict_at t I ra rk
      have room := t.room
      have kk := key_at t I l1 rfl dep rfl
      rw [t.P, t.w] at kk dd
      refine wpAny_notIn_heap (knd := nestedKind X.prog X.w) (show X.A.in1.units + 8 < cLine by show X.A.units + 1 + 8 < cLine; omega) kk sm dd ?_
      rw [some_iff (S := S) t rk pr (a := a)]
      exact ⟨.bl _, H, I.tok _, rfl, opQ_val q rfl fun _ _ _ _ _ => .bl _⟩
  | _ => exact op_notIn' t pins s σ H x y v u Q I rx ry ⟨S, d, _, sN, l1, l2, q⟩
end
end DL
namespace DL
open PySem PySem.Spec PyProof.Rows L2
/-! ### d[k] = v -/
def kputX (xs : List (NestedKey × Addr × V)) (k : NestedKey) (b : Addr) (v : V) : List (NestedKey × Addr × V) := if (kgetX xs k).isSome then xs.map fun x => if x.1 = k then (x.1, x.2.1, v) else x else xs ++ [(k, b, v)]
theorem kputX_len (xs : List (NestedKey × Addr × V)) (k : NestedKey) (b : Addr) (v : V) : (kputX xs k b v).length ≤ xs.length + 1 := by
  unfold kputX
  split
  · rw [List.length_map]; omega
  · rw [List.length_append, List.length_singleton]; omega
theorem kput_len (kvs : List (D × D)) (k : NestedKey) (v : D) : (kput kvs k v).length ≤ kvs.length + 1 := by
  unfold kput
  split
  · rw [List.length_map]; omega
  · rw [List.length_append, List.length_singleton]; omega
theorem pr_append {xs xs' : List (NestedKey × Addr × V)} {ys ys' : List (NestedKey × Addr × Value)} (a : Paired PrR xs ys) (b : Paired PrR xs' ys') : Paired PrR (xs ++ xs') (ys ++ ys') := by
  induction a with
  | nil => exact b
  | cons h r ih => exact .cons h ih
theorem pr_put {k : NestedKey} {b : Addr} {v : V} {u : Value} {xs : List (NestedKey × Addr × V)} {ys : List (NestedKey × Addr × Value)} (r : Paired PrR xs ys) (rv : RelV v u) : Paired PrR (kputX xs k b v) (storedH ys k b u) := by
  unfold kputX storedH
  have e : (atKey ys k).isSome = (kgetX xs k).isSome := by
    rcases pr_get (k := k) r with ⟨h1, h2⟩ | ⟨_, _, _, h1, h2, _⟩ <;> rw [h1, h2] <;> rfl
  rw [e]
  split
  · rename_i z
    clear e z
    induction r with
    | nil => exact .nil
    | cons h r ih =>
      rw [List.map_cons, List.map_cons]
      refine .cons ?_ ih
      obtain ⟨h1, h2, h3⟩ := h
      unfold putAt
      rw [← h1]
      split
      · exact ⟨rfl, h2, rv⟩
      · exact ⟨h1, h2, h3⟩
  · exact pr_append r (.cons ⟨rfl, rfl, rv⟩ .nil)
theorem keys_put {k : NestedKey} {b : Addr} {v : V} {xs : List (NestedKey × Addr × V)} (h : (xs.map (·.1)).Nodup) : ((kputX xs k b v).map (·.1)).Nodup := by
  unfold kputX
  split
  · rw [List.map_map]
    have : ((fun x : NestedKey × Addr × V => x.1) ∘ fun x => if x.1 = k then (x.1, x.2.1, v) else x) = fun x => x.1 := by
      funext x
      show (if x.1 = k then (x.1, x.2.1, v) else x).1 = x.1
      split <;> rfl
    rw [this]
    exact h
  · rename_i n
    rw [List.map_append, List.map_cons, List.map_nil, List.nodup_append]
    refine ⟨h, by simp, fun a ha c hc e => ?_⟩
    have hc := List.mem_singleton.mp hc
    subst hc
    subst e
    obtain ⟨x, hx, ex⟩ := List.mem_map.mp ha
    refine n ?_
    unfold kgetX
    rw [Option.isSome_map, List.find?_isSome]
    exact ⟨x, hx, by simpa using ex⟩
theorem rpk_append {P : Program} {w : World} {K : PySem.W.Frag} {H : Hp} {S : Addr → Prop} : ∀ {xs xs' : List (NestedKey × Addr × V)} {kvs kvs' : List (D × D)}, Rpk P w K H S xs kvs → Rpk P w K H S xs' kvs' → Rpk P w K H S (xs ++ xs') (kvs ++ kvs')
  | _, _, _, _, .nil, s => s
  | _, _, _, _, .cons h1 h2 h3 r, s => .cons h1 h2 h3 (rpk_append r s)
theorem rpk_put {P : Program} {w : World} {K : PySem.W.Frag} {H : Hp} {S : Addr → Prop} {k : NestedKey} {b : Addr} {v : V} {d : D} {xs : List (NestedKey × Addr × V)} {kvs : List (D × D)} (r : Rpk P w K H S xs kvs) (hk : Rp P w K H S (.ref b) (keyD k)) (hd : k.depth ≤ 8) (hv : Rp P w K H S v d) : Rpk P w K H S (kputX xs k b v) (kput kvs k d) := by
  unfold kputX kput
  have e : (kgetX xs k).isSome = (kget kvs k).isSome := by
    rcases rpk_get (k := k) r with ⟨h1, h2⟩ | ⟨_, _, h1, h2, _⟩ <;> rw [h1, h2] <;> rfl
  rw [e]
  split
  · clear e
    rename_i z
    clear z
    have go : ∀ {xs : List (NestedKey × Addr × V)} {kvs : List (D × D)}, Rpk P w K H S xs kvs → Rpk P w K H S (xs.map fun x => if x.1 = k then (x.1, x.2.1, v) else x) (kvs.map fun p => if asKey p.1 = some k then (p.1, d) else p) := by
      intro xs kvs r
      induction xs generalizing kvs with
      | nil => cases r; exact .nil
      | cons x xs ih =>
        cases r with
        | @cons k' b' v' _ d' kvs' h1 h2 h3 r =>
          rw [List.map_cons, List.map_cons]
          by_cases e : k' = k
          · subst e
            rw [if_pos rfl, if_pos (asKey_keyD _)]
            exact .cons h1 h2 hv (ih r)
          · rw [if_neg e, if_neg (by rw [asKey_keyD]; exact fun z => e (Option.some.inj z))]
            exact .cons h1 h2 h3 (ih r)
    exact go r
  · exact rpk_append r (.cons hk hd hv .nil)
theorem DN_still {P : Program} {w : World} {a : Addr} {xs : List (NestedKey × Addr × V)} : ∀ h1 h2 : Heap, DNφ P w a xs h1 → (∀ o, h1.get? a = some o → h2.get? a = some o) → DNφ P w a xs h2 :=
  fun h1 h2 ⟨o, es, ep, ys, e, r⟩ k => ⟨o, es, ep, ys, k o e, r⟩
section
variable {X : Cx} {C : Cn} {W : WX} {pos : Pos}
def sStD (i : Nat) (ek ev : Ex) : Sx := fun ρ w => match ρ[i]? with
  | some (some (.ow (.dict kvs))) => ofR (ev ρ w) fun p => match p.1 with
    | .bw _ => .err
    | r => ofR (ek ρ p.2) fun q => match q.1 with
      | .fz dk => (match dKey dk with
        | some k => if kvs.length < sizeLine then .nx (ρ.set i (some (.ow (.dict (kput kvs k r.d))))) q.2 else .err
        | none => .err)
      | _ => .err
  | _ => .err
theorem ds_stD {y : Str} {i : Nat} {py pos' : Pos} {ke ve : Expr} {fk fv : Ex} (t : Tie X C) (hN : X.N[i]? = some y) (hv : Vis X.env.scope y) (hk : DE X C W ke fk) (he : DE X C W ve fv) (hd : (y == ("__debug__" : Str)) = false := by decide) (hcd : (y == ("__classdict__" : Str)) = false := by decide)
    (hs : swapsWith ve (some (.Subscript (.Name y py) ke pos')) pos.line X.env = pure false := by rfl) :
    DS X C W (.Assign [.Subscript (.Name y py) ke pos'] ve pos) (sStD i fk fv) := by
  refine ⟨fun pins s σ H D I h => ?_⟩
  obtain ⟨ρ, w, S, E, q⟩ := sT_to h
  unfold sStD at q
  split at q
  · rename_i kvs e2
    obtain ⟨vo, hv', p, ev, ow, h0, hS, hw⟩ := E.val i _ e2
    subst ev
    cases ow with
    | @dct xs _ hp rk =>
      refine wpAny_Assign_Subscript (thn (he.run pins s σ H (fun v H1 => ∃ r w1, Pst C H H1 w1 ∧ RvOk C H H1 S v r ∧ (∀ d, r ≠ .bw d) ∧ OutOk C W D (ofR (fk ρ w1) fun q => match q.1 with
        | .fz dk => (match dKey dk with
          | some k => if kvs.length < sizeLine then .nx (ρ.set i (some (.ow (.dict (kput kvs k r.d))))) q.2 else .err
          | none => .err)
        | _ => .err)) I (eT_of E E.rf ((OutOk.ofR E q).imp fun z hz v H1 p1 r1 => ?_))) fun rv s1 ⟨v, H1, I1, rr, r, w1, p1, r1, nb, q1⟩ =>
        thn ((pe_var hN hv hd hcd).run pins s1 σ H1 (fun x H2 => x = .ref p ∧ H1 = H2) I1 ⟨.ref p, hv', rfl, rfl⟩) fun u s2 ⟨x, H2, I2, rx, ex, eH⟩ => ?_) hs
      · obtain ⟨r, w1⟩ := z
        cases r with
        | bw d => exact hz.elim
        | fz d => exact ⟨_, w1, p1, r1, (fun _ z => nomatch z), hz⟩
        | ow d => exact ⟨_, w1, p1, r1, (fun _ z => nomatch z), hz⟩
      subst ex eH
      obtain rfl : u = Value.ref p := rx
      have E1 := E.go p1
      refine thn (hk.run pins s2 σ H1 (fun y H3 => ∃ q w2, Pst C H1 H3 w2 ∧ RvOk C H1 H3 S y q ∧ OutOk C W D (match q with
        | .fz dk => (match dKey dk with
          | some k => if kvs.length < sizeLine then .nx (ρ.set i (some (.ow (.dict (kput kvs k r.d))))) w2 else .err
          | none => .err)
        | _ => .err)) I2 (eT_of E1 E1.rf ((OutOk.ofR E1 q1).imp fun z hz y H3 p3 r3 => ⟨_, _, p3, r3, hz⟩))) fun iv s3 ⟨y, H3, I3, ry, q, w2, p3, r3, q2⟩ => ?_
      cases q with
      | bw d => exact q2.elim
      | ow d => exact q2.elim
      | fz dk =>
        replace q2 : OutOk C W D (match dKey dk with
          | some k => if kvs.length < sizeLine then .nx (ρ.set i (some (.ow (.dict (kput kvs k r.d))))) w2 else .err
          | none => .err) := q2
        cases hk' : dKey dk with
        | none => rw [hk'] at q2; exact q2.elim
        | some k =>
          rw [hk'] at q2
          replace q2 : OutOk C W D (if kvs.length < sizeLine then .nx (ρ.set i (some (.ow (.dict (kput kvs k r.d))))) w2 else .err) := q2
          split at q2
          · rename_i small
            obtain ⟨e1, dep, tp⟩ := dKey_some hk'
            subst e1
            have r3 : Rp C.P C.w C.K H3 S y (keyD k) := r3
            obtain ⟨b, rfl⟩ := key_ref (C := C) (.inl r3) tp
            obtain rfl : iv = Value.ref b := ry
            have p13 := p1.trans p3
            have E3 := E1.go p3
            have hp3 := p13.g.keep _ _ hp (fun ps => DN_tbl ps) hw
            have rk3 := rk.mono (E.kept p13.g) fun _ z => z
            have rv3 := (r1.rp E nb).mono (E1.kept p3.g) fun _ z => z
            obtain ⟨ys, pr, dd, sm, sz⟩ := dict_at t I3 (.inl hp3) rk3
            have kk := key_at t I3 (S := S) (.inl r3) rfl dep rfl
            have room := t.room
            have lenxs : xs.length < sizeLine := by rw [rpk_length rk]; exact small
            have lenys : ys.length ≤ sizeLine := by rw [← Paired.length pr]; exact sz
            rw [t.P, t.w] at kk dd
            refine wpAny_setItem_heap (hsz := lenys) (show X.A.in1.units + 8 < cLine by show X.A.units + 1 + 8 < cLine; omega) kk dd fun h' dd' sb => ?_
            obtain ⟨o, es, ep, g1, g2, g3, g4, g5, g6⟩ := dd'
            have new : DNφ C.P C.w p (kputX xs k b v) h' := ⟨o, es, ep, _, g1, g2, g3, by rw [t.P, t.w]; exact g4, pr_put pr rr, by
              obtain ⟨_, _, _, _, _, _, _, _, _, nd, _⟩ := (I3.hok p _ hp3).1
              exact keys_put nd, sm, by have := kputX_len xs k b v; omega⟩
            refine ⟨σ, upd H3 p (DN C.P C.w p (kputX xs k b v)), d_write I3 (by rw [hp3]; exact True.intro) sb ⟨o, g1⟩ ⟨new, ⟨o, g1⟩, DN_still⟩, ?_⟩
            have ku := kept_upd (o' := DN C.P C.w p (kputX xs k b v)) hS hp3 (.inr ⟨_, _, _, rfl⟩)
            exact q2 σ _ S (E3.mut e2 hv' hp3 (.inr ⟨_, _, _, rfl⟩) (.dct upd_same ((rpk_put rk3 r3 dep rv3).mono ku fun _ z => z)))
          · exact q2.elim
  · exact q.elim
/-! ### {} -/
def eDc0 : Ex := fun _ w => .ok (.ow (.dict []), w)
theorem de_dc0 : DE X C W (.Dict [] [] pos) eDc0 := by
  refine ⟨fun pins s σ H Q I h => ?_⟩
  obtain ⟨ρ, w, S, E, h⟩ := eT_to h
  refine wpAny_Dict_empty ⟨.ref s.heap.objs.size, _, I.laid (a := s.heap.objs.size) (o := DN C.P C.w s.heap.objs.size []) (t' := s.toks) (fun _ _ q => Heap.get?_push_of_some _ q) (Nat.le_refl _) ?_, rfl, ?_⟩
  · have g := Heap.get?_push_size s.heap (o := { cls := .type "dict", data := .dict #[] }) rfl
    exact ⟨⟨_, #[], 0, [], g, ⟨rfl, rfl, rfl⟩, rfl, rfl, .nil, List.nodup_nil, beq_eq_false_iff_ne.mpr (Ne.symm (Nat.ne_of_lt I.big)), Nat.zero_le _⟩, ⟨_, g⟩, DN_still⟩
  · have n : H s.heap.objs.size = none := I.hok.fresh (Nat.le_refl _)
    have ex := Ext.new (o := DN C.P C.w s.heap.objs.size []) n
    exact h _ _ (ex.pst E) ⟨_, rfl, .dct upd_same .nil, n⟩
end
end DL
namespace DL
open PySem PySem.Spec PyProof.Rows L2
/-! ### {k: v for ..} -/
/-- an entry more, or changed -/
def PutN (C : Cn) (a : Addr) (y z : V) (G G' : Hp) : Prop := ∃ (S : Addr → Prop) (xs : List (NestedKey × Addr × V)) (kvs : List (D × D)) (k : NestedKey) (b : Addr), G a = some (DN C.P C.w a xs) ∧ Rpk C.P C.w C.K G S xs kvs ∧ Rp C.P C.w C.K G S y (keyD k) ∧ k.depth ≤ 8 ∧ y = .ref b ∧ xs.length < sizeLine ∧ G' = upd G a (DN C.P C.w a (kputX xs k b z))
theorem inv_putN {X : Cx} {C : Cn} {pins : List (Addr × Obj)} {τ : L2.St} {G G' : Hp} {s : Shared} {a : Addr} {y z : V} {u r : Value} {E : Value → Shared → Prop} {Q : Unit → Shared → Prop} (t : Tie X C) (I : Inv X pins τ G s) (p : PutN C a y z G G') (ru : RelV y u) (rr : RelV z r) (q : ∀ s', Inv X pins τ G' s' → Q () s') : wpAny (model X.prog X.w) X.A (dictSet a u r) Q E s := by
  obtain ⟨S, xs, kvs, k, b, hG, rk, ry, dep, rfl, few, rfl⟩ := p
  obtain rfl : u = Value.ref b := ru
  obtain ⟨ys, pr, dd, sm, le⟩ := dict_at t I (.inl hG) rk
  have kk := key_at t I (S := S) (.inl ry) rfl dep rfl
  have room := t.room
  have le2 : ys.length ≤ sizeLine := by rw [← Paired.length pr]; exact le
  rw [t.P, t.w] at kk dd
  refine wpAny_dictSet_heap (hsz := le2) (show X.A.units + 8 < cLine by omega) kk dd fun h' dd' same => q _ ?_
  obtain ⟨o, es, ep, g1, g2, g3, g4, g5, g6⟩ := dd'
  have new : DNφ C.P C.w a (kputX xs k b z) h' := ⟨o, es, ep, _, g1, g2, g3, by rw [t.P, t.w]; exact g4, pr_put pr rr, by
    obtain ⟨_, _, _, _, _, _, _, _, _, nd, _⟩ := (I.hok a _ hG).1
    exact keys_put nd, sm, by have := kputX_len xs k b z; omega⟩
  exact d_write I (by rw [hG]; exact True.intro) same ⟨o, g1⟩ ⟨new, ⟨o, g1⟩, DN_still⟩
def tDn (C : Cn) (wi : TI) (g : TG) (tt : TT) (tk tv : TE) (vs : List Nat) : TE := fun σ H Q => wi σ H fun J H1 => ∀ a, H1 a = none → ∃ M : Nat → Nat → Hp → Prop, (∃ n, M 0 n (upd H1 a (DN C.P C.w a []))) ∧ ∀ i n G, M i n G →
  (J.stop i G ∧ Q (.ref a) G) ∨ (J.go i G ∧ ∃ Nx : Hp → Prop, (∀ G', Nx G' → ∃ n', n' < n ∧ M (i + 1) n' G') ∧ ∀ x G', J.yld i G x G' → g x (wipe σ vs) G' fun τ G2 => wipe τ vs = wipe σ vs ∧ tt τ G2 fun c G3 =>
    if c = true then tk τ G3 fun y G4 => tv τ G4 fun z G5 => ∃ G6, PutN C a y z G5 G6 ∧ Nx G6 else Nx G3)
section
variable {X : Cx} {C : Cn}
/-- a new dict at the heap's end -/
theorem laidN {pins : List (Addr × Obj)} {σ : L2.St} {H : Hp} {s : Shared} (I : Inv X pins σ H s) : Inv X pins σ (upd H s.heap.objs.size (DN C.P C.w s.heap.objs.size [])) { s with heap := s.heap.push { cls := .type "dict", data := .dict #[] } } := by
  refine I.laid (t' := s.toks) (fun _ _ q => Heap.get?_push_of_some _ q) (Nat.le_refl _) ?_
  have g := Heap.get?_push_size s.heap (o := { cls := .type "dict", data := .dict #[] }) rfl
  exact ⟨⟨_, #[], 0, [], g, ⟨rfl, rfl, rfl⟩, rfl, rfl, .nil, List.nodup_nil, beq_eq_false_iff_ne.mpr (Ne.symm (Nat.ne_of_lt I.big)), Nat.zero_le _⟩, ⟨_, g⟩, DN_still⟩
/-- what a block's walk keeps by the iterator's own cells -/
structure Ring (B : Cx) (fp : List Addr) (tn : Nat → Heap → Prop) (ρ : L2.St) (M : Nat → Nat → Hp → Prop) (n : Nat) (s : Shared) : Prop where
  go : ∃ i G, Inv B [] ρ G s ∧ tn i s.heap ∧ (∀ b ∈ fp, G b = none) ∧ M i n G
theorem ring_fp {B : Cx} {fp : List Addr} {ρ : L2.St} {G : Hp} {s : Shared} (hpn : B.pn = []) (hex : B.ex = fp) (I : Inv B [] ρ G s) (no : ∀ b ∈ fp, G b = none) : ∀ b ∈ fp, FpOk B [] G b := fun b m => by
  rw [← hex] at m
  exact ⟨no b (hex ▸ m), (I.ok.exf b m).1, I.ok.exfs b m, .inl m, fun x c e => (I.ok.exf b m).2 x c e, fun p hp => by rw [hpn] at hp; cases hp⟩
theorem pe_dn {kx vx tg iter : Expr} {ifs : List Expr} {scope : Scope} {own : List (Str × Nat)} {pos : Pos} {wi : TI} {g : TG} {tt : TT} {tk tv : TE} (t : Tie X C) (hN : X.N.Nodup) (hi : PI X tg iter wi) (ok : BlkOk X.N X.env.scope scope own)
    (hg : ∀ (s : Shared) (H : Hp) (A : Addr) (cl : List (Str × Addr)) (fp : List Addr), PG (X.blk s H scope (compEnvC scope cl A X.env) fp) tg g)
    (ht : ∀ (s : Shared) (H : Hp) (A : Addr) (cl : List (Str × Addr)) (fp : List Addr), PTs (X.blk s H scope (compEnvC scope cl A X.env) fp) ifs tt)
    (hk : ∀ (s : Shared) (H : Hp) (A : Addr) (cl : List (Str × Addr)) (fp : List Addr), PE (X.blk s H scope (compEnvC scope cl A X.env) fp) kx tk)
    (hv : ∀ (s : Shared) (H : Hp) (A : Addr) (cl : List (Str × Addr)) (fp : List Addr), PE (X.blk s H scope (compEnvC scope cl A X.env) fp) vx tv) (hs : ∀ x, foldedSetIterable iter X.env x = pure x := by intro _; rfl) :
    PE X (.DictComp kx vx [⟨tg, iter, ifs, 0⟩] scope pos) (tDn C wi g tt tk tv (ownS own)) := by
  refine ⟨fun pins s σ H Q I h => ?_⟩
  rw [arm_eval_DictComp]
  have opn : ∀ y ∈ scope.names, y.2 = .free → ∃ c, X.env.cells.lookup y.1 = some c := fun y m e => (ok.free y m e).elim (fun z => I.ok.has _ (.inl z)) fun z => I.ok.has _ (.inr z)
  refine wpAny_comprehension_free (use := none) rfl hs (closure_ok opn) ok.kind (fun y m e => by rw [ok.uniq y m, e]) (thn (hi.run pins s σ H _ I h) fun _ _ hx => thn hx fun _ sa ha => ?_)
  obtain ⟨it, fp, tn, J, Ha, rfl, Ia, T, ta, fa, q⟩ := ha
  refine wpAny_newObj_type (newEnv_comp ?_)
  have na : Ha sa.heap.objs.size = none := Ia.hok.fresh (Nat.le_refl _)
  obtain ⟨M, ⟨n0, m0⟩, walk⟩ := q _ na
  have Ib := laidN (C := C) Ia
  -- the iterator's cells lie below the new dict
  have below : ∀ b ∈ fp, b < sa.heap.objs.size := fun b m => by
    obtain ⟨o, e, _⟩ := T.obj _ _ ta b m
    exact Heap.lt_size e
  have fb : ∀ b ∈ fp, FpOk X pins (upd Ha sa.heap.objs.size (DN C.P C.w sa.heap.objs.size [])) b ∧ b < (sa.heap.push { cls := .type "dict", data := .dict #[] }).objs.size := fun b m => by
    refine ⟨⟨?_, (fa b m).2⟩, by rw [Heap.size_push]; exact Nat.lt_succ_of_lt (below b m)⟩
    rw [upd_ne (Nat.ne_of_lt (below b m))]
    exact (fa b m).1
  have Ic := block_start Ib ok hN fb
  have tc : tn 0 (pushCells ((sa.heap.push { cls := .type "dict", data := .dict #[] }).push { cls := .type "dict", data := .dict #[] }) scope.names) :=
    T.keep _ _ _ ta fun b _ o e => pushCells_keeps _ _ _ _ (Heap.get?_push_of_some _ (Heap.get?_push_of_some _ e))
  refine codeAny_compStart_dict (?loop) (T.self X.A 0 _ _ _ tc ?loop)
  refine compLoop_anyD (fun n s' => Ring (X.blk { sa with heap := sa.heap.push { cls := .type "dict", data := .dict #[] } } (upd Ha sa.heap.objs.size (DN C.P C.w sa.heap.objs.size [])) scope (compEnvC scope (cellsFrom ((sa.heap.push { cls := .type "dict", data := .dict #[] }).objs.size + 1) scope.names (cloFrom X.env.cells scope.names [])) (sa.heap.push { cls := .type "dict", data := .dict #[] }).objs.size X.env) fp) fp tn (wipe σ (ownS own)) M n s') ?_ n0 ⟨0, _, Ic, tc, fun b m => (fb b m).1.1, m0⟩
  rintro n sc ⟨i, G, Id, td, nd, md⟩
  rcases walk i n G md with ⟨stop, fin⟩ | ⟨go, Nx, nx, step⟩
  · refine thnF (T.done (X.blk _ _ scope (compEnvC scope _ _ X.env) fp) rfl rfl rfl t.calm i [] sc _ G (fun _ _ => False) Id (ring_fp (B := X.blk _ _ scope (compEnvC scope _ _ X.env) fp) rfl rfl Id nd) td stop) fun r se ⟨er, Ie⟩ => ?_
    subst er
    have back : Inv X pins σ G se := Ib.call' (ch := fp) Ie.os Ie.base Ie.hok Ie.bare fun b m => by
      obtain ⟨⟨_, c1, _, c3, c4, c5⟩, _⟩ := fb b m
      exact ⟨c3, c1, c4, c5⟩
    have gone : G (sa.heap.push { cls := .type "dict", data := .dict #[] }).objs.size = none := Ie.free
    obtain ⟨m, hm, _⟩ := Ie.loc
    obtain ⟨d0, d1, _, d3, d4, d5⟩ := Ib.fpOk (b := (sa.heap.push { cls := .type "dict", data := .dict #[] }).objs.size) (Nat.le_refl _) gone
    exact ⟨m, hm, fun h' same => ⟨.ref sa.heap.objs.size, G, back.turned (t' := se.toks) (fun b o ne e => (same.2 b ne).trans e) d0 d1 d3 d4 d5, rfl, fin⟩⟩
  · refine thnF (T.item (X.blk _ _ scope (compEnvC scope _ _ X.env) fp) rfl rfl rfl t.calm i [] sc _ G (fun _ _ => False) Id (ring_fp (B := X.blk _ _ scope (compEnvC scope _ _ X.env) fp) rfl rfl Id nd) td go) fun r sd ⟨u, er, hu⟩ => ?_
    subst er
    refine thnF hu fun _ se ⟨x, Ge, Ie, rx, ye, te, ne⟩ => ?_
    have pinned := Ie.pinned (ring_fp (B := X.blk _ _ scope (compEnvC scope _ _ X.env) fp) rfl rfl Ie ne) (T.obj _ _ te)
    -- behind a turn
    have turn : ∀ {τ : L2.St} {s' : Shared} {G' : Hp}, wipe τ (ownS own) = wipe σ (ownS own) → Inv (X.blk { sa with heap := sa.heap.push { cls := .type "dict", data := .dict #[] } } (upd Ha sa.heap.objs.size (DN C.P C.w sa.heap.objs.size [])) scope (compEnvC scope (cellsFrom ((sa.heap.push { cls := .type "dict", data := .dict #[] }).objs.size + 1) scope.names (cloFrom X.env.cells scope.names [])) (sa.heap.push { cls := .type "dict", data := .dict #[] }).objs.size X.env) fp) ([] ++ pinsAt fp se.heap) τ G' s' → Nx G' →
        ∃ m, m < n ∧ Ring (X.blk { sa with heap := sa.heap.push { cls := .type "dict", data := .dict #[] } } (upd Ha sa.heap.objs.size (DN C.P C.w sa.heap.objs.size [])) scope (compEnvC scope (cellsFrom ((sa.heap.push { cls := .type "dict", data := .dict #[] }).objs.size + 1) scope.names (cloFrom X.env.cells scope.names [])) (sa.heap.push { cls := .type "dict", data := .dict #[] }).objs.size X.env) fp) fp tn (wipe σ (ownS own)) M m s' := by
      intro τ s' G' hw I' hx
      obtain ⟨n', less, m'⟩ := nx G' hx
      have fixed : ∀ b ∈ fp, ∃ o, se.heap.get? b = some o ∧ s'.heap.get? b = some o ∧ G' b = none := fun b m => by
        obtain ⟨o, e, _⟩ := T.obj _ _ te b m
        have z := I'.pin (b, o) (List.mem_append_right _ (List.mem_append_right _ (mem_pinsAt m e)))
        exact ⟨o, e, z.1, z.2.1⟩
      refine ⟨n', less, i + 1, G', (I'.unpinned (pins := [])).weak ?_ fun j v e => ?_, T.keep _ _ _ te fun b m o e => ?_, fun b m => ?_, m'⟩
      · rw [← hw, wipe_length]
      · rw [← hw] at e
        exact (wipe_some e).1
      · obtain ⟨o2, e1, e2, _⟩ := fixed b m
        rw [e] at e1
        cases e1
        exact e2
      · obtain ⟨_, _, _, z⟩ := fixed b m
        exact z
    refine thnF ((hg _ _ _ _ _).run _ se _ Ge x u _ pinned rx (step x Ge ye)) fun _ sf ⟨τ, Gf, If, hw, qf⟩ => ?_
    refine thnF ((ht _ _ _ _ _).run _ sf τ Gf _ If qf) fun c sg ⟨Gg, Ig, qg⟩ => ?_
    cases c with
    | false =>
      simp only [Bool.false_eq_true, if_false] at qg ⊢
      exact turn hw Ig qg
    | true =>
      simp only [if_true] at qg ⊢
      refine thnF ((hk _ _ _ _ _).run _ sg τ Gg _ Ig qg) fun kv sh ⟨y, Gh, Ih, ry, qh⟩ => ?_
      refine thnF ((hv _ _ _ _ _).run _ sh τ Gh _ Ih qh) fun vv si ⟨z, Gi, Ii, rz, Gj, put, qj⟩ => ?_
      exact inv_putN (X := X.blk _ _ scope (compEnvC scope _ _ X.env) fp) ⟨t.P, t.w, t.K, t.calm, t.room, t.gd⟩ Ii put ry rz fun sj Ij => turn hw Ij qj
end
end DL
namespace DL
open PySem PySem.Spec PyProof.Rows L2
/-! ### dict comprehensions as data -/
def putR (kvs : List (D × D)) (dk : D) (r : RV) : Option (List (D × D)) := match r with
  | .bw _ => none
  | r => (dKey dk).bind fun k => if kvs.length < sizeLine then some (kput kvs k r.d) else none
def dcL (b : Gx) (t : Tx) (ek ev : Ex) : List D → DEnv → List Int → List (D × D) → Res (List (D × D) × List Int)
  | [], _, w, kvs => .ok (kvs, w)
  | d :: ds, ρ, w, kvs => match b d ρ with
    | none => .err
    | some ρ1 => (t ρ1 w).bind fun p => if p.1 then (ek ρ1 p.2).bind fun q => match q.1 with
        | .fz dk => (ev ρ1 q.2).bind fun r => match putR kvs dk r.1 with
          | some kvs' => dcL b t ek ev ds ρ r.2 kvs'
          | none => .err
        | _ => .err
      else dcL b t ek ev ds ρ p.2 kvs
def eDc (vs : List Nat) (f : Ix) (b : Gx) (t : Tx) (ek ev : Ex) : Ex := fun ρ w => (f ρ w).bind fun p => (noX (dcL b t ek ev p.1 (wipeE ρ vs) p.2 [])).bind fun z => .ok (.ow (.dict z.1), z.2)
structure DcSt (C : Cn) (H : Hp) (Dn : Addr) (S : Addr → Prop) (ρo : DEnv) (σo : L2.St) (srcs : List (V × D)) (w : List Int) (kvs : List (D × D)) (Hc : Hp) : Prop where
  eo : EnvOk C ρo w S σo Hc
  acc : ∃ xs, Hc Dn = some (DN C.P C.w Dn xs) ∧ Rpk C.P C.w C.K Hc S xs kvs
  gr : Grow C.pw H Hc
  src : ∀ v d, (v, d) ∈ srcs → Rp C.P C.w C.K Hc S v d
structure DcFx (C : Cn) (H : Hp) (Dn : Addr) (S : Addr → Prop) (ρo : DEnv) (σo : L2.St) : Prop where
  fo : Free ρo σo Dn
  hS : ¬ S Dn
  h0 : C.H0 Dn = none
  hw : C.pw ≠ some Dn
  hH : H Dn = none
section
variable {C : Cn} {H Hc H' : Hp} {Dn : Addr} {S : Addr → Prop} {ρo : DEnv} {σo : L2.St} {srcs : List (V × D)} {w w' : List Int} {kvs : List (D × D)}
theorem DcSt.go (s : DcSt C H Dn S ρo σo srcs w kvs Hc) (f : DcFx C H Dn S ρo σo) (p : Pst C Hc H' w') : DcSt C H Dn S ρo σo srcs w' kvs H' := by
  obtain ⟨xs, h1, h2⟩ := s.acc
  have k := s.eo.kept p.g
  exact ⟨s.eo.go p, ⟨xs, p.g.keep _ _ h1 (fun ps => DN_tbl ps) f.hw, h2.mono k fun _ z => z⟩, s.gr.trans p.g, fun v d m => (s.src v d m).mono k fun _ z => z⟩
theorem DcSt.put {y z : V} {k : NestedKey} {d : D} {b : Addr} (s : DcSt C H Dn S ρo σo srcs w kvs Hc) (f : DcFx C H Dn S ρo σo) (ry : Rp C.P C.w C.K Hc S y (keyD k)) (dep : k.depth ≤ 8) (ey : y = .ref b) (rz : Rp C.P C.w C.K Hc S z d) (few : kvs.length < sizeLine) :
    ∃ G6, PutN C Dn y z Hc G6 ∧ DcSt C H Dn S ρo σo srcs w (kput kvs k d) G6 := by
  obtain ⟨xs, h1, h2⟩ := s.acc
  subst ey
  have ku := kept_upd (S := S) (o' := DN C.P C.w Dn (kputX xs k b z)) f.hS h1 (.inr ⟨_, _, _, rfl⟩)
  refine ⟨_, ⟨S, xs, kvs, k, b, h1, h2, ry, dep, rfl, by rw [rpk_length h2]; exact few, rfl⟩, s.eo.turn f.fo f.hS f.h0 f.hw h1 (.inr ⟨_, _, _, rfl⟩), ⟨_, upd_same, (rpk_put h2 ry dep rz).mono ku fun _ z => z⟩, ?_, fun v d m => (s.src v d m).mono ku fun _ z => z⟩
  refine ⟨fun a o h n q => ?_, fun a h => ?_⟩
  · rw [upd_ne (fun z => by rw [z, f.hH] at h; cases h)]
    exact s.gr.keep a o h n q
  · by_cases z : a = Dn
    · rw [z]; exact f.hH
    · rw [upd_ne z] at h; exact s.gr.nn a h
end
section
variable {X : Cx} {C : Cn} {W : WX}
/-- the pairs behind kvs end well -/
def FinD (C : Cn) (H : Hp) (S : Addr → Prop) (Q : VK) (R : Res (List (D × D) × List Int)) : Prop := ∃ zs w', R = .ok (zs, w') ∧ ∀ v H', Pst C H H' w' → RvOk C H H' S v (.ow (.dict zs)) → Q v H'
theorem de_dc {kx vx tg iter : Expr} {ifs : List Expr} {scope : Scope} {own : List (Str × Nat)} {pos : Pos} {f : Ix} {b : Gx} {tf : Tx} {fk fv : Ex} {ts : List Nat} (t : Tie X C) (hN : X.N.Nodup) (hv : C.pw = none ∨ C.pi ∉ ownS own) (hts : ∀ j ∈ ts, j ∈ ownS own) (hi : DI X C W tg iter f) (ok : BlkOk X.N X.env.scope scope own)
    (hg : ∀ (s : Shared) (H : Hp) (A : Addr) (cl : List (Str × Addr)) (fp : List Addr), DG (X.blk s H scope (compEnvC scope cl A X.env) fp) C tg b ts) (ht : ∀ (s : Shared) (H : Hp) (A : Addr) (cl : List (Str × Addr)) (fp : List Addr), DPs (X.blk s H scope (compEnvC scope cl A X.env) fp) C W0 ifs tf)
    (hk : ∀ (s : Shared) (H : Hp) (A : Addr) (cl : List (Str × Addr)) (fp : List Addr), DE (X.blk s H scope (compEnvC scope cl A X.env) fp) C W0 kx fk)
    (he : ∀ (s : Shared) (H : Hp) (A : Addr) (cl : List (Str × Addr)) (fp : List Addr), DE (X.blk s H scope (compEnvC scope cl A X.env) fp) C W0 vx fv) (hs : ∀ x, foldedSetIterable iter X.env x = pure x := by intro _; rfl) :
    DE X C W (.DictComp kx vx [⟨tg, iter, ifs, 0⟩] scope pos) (eDc (ownS own) f b tf fk fv) := by
  refine pe_imp (pe_dn t hN hi ok hg ht hk he hs) fun σ H Q hq => ?_
  obtain ⟨ρ, w, S, E, q⟩ := eT_to hq
  unfold eDc at q
  refine ⟨ρ, w, S, E, q.bind.imp fun p hp J H1 src p1 it hsrc Dn hn => ?_⟩
  obtain ⟨ds, w1⟩ := p
  have E1 := E.go p1
  have hH : H Dn = none := p1.g.nn _ hn
  have h0 : C.H0 Dn = none := E1.gn Dn hn
  have hw : C.pw ≠ some Dn := fun z => by have := E1.st Dn z; rw [hn] at this; cases this
  obtain ⟨E2, fr⟩ := (E1.wiped hv).lay (o := DN C.P C.w Dn []) hn
  let S' : Addr → Prop := fun a => S a ∧ a ≠ Dn
  have F0 : DcFx C H Dn S' (wipeE ρ (ownS own)) (wipe σ (ownS own)) := ⟨fr, fun z => z.2 rfl, h0, hw, hH⟩
  have fin0 : FinD C H S Q (dcL b tf fk fv ds (wipeE ρ (ownS own)) w1 []) := by
    revert hp
    show Good C W σ H ((noX (dcL b tf fk fv ds (wipeE ρ (ownS own)) w1 [])).bind _) _ → _
    cases dcL b tf fk fv ds (wipeE ρ (ownS own)) w1 [] with
    | ok z => exact fun hp => ⟨z.1, z.2, rfl, hp⟩
    | exc c d => exact fun h => h.elim
    | err => exact fun h => h.elim
  refine ⟨fun i m Hc => m + i = ds.length ∧ ∃ wc kvs, DcSt C H Dn S' (wipeE ρ (ownS own)) (wipe σ (ownS own)) src wc kvs Hc ∧ FinD C H S Q (dcL b tf fk fv (ds.drop i) (wipeE ρ (ownS own)) wc kvs),
    ⟨ds.length, rfl, w1, [], ⟨E2, ⟨[], upd_same, .nil⟩, p1.g.trans (Grow.new hn), fun v d m => ((hsrc v d m).avoid hn).mono (Ext.new hn).kept fun _ z => z⟩, fin0⟩, ?_⟩
  intro i m Hc ⟨hm, wc, kvs, s, fin⟩
  obtain ⟨i1, i2⟩ := it S' Hc s.eo.sN s.src s.eo.lo
  cases m with
  | zero =>
    refine .inl ⟨i2 i (by show ds.length ≤ i; omega), ?_⟩
    rw [List.drop_eq_nil_of_le (by omega)] at fin
    obtain ⟨zs, w', e, fin⟩ := fin
    cases e
    obtain ⟨xs, ha, hr⟩ := s.acc
    exact fin _ Hc ⟨s.gr, s.eo.st, s.eo.tb⟩ ⟨Dn, rfl, .dct ha hr, hH⟩
  | succ m =>
    have hi' : i < ds.length := by omega
    obtain ⟨go, yl⟩ := i1 i hi'
    rw [List.drop_eq_getElem_cons hi'] at fin
    obtain ⟨zs0, w0, el, fl⟩ := fin
    unfold dcL at el
    refine .inr ⟨go, _, fun H' z => ⟨m, Nat.lt_succ_self m, z⟩, fun x H' y => ?_⟩
    obtain ⟨ex, d, ed, rd⟩ := yl x H' y
    have px := ex.pst s.eo
    have ed' : ds[i] = d := by rw [List.getElem?_eq_getElem hi'] at ed; exact Option.some.inj ed
    rw [ed'] at el
    have s1 := s.go F0 px
    cases eb : b d (wipeE ρ (ownS own)) with
    | none => rw [eb] at el; cases el
    | some ρ1 =>
      rw [eb] at el
      obtain ⟨⟨k, wt⟩, et, el⟩ := bind_ok el
      refine ⟨_, wc, S', d, ρ1, s1.eo, rd, eb, fun σ2 Es bt => ⟨wipe_but ⟨bt.1, fun j hj => bt.2 j fun z => hj (hts j z)⟩, ?_⟩⟩
      refine tT_of Es Es.rf (by
          rw [et]
          intro H3 p3
          have s3 := s1.go F0 p3
          cases k with
          | false => exact ⟨by omega, wt, kvs, s3, zs0, w0, el, fl⟩
          | true =>
            have Es3 := Es.go p3
            obtain ⟨⟨rk, wk⟩, ek, el⟩ := bind_ok el
            refine eT_of Es3 Es3.rf (by
                rw [ek]
                intro yv H4 p4 r4
                have s4 := s3.go F0 p4
                have Es4 := Es3.go p4
                cases rk with
                | bw d => cases el
                | ow d => cases el
                | fz dk =>
                  obtain ⟨⟨rv, wv⟩, ev, el2⟩ := bind_ok el
                  refine eT_of Es4 Es4.rf (by
                    rw [ev]
                    intro zv H5 p5 r5
                    have s5 := s4.go F0 p5
                    have el3 : (match putR kvs dk rv with | some kvs' => dcL b tf fk fv (ds.drop (i + 1)) (wipeE ρ (ownS own)) wv kvs' | none => .err) = .ok (zs0, w0) := el2
                    cases ep : putR kvs dk rv with
                    | none => rw [ep] at el3; cases el3
                    | some kvs' =>
                      rw [ep] at el3
                      have nb : ∀ d, rv ≠ .bw d := fun d z => by subst z; cases ep
                      have ep : ((dKey dk).bind fun k => if kvs.length < sizeLine then some (kput kvs k rv.d) else none) = some kvs' := by
                        revert ep
                        cases rv with
                        | bw d => exact absurd rfl (nb d)
                        | fz d => exact fun z => z
                        | ow d => exact fun z => z
                      obtain ⟨k, hk', ep⟩ := Option.bind_eq_some_iff.mp ep
                      split at ep
                      · rename_i few
                        cases ep
                        obtain ⟨e1, dep, tp⟩ := dKey_some hk'
                        subst e1
                        have ry : Rp C.P C.w C.K H5 S' yv (keyD k) := Rp.mono (Es4.kept p5.g) (fun _ z => z) r4
                        obtain ⟨b', eb'⟩ := key_ref (C := C) (.inl ry) tp
                        obtain ⟨G6, pn, s6⟩ := s5.put F0 ry dep eb' (r5.rp Es4 nb) few
                        exact ⟨G6, pn, by omega, wv, _, s6, zs0, w0, el3, fl⟩
                      · cases ep)))
end
end DL
namespace DL
open PySem PySem.Spec PyProof.Rows L2
/-! ### a dict that is walked is locked -/
def Cn.lkd (C : Cn) (L : List (Addr × Obj × HO)) : Cn := { C with lk := L ++ C.lk }
/-- no name is locked any more -/
def unl (ρ : DEnv) : DEnv := ρ.map fun e => match e with
  | some (.lk kvs) => some (.fz (.dict kvs))
  | e => e
theorem unl_len (ρ : DEnv) : (unl ρ).length = ρ.length := by unfold unl; rw [List.length_map]
theorem unl_get {ρ : DEnv} {i : Nat} {e : EV} (h : (unl ρ)[i]? = some (some e)) : (ρ[i]? = some (some e) ∧ ∀ kvs, e ≠ .lk kvs) ∨ ∃ kvs, ρ[i]? = some (some (.lk kvs)) ∧ e = .fz (.dict kvs) := by
  unfold unl at h
  rw [List.getElem?_map] at h
  cases q : ρ[i]? with
  | none => rw [q] at h; cases h
  | some o =>
    rw [q] at h
    cases o with
    | none => cases h
    | some e' =>
      cases e' with
      | lk kvs => cases h; exact .inr ⟨kvs, rfl, rfl⟩
      | fz d => cases h; exact .inl ⟨rfl, fun _ z => nomatch z⟩
      | ow d => cases h; exact .inl ⟨rfl, fun _ z => nomatch z⟩
      | fn d => cases h; exact .inl ⟨rfl, fun _ z => nomatch z⟩
theorem unl_none {ρ : DEnv} {i : Nat} (h : ρ[i]? = some none) : (unl ρ)[i]? = some none := by
  unfold unl
  rw [List.getElem?_map, h]
  rfl
section
variable {C : Cn} {ρ : DEnv} {w w' : List Int} {S : Addr → Prop} {σ : L2.St} {H H' : Hp} {i : Nat} {a : Addr} {od : Obj} {xs : List (NestedKey × Addr × V)} {kvs : List (D × D)}
theorem kept_lock (h : H a = some (DN C.P C.w a xs)) : Kept S H (upd H a (.frz od (DN C.P C.w a xs))) := by
  refine ⟨fun b vs r => ?_, fun b vs _ r => ?_, fun P w b ys _ r => ?_⟩ <;> by_cases e : b = a
  · subst e
    rcases r with r | ⟨o, r⟩ <;> rw [h] at r <;> (unfold DN at r; cases r)
  · rcases r with r | ⟨o, r⟩
    · exact .inl (by rw [upd_ne e]; exact r)
    · exact .inr ⟨o, by rw [upd_ne e]; exact r⟩
  · subst e
    rcases r with r | ⟨o, r⟩ <;> rw [h] at r <;> (unfold DN at r; cases r)
  · rcases r with r | ⟨o, r⟩
    · exact .inl (by rw [upd_ne e]; exact r)
    · exact .inr ⟨o, by rw [upd_ne e]; exact r⟩
  · subst e
    rcases r with r | ⟨o, r⟩ <;> rw [h] at r
    · exact .inr ⟨od, by rw [upd_same, Option.some.inj r]⟩
    · unfold DN at r; cases r
  · rcases r with r | ⟨o, r⟩
    · exact .inl (by rw [upd_ne e]; exact r)
    · exact .inr ⟨o, by rw [upd_ne e]; exact r⟩
theorem kept_free (h : H a = some (.frz od (DN C.P C.w a xs))) : Kept S H (upd H a (DN C.P C.w a xs)) := by
  have dn : ∀ u, HO.frz od (DN C.P C.w a xs) ≠ .frz od u ∨ u = DN C.P C.w a xs := fun u => by
    by_cases e : u = DN C.P C.w a xs
    · exact .inr e
    · exact .inl fun z => e (by injection z with _ z; exact z.symm)
  refine ⟨fun b vs r => ?_, fun b vs _ r => ?_, fun P w b ys _ r => ?_⟩ <;> by_cases e : b = a
  · subst e
    rcases r with r | ⟨o, r⟩ <;> rw [h] at r
    · cases r
    · injection r with r; injection r with _ r; unfold DN at r; cases r
  · rcases r with r | ⟨o, r⟩
    · exact .inl (by rw [upd_ne e]; exact r)
    · exact .inr ⟨o, by rw [upd_ne e]; exact r⟩
  · subst e
    rcases r with r | ⟨o, r⟩ <;> rw [h] at r
    · cases r
    · injection r with r; injection r with _ r; unfold DN at r; cases r
  · rcases r with r | ⟨o, r⟩
    · exact .inl (by rw [upd_ne e]; exact r)
    · exact .inr ⟨o, by rw [upd_ne e]; exact r⟩
  · subst e
    rcases r with r | ⟨o, r⟩ <;> rw [h] at r
    · unfold DN at r; cases r
    · injection r with r
      injection r with _ r
      exact .inl (by rw [upd_same, r])
  · rcases r with r | ⟨o, r⟩
    · exact .inl (by rw [upd_ne e]; exact r)
    · exact .inr ⟨o, by rw [upd_ne e]; exact r⟩
theorem tabs_lock {T : List NdefX.NTab} (h : NdefX.TabsN T H) {u u' : HO} (hp : H a = some u) (h1 : ∀ ps, u ≠ .tbl ps) (h2 : ∀ q, u ≠ LamX.CodeO a q) : NdefX.TabsN T (upd H a u') := fun p hm => by
  obtain ⟨ps, e1, e2, e3⟩ := h p hm
  have np : p.1 ≠ a := fun z => by rw [z, hp] at e1; exact h1 ps (Option.some.inj e1)
  refine ⟨ps, by rw [upd_ne np]; exact e1, e2, fun pos cv hc => ?_⟩
  obtain ⟨c, ec, eo⟩ := e3 pos cv hc
  refine ⟨c, ec, ?_⟩
  rw [upd_ne (fun z => by rw [z, hp] at eo; exact h2 _ (Option.some.inj eo))]
  exact eo
theorem EnvOk.lock (E : EnvOk C ρ w S σ H) (hρ : ρ[i]? = some (some (.fz (.dict kvs)))) (hσ : σ[i]? = some (some (.ref a))) (hS : S a) (h : H a = some (DN C.P C.w a xs)) (r : Rpk C.P C.w C.K H S xs kvs) (hl : a ∉ C.lk.map fun p => p.1) :
    EnvOk (C.lkd [(a, od, DN C.P C.w a xs)]) (ρ.set i (some (.lk kvs))) w S σ (upd H a (.frz od (DN C.P C.w a xs))) := by
  have k : Kept S H (upd H a (.frz od (DN C.P C.w a xs))) := kept_lock h
  have pw : C.pw ≠ some a := fun z => E.sW a z hS
  refine ⟨by rw [List.length_set]; exact E.len, fun j e g => ?_, fun j l d e p h1 h2 s1 s2 => ?_, fun b g => ?_, E.sB, fun p e => ?_, E.sW, fun b o g n q => ⟨fun m => ?_, fun m => ?_⟩, fun b g => ?_, tabs_lock E.tb h (fun ps => DN_tbl ps) fun q z => ext_code z.symm, fun p e => ?_, fun v d m => (E.hi v d m).mono k fun _ z => z, fun p m => ?_⟩
  · rcases get_set g with ⟨rfl, g2⟩ | ⟨hj, g2⟩
    · cases g2
      exact ⟨_, hσ, a, od, xs, rfl, hS, List.mem_cons_self, r.mono k fun _ z => z⟩
    · obtain ⟨v, h1, h2⟩ := E.val j e g2
      refine ⟨v, h1, ?_⟩
      cases e with
      | fz d => exact Rp.mono k (fun _ z => z) h2
      | ow d =>
        obtain ⟨p, e, o, n, s, q⟩ := h2
        have pa : p ≠ a := fun z => s (z ▸ hS)
        refine ⟨p, e, ?_, n, s, q⟩
        cases o with
        | lst e r => exact .lst (by rw [upd_ne pa]; exact e) (r.mono k fun _ z => z)
        | dct e r => exact .dct (by rw [upd_ne pa]; exact e) (r.mono k fun _ z => z)
      | fn _ => exact h2
      | lk _ =>
        obtain ⟨c, o, ys, e, s, m, r⟩ := h2
        exact ⟨c, o, ys, e, s, List.mem_cons_of_mem _ m, r.mono k fun _ z => z⟩
  · rcases get_set h1 with ⟨_, z⟩ | ⟨_, g1⟩
    · cases z
    rcases get_set h2 with ⟨_, z⟩ | ⟨_, g2⟩
    · cases z
    exact E.apart j l d e p g1 g2 s1 s2
  · by_cases e : b = a
    · subst e; exact hS
    · rw [upd_ne e] at g; exact E.sN b g
  · rw [upd_ne (fun z => pw (by rw [← z]; exact e))]; exact E.st p e
  · have ba : b ≠ a := fun z => m (by rw [z]; exact List.mem_cons_self)
    rw [upd_ne ba]
    exact (E.gk b o g n q).1 fun z => m (List.mem_cons_of_mem _ z)
  · by_cases e : b = a
    · subst e
      have := (E.gk b o g n q).1 hl
      rw [h] at this
      cases this
      exact .inr ⟨od, upd_same⟩
    · rw [upd_ne e]
      exact (E.gk b o g n q).2 ((List.mem_cons.mp m).resolve_left e)
  · by_cases e : b = a
    · subst e; rw [upd_same] at g; cases g
    · rw [upd_ne e] at g; exact E.gn b g
  · obtain ⟨x, y⟩ := E.sl p e
    refine ⟨x, ?_⟩
    have hne : i ≠ C.pi := fun z => by rw [← z, hρ] at y; cases y
    show (ρ.set i _)[C.pi]? = _
    rw [List.getElem?_set_ne hne]; exact y
  · rcases List.mem_cons.mp m with rfl | m
    · exact upd_same
    · rw [upd_ne (fun z => hl (List.mem_map.mpr ⟨p, m, z⟩))]
      exact E.lo p m
/-- .. and free again -/
theorem EnvOk.free (E : EnvOk (C.lkd [(a, od, DN C.P C.w a xs)]) ρ w S σ H) (hl : a ∉ C.lk.map fun p => p.1) (pw : C.pw ≠ some a) (h00 : ∀ u, C.H0 a ≠ some (.frz od u)) : EnvOk C (unl ρ) w S σ (upd H a (DN C.P C.w a xs)) := by
  have h : H a = some (.frz od (DN C.P C.w a xs)) := E.lo _ List.mem_cons_self
  have k : Kept S H (upd H a (DN C.P C.w a xs)) := kept_free h
  refine ⟨by rw [unl_len]; exact E.len, fun j e g => ?_, fun j l d e p h1 h2 s1 s2 => ?_, fun b g => ?_, E.sB, fun p e => ?_, E.sW, fun b o g n q => ⟨fun m => ?_, fun m => ?_⟩, fun b g => ?_, tabs_lock E.tb h (fun ps z => nomatch z) (fun q z => by unfold LamX.CodeO at z; cases z), fun p e => ?_, fun v d m => (E.hi v d m).mono k fun _ z => z, fun p m => ?_⟩
  · rcases unl_get g with ⟨g1, nl⟩ | ⟨kvs, g1, rfl⟩
    · obtain ⟨v, h1, h2⟩ := E.val j e g1
      refine ⟨v, h1, ?_⟩
      cases e with
      | fz d => exact Rp.mono k (fun _ z => z) h2
      | ow d =>
        obtain ⟨p, e, o, n, s, q⟩ := h2
        have pa : p ≠ a := fun z => by
          subst z
          cases o with
          | lst e r => rw [h] at e; cases e
          | dct e r => rw [h] at e; unfold DN at e; cases e
        refine ⟨p, e, ?_, n, s, q⟩
        cases o with
        | lst e r => exact .lst (by rw [upd_ne pa]; exact e) (r.mono k fun _ z => z)
        | dct e r => exact .dct (by rw [upd_ne pa]; exact e) (r.mono k fun _ z => z)
      | fn _ => exact h2
      | lk kvs => exact absurd rfl (nl kvs)
    · obtain ⟨v, h1, c, o, ys, e, s, m, r⟩ := E.val j _ g1
      subst e
      refine ⟨_, h1, Rp.mono k (fun _ z => z) (.dct s (.inr ⟨o, E.lo _ m⟩) r)⟩
  · have f : ∀ (j : Nat) (d : D), (unl ρ)[j]? = some (some (.ow d)) → ρ[j]? = some (some (.ow d)) := fun j d z => by
      rcases unl_get z with ⟨z, _⟩ | ⟨_, _, z⟩
      · exact z
      · cases z
    exact E.apart j l d e p (f _ _ h1) (f _ _ h2) s1 s2
  · by_cases e : b = a
    · subst e; rw [upd_same] at g; cases g
    · rw [upd_ne e] at g; exact E.sN b g
  · rw [upd_ne (fun z => pw (by rw [← z]; exact e))]; exact E.st p e
  · by_cases e : b = a
    · subst e
      rcases (E.gk b o g n q).2 List.mem_cons_self with z | ⟨ob, z⟩
      · rw [h] at z
        cases z
        exact absurd g (h00 _)
      · rw [h] at z
        injection z with z
        injection z with _ z
        rw [upd_same, z]
    · rw [upd_ne e]
      exact (E.gk b o g n q).1 fun z => m ((List.mem_cons.mp z).resolve_left e)
  · have ba : b ≠ a := fun z => hl (z ▸ m)
    rw [upd_ne ba]
    exact (E.gk b o g n q).2 (List.mem_cons_of_mem _ m)
  · by_cases e : b = a
    · subst e; rw [upd_same] at g; cases g
    · rw [upd_ne e] at g; exact E.gn b g
  · obtain ⟨x, y⟩ := E.sl p e
    exact ⟨x, unl_none y⟩
  · rw [upd_ne (fun z => hl (List.mem_map.mpr ⟨p, m, z⟩))]
    exact E.lo p (List.mem_cons_of_mem _ m)
/-- it is locked already -/
theorem EnvOk.lockF (E : EnvOk C ρ w S σ H) (hρ : ρ[i]? = some (some (.fz (.dict kvs)))) (hσ : σ[i]? = some (some (.ref a))) (hS : S a) (h : H a = some (.frz od (DN C.P C.w a xs))) (r : Rpk C.P C.w C.K H S xs kvs) (hl : a ∉ C.lk.map fun p => p.1) :
    EnvOk (C.lkd [(a, od, DN C.P C.w a xs)]) (ρ.set i (some (.lk kvs))) w S σ H := by
  refine ⟨by rw [List.length_set]; exact E.len, fun j e g => ?_, fun j l d e p h1 h2 s1 s2 => ?_, E.sN, E.sB, E.st, E.sW, fun b o g n q => ⟨fun m => ?_, fun m => ?_⟩, E.gn, E.tb, fun p e => ?_, E.hi, fun p m => ?_⟩
  · rcases get_set g with ⟨rfl, g2⟩ | ⟨hj, g2⟩
    · cases g2
      exact ⟨_, hσ, a, od, xs, rfl, hS, List.mem_cons_self, r⟩
    · obtain ⟨v, h1, h2⟩ := E.val j e g2
      refine ⟨v, h1, ?_⟩
      cases e with
      | fz d => exact h2
      | ow d => exact h2
      | fn _ => exact h2
      | lk _ =>
        obtain ⟨c, o, ys, e, s, m, r⟩ := h2
        exact ⟨c, o, ys, e, s, List.mem_cons_of_mem _ m, r⟩
  · rcases get_set h1 with ⟨_, z⟩ | ⟨_, g1⟩
    · cases z
    rcases get_set h2 with ⟨_, z⟩ | ⟨_, g2⟩
    · cases z
    exact E.apart j l d e p g1 g2 s1 s2
  · exact (E.gk b o g n q).1 fun z => m (List.mem_cons_of_mem _ z)
  · by_cases e : b = a
    · subst e
      exact .inl ((E.gk b o g n q).1 hl)
    · exact (E.gk b o g n q).2 ((List.mem_cons.mp m).resolve_left e)
  · obtain ⟨x, y⟩ := E.sl p e
    refine ⟨x, ?_⟩
    have hne : i ≠ C.pi := fun z => by rw [← z, hρ] at y; cases y
    show (ρ.set i _)[C.pi]? = _
    rw [List.getElem?_set_ne hne]; exact y
  · rcases List.mem_cons.mp m with rfl | m
    · exact h
    · exact E.lo p m
theorem EnvOk.setL (E : EnvOk C ρ w S σ H) (hρ : ρ[i]? = some (some (.fz (.dict kvs)))) (hσ : σ[i]? = some (some (.ref a))) (hS : S a) (m : (a, od, DN C.P C.w a xs) ∈ C.lk) (r : Rpk C.P C.w C.K H S xs kvs) : EnvOk C (ρ.set i (some (.lk kvs))) w S σ H := by
  refine ⟨by rw [List.length_set]; exact E.len, fun j e g => ?_, fun j l d e p h1 h2 s1 s2 => ?_, E.sN, E.sB, E.st, E.sW, E.gk, E.gn, E.tb, fun p e => ?_, E.hi, E.lo⟩
  · rcases get_set g with ⟨rfl, g2⟩ | ⟨hj, g2⟩
    · cases g2
      exact ⟨_, hσ, a, od, xs, rfl, hS, m, r⟩
    · exact E.val j e g2
  · rcases get_set h1 with ⟨_, z⟩ | ⟨_, g1⟩
    · cases z
    rcases get_set h2 with ⟨_, z⟩ | ⟨_, g2⟩
    · cases z
    exact E.apart j l d e p g1 g2 s1 s2
  · obtain ⟨x, y⟩ := E.sl p e
    refine ⟨x, ?_⟩
    have hne : i ≠ C.pi := fun z => by rw [← z, hρ] at y; cases y
    rw [List.getElem?_set_ne hne]; exact y
theorem EnvOk.unlN (E : EnvOk C ρ w S σ H) : EnvOk C (unl ρ) w S σ H := by
  refine ⟨by rw [unl_len]; exact E.len, fun j e g => ?_, fun j l d e p h1 h2 s1 s2 => ?_, E.sN, E.sB, E.st, E.sW, E.gk, E.gn, E.tb, fun p e => ?_, E.hi, E.lo⟩
  · rcases unl_get g with ⟨g1, _⟩ | ⟨kvs, g1, rfl⟩
    · exact E.val j e g1
    · obtain ⟨v, h1, c, o, ys, e, s, m, r⟩ := E.val j _ g1
      subst e
      exact ⟨_, h1, .dct s (.inr ⟨o, E.lo _ m⟩) r⟩
  · have f : ∀ (j : Nat) (d : D), (unl ρ)[j]? = some (some (.ow d)) → ρ[j]? = some (some (.ow d)) := fun j d z => by
      rcases unl_get z with ⟨z, _⟩ | ⟨_, _, z⟩
      · exact z
      · cases z
    exact E.apart j l d e p (f _ _ h1) (f _ _ h2) s1 s2
  · obtain ⟨x, y⟩ := E.sl p e
    exact ⟨x, unl_none y⟩
theorem EnvOk.freeF (E : EnvOk (C.lkd [(a, od, DN C.P C.w a xs)]) ρ w S σ H) (h01 : ∀ o, C.H0 a = some o → (∀ ps, o ≠ .tbl ps) → C.pw ≠ some a → o = .frz od (DN C.P C.w a xs)) : EnvOk C (unl ρ) w S σ H := by
  have h : H a = some (.frz od (DN C.P C.w a xs)) := E.lo _ List.mem_cons_self
  refine ⟨by rw [unl_len]; exact E.len, fun j e g => ?_, fun j l d e p h1 h2 s1 s2 => ?_, E.sN, E.sB, E.st, E.sW, fun b o g n q => ⟨fun m => ?_, fun m => ?_⟩, E.gn, E.tb, fun p e => ?_, E.hi, fun p m => E.lo p (List.mem_cons_of_mem _ m)⟩
  · rcases unl_get g with ⟨g1, nl⟩ | ⟨kvs, g1, rfl⟩
    · obtain ⟨v, h1, h2⟩ := E.val j e g1
      refine ⟨v, h1, ?_⟩
      cases e with
      | fz d => exact h2
      | ow d => exact h2
      | fn _ => exact h2
      | lk kvs => exact absurd rfl (nl kvs)
    · obtain ⟨v, h1, c, o, ys, e, s, m, r⟩ := E.val j _ g1
      subst e
      exact ⟨_, h1, .dct s (.inr ⟨o, E.lo _ m⟩) r⟩
  · have f : ∀ (j : Nat) (d : D), (unl ρ)[j]? = some (some (.ow d)) → ρ[j]? = some (some (.ow d)) := fun j d z => by
      rcases unl_get z with ⟨z, _⟩ | ⟨_, _, z⟩
      · exact z
      · cases z
    exact E.apart j l d e p (f _ _ h1) (f _ _ h2) s1 s2
  · by_cases e : b = a
    · subst e
      rw [h, h01 o g n q]
    · exact (E.gk b o g n q).1 fun z => m ((List.mem_cons.mp z).resolve_left e)
  · exact (E.gk b o g n q).2 (List.mem_cons_of_mem _ m)
  · obtain ⟨x, y⟩ := E.sl p e
    exact ⟨x, unl_none y⟩
end
section
variable {X : Cx} {C : Cn} {W : WX}
/-- the statement runs while the name's dict is locked -/
def unlO : Out → Out
  | .nx ρ w => .nx (unl ρ) w
  | .bk ρ w => .bk (unl ρ) w
  | .ct ρ w => .ct (unl ρ) w
  | .rt r w => .rt r w
  | _ => .err
def sLk (i : Nat) (g : Sx) : Sx := fun ρ w => match ρ[i]? with
  | some (some (.fz (.dict kvs))) => unlO (g (ρ.set i (some (.lk kvs))) w)
  | _ => .err
theorem pst_free {H1 H' : Hp} {a : Addr} {u : HO} {w' : List Int} {L : List (Addr × Obj × HO)} (p : Pst (C.lkd L) H1 H' w') (hu : ∃ P w xs, u = DN P w a xs) (pw : C.pw ≠ some a) (hf : ∃ od u0, H' a = some (.frz od u0)) : Pst C (upd H1 a u) (upd H' a u) w' := by
  obtain ⟨od, u0, hf⟩ := hf
  refine ⟨⟨fun b o h n q => ?_, fun b h => ?_⟩, fun q e => ?_, tabs_lock p.tb hf (fun ps z => nomatch z) fun q z => by unfold LamX.CodeO at z; cases z⟩
  · by_cases e : b = a
    · subst e; rw [upd_same] at h ⊢; exact h
    · rw [upd_ne e] at h ⊢; exact p.g.keep b o h n q
  · by_cases e : b = a
    · subst e; rw [upd_same] at h; cases h
    · rw [upd_ne e] at h ⊢; exact p.g.nn b h
  · rw [upd_ne (fun z => pw (by rw [← z]; exact e))]; exact p.st q e
theorem rv_free {H1 H' : Hp} {S : Addr → Prop} {v : V} {r : RV} {a : Addr} {od : Obj} {xs : List (NestedKey × Addr × V)} {L : List (Addr × Obj × HO)} (h : RvOk (C.lkd L) H1 H' S v r) (h1 : H1 a ≠ none) (hf : H' a = some (.frz od (DN C.P C.w a xs))) : RvOk C (upd H1 a (DN C.P C.w a xs)) (upd H' a (DN C.P C.w a xs)) S v r := by
  have own : ∀ {S : Addr → Prop} {p : Addr} {d : D}, Own C.P C.w C.K H' S p d → p ≠ a ∧ Own C.P C.w C.K (upd H' a (DN C.P C.w a xs)) S p d := fun {S p d} o => by
    have pa : p ≠ a := fun z => by
      subst z
      cases o with
      | lst e r => rw [hf] at e; cases e
      | dct e r => rw [hf] at e; unfold DN at e; cases e
    refine ⟨pa, ?_⟩
    cases o with
    | lst e r => exact .lst (by rw [upd_ne pa]; exact e) (r.mono (kept_free hf) fun _ z => z)
    | dct e r => exact .dct (by rw [upd_ne pa]; exact e) (r.mono (kept_free hf) fun _ z => z)
  cases r with
  | fz d => exact Rp.mono (kept_free hf) (fun _ z => z) h
  | ow d =>
    obtain ⟨p, e, o, n⟩ := h
    obtain ⟨pa, o2⟩ := own o
    exact ⟨p, e, o2, by rw [upd_ne pa]; exact n⟩
  | bw d =>
    obtain ⟨p, e, o, r⟩ := h
    exact ⟨p, e, (own o).2, r⟩
theorem ds_lock {i : Nat} {st : Stmt} {g : Sx} (h : ∀ L, DS X (C.lkd L) W st g) : DS X C W st (sLk i g) := by
  have any : PS X st (fun D σ H => ∃ L, sT (C.lkd L) W g D σ H) := ⟨fun pins s σ H D I ⟨L, q⟩ => (h L).run pins s σ H D I q⟩
  refine ⟨fun pins s σ H D I hq => ?_⟩
  obtain ⟨ρ, w, S, E, q⟩ := sT_to hq
  unfold sLk at q
  split at q
  · rename_i kvs hρ
    obtain ⟨v, hσ, hv⟩ := E.val i _ hρ
    obtain ⟨a, xs, rfl, ra, rk⟩ := Lt.dict (C := C) (.inl (show Rp C.P C.w C.K H S v (.dict kvs) from hv))
    have hS : S a := by
      cases (show Rp C.P C.w C.K H S (.ref a) (.dict kvs) from hv) with
      | dct s _ _ => exact s
    have pw : C.pw ≠ some a := fun z => E.sW a z hS
    by_cases hl : a ∈ C.lk.map fun p => p.1
    · obtain ⟨⟨a', od, u⟩, m, ea⟩ := List.mem_map.mp hl
      cases ea
      have lo := E.lo _ m
      rcases ra with ra | ⟨o2, ra⟩
      · rw [ra] at lo; unfold DN at lo; cases lo
      · rw [ra] at lo
        injection lo with lo
        injection lo with l1 l2
        dsimp only at l1 l2
        subst l1 l2
        refine any.run pins s σ H D I ⟨[], sT_of (C := C.lkd []) (E.setL hρ hσ hS m rk) ?_⟩
        revert q
        cases g (ρ.set i (some (.lk kvs))) w with
        | nx ρ' w' => exact fun q σ' H' S' E' => q _ _ _ (EnvOk.unlN (C := C) E')
        | bk ρ' w' => exact fun q σ' H' S' E' => q _ _ _ (EnvOk.unlN (C := C) E')
        | ct ρ' w' => exact fun q σ' H' S' E' => q _ _ _ (EnvOk.unlN (C := C) E')
        | rt r w' => exact fun q v H' σ1 H1 ρ1 w1 S1 E' p' r' => q v H' σ1 H1 _ w1 S1 (EnvOk.unlN (C := C) E') ⟨p'.g, p'.st, p'.tb⟩ r'
        | exc c d => exact fun q => q.elim
        | err => exact fun q => q.elim
    · rcases ra with ra | ⟨od, ra⟩
      · refine (ps_lock any).run pins s σ H D I ⟨a, _, ra, trivial, fun od => ⟨[(a, od, DN C.P C.w a xs)], sT_of (E.lock (od := od) hρ hσ hS ra rk hl) ?_⟩⟩
        have h00 : ∀ u, C.H0 a ≠ some (.frz od u) := fun u z => by
          have := (E.gk a _ z (fun _ z => nomatch z) pw).1 hl
          rw [ra] at this
          unfold DN at this; cases this
        revert q
        cases g (ρ.set i (some (.lk kvs))) w with
        | nx ρ' w' => exact fun q σ' H' S' E' => ⟨E'.lo _ List.mem_cons_self, q _ _ _ (E'.free hl pw h00)⟩
        | bk ρ' w' => exact fun q σ' H' S' E' => ⟨E'.lo _ List.mem_cons_self, q _ _ _ (E'.free hl pw h00)⟩
        | ct ρ' w' => exact fun q σ' H' S' E' => ⟨E'.lo _ List.mem_cons_self, q _ _ _ (E'.free hl pw h00)⟩
        | rt r w' =>
          intro q v H' σ1 H1 ρ1 w1 S1 E' p' r'
          have f1 : H1 a = some (.frz od (DN C.P C.w a xs)) := E'.lo _ List.mem_cons_self
          have f2 := p'.g.keep _ _ f1 (fun _ z => nomatch z) pw
          exact ⟨f2, q v _ σ1 _ _ _ _ (E'.free hl pw h00) (pst_free p' ⟨_, _, _, rfl⟩ pw ⟨_, _, f2⟩) (rv_free r' (by rw [f1]; exact fun z => nomatch z) f2)⟩
        | exc c d => exact fun q => q.elim
        | err => exact fun q => q.elim
      · refine any.run pins s σ H D I ⟨[(a, od, DN C.P C.w a xs)], sT_of (E.lockF hρ hσ hS ra rk hl) ?_⟩
        have h01 : ∀ o, C.H0 a = some o → (∀ ps, o ≠ .tbl ps) → C.pw ≠ some a → o = .frz od (DN C.P C.w a xs) := fun o z n q => by
          have := (E.gk a o z n q).1 hl
          rw [ra] at this
          exact (Option.some.inj this).symm
        revert q
        cases g (ρ.set i (some (.lk kvs))) w with
        | nx ρ' w' => exact fun q σ' H' S' E' => q _ _ _ (E'.freeF h01)
        | bk ρ' w' => exact fun q σ' H' S' E' => q _ _ _ (E'.freeF h01)
        | ct ρ' w' => exact fun q σ' H' S' E' => q _ _ _ (E'.freeF h01)
        | rt r w' => exact fun q v H' σ1 H1 ρ1 w1 S1 E' p' r' => q v H' σ1 H1 _ w1 S1 (E'.freeF h01) ⟨p'.g, p'.st, p'.tb⟩ r'
        | exc c d => exact fun q => q.elim
        | err => exact fun q => q.elim
  · exact q.elim
end
end DL
namespace DL
open PySem PySem.Spec PyProof.Rows L2
/-! ### walks of a locked dict -/
section
variable {X : Cx} {C : Cn} {pins : List (Addr × Obj)} {σ : L2.St} {H : Hp} {s : Shared} {a : Addr} {o : Obj} {xs : List (NestedKey × Addr × V)}
/-- the locked dict at the heap -/
theorem locked_at {P : Program} {w : World} (I : Inv X pins σ H s) (h : H a = some (.frz o (DN P w a xs))) :
    ∃ es ep ys, s.heap.get? a = some o ∧ o.ExactDict ∧ o.data = .dict es ep ∧ es.toList = ys.map (entryOfKey (nestedKind P w)) ∧ Paired PrR xs ys ∧ (a == sysModules) = false := by
  obtain ⟨e, ⟨o2, es, ep, ys, e2, h2, h3, h4, h5, h6, h7, h8⟩, _, _⟩ := I.hok a _ h
  rw [e] at e2
  cases e2
  exact ⟨es, ep, ys, e, h2, h3, h4, h5, h7⟩
theorem pr_length {ys : List (NestedKey × Addr × Value)} (r : Paired PrR xs ys) : xs.length = ys.length := Paired.length r
theorem pr_at {ys : List (NestedKey × Addr × Value)} (r : Paired PrR xs ys) {i : Nat} (hi : i < xs.length) : ∃ k b v u, xs[i]? = some (k, b, v) ∧ ys[i]? = some (k, b, u) ∧ RelV v u := by
  induction r generalizing i with
  | nil => cases hi
  | @cons x y _ _ h r ih =>
    obtain ⟨k, b, v⟩ := x
    obtain ⟨k2, b2, u⟩ := y
    obtain ⟨h1, h2, h3⟩ := h
    dsimp only at h1 h2 h3
    subst h1 h2
    cases i with
    | zero => exact ⟨k, b, v, u, rfl, rfl, h3⟩
    | succ i => exact ih (by simpa using hi)
theorem data_at {es es' : Array DictEntry} {ep ep' : Nat} (h : o.data = .dict es ep) (h' : o.data = .dict es' ep') : es = es' ∧ ep = ep' := by
  rw [h] at h'
  cases h'
  exact ⟨rfl, rfl⟩
end
/-- the pairs, each a new tuple -/
def ItI (P : Program) (w : World) (d : Addr) (o : Obj) (xs : List (NestedKey × Addr × V)) : It :=
  ⟨fun i H => H d = some (.frz o (DN P w d xs)) ∧ i < xs.length, fun i H v H' => ∃ T k b x, xs[i]? = some (k, b, x) ∧ v = .ref T ∧ H T = none ∧ H' = upd H T (.tup [.ref b, x]), fun i H => H d = some (.frz o (DN P w d xs)) ∧ xs.length ≤ i⟩
theorem turn_itI {P0 P : Program} {w0 w : World} {K : PySem.W.Frag} {elts : List Expr} {kk : Nat} {tpos : Pos} {d it : Addr} {o : Obj} {xs : List (NestedKey × Addr × V)} {es : Array DictEntry} {ep : Nat} (od : o.data = .dict es ep) :
    Turn P0 w0 K (.Tuple elts kk tpos) (ItI P w d o xs) [it] it (fun i h => ∃ u v, IsItemIter h it d i es.size ep u v) where
  mem := by simp
  obj := fun i h ⟨u, v, e⟩ b m => by
    cases List.mem_singleton.mp m
    exact ⟨_, e, fun _ z => nomatch z⟩
  keep := fun i h h' ⟨u, v, e⟩ k => ⟨u, v, k it (by simp) _ e⟩
  item := by
    intro X hP hw hK hc i pins s σ H E I hf ⟨u0, v0, st⟩ ⟨hd, hi⟩
    subst hP hw hK
    obtain ⟨es', ep', ys, at_, ex, dt, ent, pr, sm⟩ := locked_at I hd
    obtain ⟨rfl, rfl⟩ := data_at od dt
    obtain ⟨k, b, v, u, h1, h2, h3⟩ := pr_at pr hi
    have size : es.size = ys.length := by rw [← Array.length_toList, ent, List.length_map]
    have ie : i < es.size := by rw [size, ← pr_length pr]; exact hi
    have here : es[i] = entryOfKey (nestedKind P w) (k, b, u) := by
      have z : es.toList[i]? = some es[i] := by rw [Array.getElem?_toList, Array.getElem?_eq_getElem ie]
      rw [ent, List.getElem?_map, h2] at z
      exact (Option.some.inj z).symm
    have young : it < s.heap.objs.size := Heap.lt_size st
    refine DT.nextI st ⟨o, at_, ex, od⟩ ie fun h' out tup sz kp => ?_
    refine ⟨_, rfl, wpAny_letOwnedTupleGo_items (s := { s with heap := h' }) out fun h'' st2 same => ?_⟩
    rw [here] at tup
    have tup2 : h''.get? s.heap.objs.size = some { cls := .type "tuple", data := .seq #[.ref b, u] } := (same.2 _ (Nat.ne_of_gt young)).trans tup
    have new : ObjOk X.prog X.w (upd H s.heap.objs.size (.tup [.ref b, v])) h'' s.heap.objs.size (.tup [.ref b, v]) :=
      ⟨by show 2 ≤ sizeLine; decide, [.ref b, u], .cons rfl (.cons h3 .nil), ⟨_, tup2, rfl, _, rfl⟩⟩
    have I2 : Inv X pins σ (upd H s.heap.objs.size (.tup [.ref b, v])) { s with heap := h'' } :=
      I.turnedNew (t' := s.toks) (ch := [it]) (fun c ob n e => (same.2 c (by simpa using n)).trans (kp c ob (by simpa using n) e)) hf (Nat.le_refl _) new
    refine ⟨.ref s.heap.objs.size, _, I2, rfl, ⟨_, k, b, v, h1, rfl, I.hok.fresh (Nat.le_refl _), rfl⟩, ⟨_, _, st2⟩, fun c m => ?_⟩
    cases List.mem_singleton.mp m
    rw [upd_ne (Nat.ne_of_lt young)]
    exact (hf it (by simp)).1
  done := by
    intro X hP hw hK hc i pins s σ H E I hf ⟨u0, v0, st⟩ ⟨hd, hi⟩
    subst hP hw hK
    obtain ⟨es', ep', ys, at_, ex, dt, ent, pr, sm⟩ := locked_at I hd
    obtain ⟨rfl, rfl⟩ := data_at od dt
    have size : es.size = ys.length := by rw [← Array.length_toList, ent, List.length_map]
    obtain ⟨c0, c1, _, c3, c4, c5⟩ := hf it (by simp)
    exact DT.endI (I.ok.hd hc) st ⟨o, at_, ex, od⟩ (by rw [size, ← pr_length pr]; exact hi) fun h' eb => ⟨rfl, I.turned (t' := s.toks) (fun b ob n e => eb b ob n e) c0 c1 c3 c4 c5⟩
  self := fun A i s Q E ⟨_, _, e⟩ h => PySem.W.kcp_self e h
/-! as data -/
def pairsD (kvs : List (D × D)) : List D := kvs.map fun p => .tuple [p.1, p.2]
def iItems (i : Nat) : Ix := fun ρ w => match ρ[i]? with
  | some (some (.lk kvs)) => .ok (pairsD kvs, w)
  | _ => .err
theorem rpk_at {P : Program} {w : World} {K : PySem.W.Frag} {H : Hp} {S : Addr → Prop} : ∀ {xs : List (NestedKey × Addr × V)} {kvs : List (D × D)} {i : Nat} {k : NestedKey} {b : Addr} {v : V}, Rpk P w K H S xs kvs → xs[i]? = some (k, b, v) → ∃ d, kvs[i]? = some (keyD k, d) ∧ Rp P w K H S (.ref b) (keyD k) ∧ Rp P w K H S v d
  | _, _, i, k, b, v, .nil, h => by simp at h
  | _, _, 0, k, b, v, .cons h1 h2 h3 r, h => by
    simp at h
    obtain ⟨rfl, rfl, rfl⟩ := h
    exact ⟨_, rfl, h1, h3⟩
  | _, _, i + 1, k, b, v, .cons h1 h2 h3 r, h => by
    obtain ⟨d, e, a1, a2⟩ := rpk_at r (i := i) (by simpa using h)
    exact ⟨d, by simpa using e, a1, a2⟩
section
variable {X : Cx} {C : Cn} {W : WX}
/-- what the pairs lean on -/
def leanOn (xs : List (NestedKey × Addr × V)) (kvs : List (D × D)) : List (V × D) := ((xs.zip kvs).map fun p => (V.ref p.1.2.1, p.2.1)) ++ ((xs.zip kvs).map fun p => (p.1.2.2, p.2.2))
theorem lean_of {H : Hp} {S : Addr → Prop} {xs : List (NestedKey × Addr × V)} {kvs : List (D × D)} (r : Rpk C.P C.w C.K H S xs kvs) : ∀ v d, (v, d) ∈ leanOn xs kvs → Rp C.P C.w C.K H S v d := fun v d m => by
  have each : ∀ p, p ∈ xs.zip kvs → Rp C.P C.w C.K H S (V.ref p.1.2.1) p.2.1 ∧ Rp C.P C.w C.K H S p.1.2.2 p.2.2 := fun p hp => by
    obtain ⟨i, hi⟩ := List.mem_iff_getElem?.mp hp
    obtain ⟨h1, h2⟩ := List.getElem?_zip_eq_some.mp hi
    obtain ⟨⟨k, b, v⟩, kv⟩ := p
    obtain ⟨d, e, a1, a2⟩ := rpk_at r h1
    rw [h2] at e
    cases e
    exact ⟨a1, a2⟩
  rcases List.mem_append.mp m with m | m
  · obtain ⟨p, hp, e⟩ := List.mem_map.mp m
    cases e
    exact (each p hp).1
  · obtain ⟨p, hp, e⟩ := List.mem_map.mp m
    cases e
    exact (each p hp).2
theorem lean_at {H : Hp} {S : Addr → Prop} {xs : List (NestedKey × Addr × V)} {kvs : List (D × D)} (hs : ∀ v d, (v, d) ∈ leanOn xs kvs → Rp C.P C.w C.K H S v d) {i : Nat} {k : NestedKey} {b : Addr} {v : V} {q : D × D} (h1 : xs[i]? = some (k, b, v)) (h2 : kvs[i]? = some q) : Rp C.P C.w C.K H S (.ref b) q.1 ∧ Rp C.P C.w C.K H S v q.2 := by
  have m : ((k, b, v), q) ∈ xs.zip kvs := List.mem_iff_getElem?.mpr ⟨i, List.getElem?_zip_eq_some.mpr ⟨h1, h2⟩⟩
  exact ⟨hs _ _ (List.mem_append_left _ (List.mem_map.mpr ⟨_, m, rfl⟩)), hs _ _ (List.mem_append_right _ (List.mem_map.mpr ⟨_, m, rfl⟩))⟩
theorem itD_items {d : Addr} {o : Obj} {xs : List (NestedKey × Addr × V)} {kvs : List (D × D)} (hl : (d, o, DN C.P C.w d xs) ∈ C.lk) (len : xs.length = kvs.length) : ItD C (ItI C.P C.w d o xs) (pairsD kvs) (leanOn xs kvs) := by
  intro S H sN hs lo
  have at_ := lo _ hl
  have len2 : (pairsD kvs).length = xs.length := by unfold pairsD; rw [List.length_map, len]
  refine ⟨fun i hi => ⟨⟨at_, by rw [← len2]; exact hi⟩, fun x H' y => ?_⟩, fun i hi => ⟨at_, by rw [← len2]; exact hi⟩⟩
  obtain ⟨T, k, b, v, e, rfl, hT, rfl⟩ := y
  have hk : i < kvs.length := by rw [len2, len] at hi; exact hi
  obtain ⟨r1, r2⟩ := lean_at hs e (List.getElem?_eq_getElem hk)
  obtain ⟨ex, r⟩ := rp_pair hT r1 r2
  exact ⟨ex, _, by unfold pairsD; rw [List.getElem?_map, List.getElem?_eq_getElem hk]; rfl, r⟩
theorem di_items {y : Str} {i : Nat} {py apos cpos tpos : Pos} {elts : List Expr} {kk : Nat} (t : Tie X C) (hN : X.N[i]? = some y) (hv : Vis X.env.scope y) (hd : (y == ("__debug__" : Str)) = false := by decide) (hcd : (y == ("__classdict__" : Str)) = false := by decide)
    (hbase : attributeBase (.Name y py) "items" X.env (eval (.Name y py) X.env) = eval (.Name y py) X.env := by rfl) (hline : (apos.endLine == cpos.line) = true := by rfl) :
    DI X C W (.Tuple elts kk tpos) (.Call (.Attribute (.Name y py) "items" apos) [] [] cpos) (iItems i) := by
  refine ⟨fun pins s σ H R I hq => ?_⟩
  obtain ⟨ρ, w, S, E, q⟩ := hq
  unfold iItems at q
  split at q
  · rename_i kvs hρ
    obtain ⟨v, hσ, a, o, xs, rfl, hS, m, rk⟩ := E.val i _ hρ
    have at_ := E.lo _ m
    refine wpAny_Call_method (T := "dict") (id := "dict.items") hbase rfl hline F.plainAttrs_dict F.slot_dict_items F.type_dict_items (thn ((pe_var hN hv hd hcd).run pins s σ H (fun x H1 => x = .ref a ∧ H = H1) I ⟨.ref a, hσ, rfl, rfl⟩) fun u s1 ⟨x, H1, I1, rx, ex, eH⟩ => ?_)
    subst ex eH
    obtain rfl : u = Value.ref a := rx
    obtain ⟨es, ep, ys, g1, g2, g3, g4, g5, g6⟩ := locked_at I1 at_
    have ty : s1.TypeIs (.ref a) "dict" := ⟨o, g1, g2.1⟩
    refine ⟨ty, fun b e => by cases e; exact ⟨o, g1, g2.2.1⟩, ?_⟩
    have raw : DT.Raw s1.heap a es ep := ⟨o, g1, g2, g3⟩
    have size : es.size = ys.length := by rw [← Array.length_toList, g4, List.length_map]
    have I2 : Inv X pins σ H { s1 with heap := s1.heap.push { cls := .type "dict_items", data := .fields #[.ref a] } } := I1.kept (t' := s1.toks) fun _ _ z => Heap.get?_push_of_some _ z
    have fin : wpAny (model X.prog X.w) X.A (pyIter (.ref s1.heap.objs.size)) (PIE X pins σ (.Tuple elts kk tpos) R) X.xe { s1 with heap := s1.heap.push { cls := .type "dict_items", data := .fields #[.ref a] } } :=
      DT.iterI ⟨_, Heap.get?_push_size _ rfl, rfl, rfl⟩ (raw.push _) (pi_one (tk := s1.toks) I2 _ (turn_itI (P := C.P) (w := C.w) (xs := xs) g3) ⟨.none, .none, Heap.get?_push_size _ rfl⟩ (q (ItI C.P C.w a o xs) H (leanOn xs kvs) E.rf (itD_items m (rpk_length rk)) (lean_of rk)))
    show wpAny _ _ (callWith cpos (.builtin "dict.items") [.ref a] [] []) _ X.xe s1
    exact method_meetsIn F.slot_dict_items F.entry_dict_items rfl (PySem.evalArgs_none ⟨rfl, ty, F.args_dict_items_1 _, _, DT.meetsItems (es := es) (ep := ep) g6, ⟨raw, fin⟩⟩)
  · exact q.elim
end
end DL
namespace DL
open PySem PySem.Spec PyProof.Rows L2
/-! ### an expression that walks a name's dict -/
section
variable {X : Cx} {C : Cn} {W : WX}
def eLk (i : Nat) (f : Ex) : Ex := fun ρ w => match ρ[i]? with
  | some (some (.fz (.dict kvs))) => noX (f (ρ.set i (some (.lk kvs))) w)
  | _ => .err
theorem upd_back {H : Hp} {a : Addr} {u x : HO} (h : H a = some u) : upd (upd H a x) a u = H := by
  funext b
  by_cases e : b = a
  · subst e; rw [upd_same, h]
  · rw [upd_ne e, upd_ne e]
theorem de_lock {i : Nat} {e : Expr} {f : Ex} (h : ∀ L, DE X (C.lkd L) W e f) : DE X C W e (eLk i f) := by
  have any : PE X e (fun σ H Q => ∃ L, eT (C.lkd L) W f σ H Q) := ⟨fun pins s σ H Q I ⟨L, q⟩ => (h L).run pins s σ H Q I q⟩
  refine ⟨fun pins s σ H Q I hq => ?_⟩
  obtain ⟨ρ, w, S, E, q⟩ := eT_to hq
  unfold eLk at q
  split at q
  · rename_i kvs hρ
    obtain ⟨v, hσ, hv⟩ := E.val i _ hρ
    obtain ⟨a, xs, rfl, ra, rk⟩ := Lt.dict (C := C) (.inl (show Rp C.P C.w C.K H S v (.dict kvs) from hv))
    have hS : S a := by
      cases (show Rp C.P C.w C.K H S (.ref a) (.dict kvs) from hv) with
      | dct s _ _ => exact s
    have pw : C.pw ≠ some a := fun z => E.sW a z hS
    -- the value alone
    obtain ⟨r, w1, ef, q⟩ : ∃ r w1, f (ρ.set i (some (.lk kvs))) w = .ok (r, w1) ∧ ∀ v H', Pst C H H' w1 → RvOk C H H' S v r → Q v H' := by
      revert q
      cases f (ρ.set i (some (.lk kvs))) w with
      | ok p => exact fun q => ⟨p.1, p.2, rfl, q⟩
      | exc c d => exact fun q => q.elim
      | err => exact fun q => q.elim
    by_cases hl : a ∈ C.lk.map fun p => p.1
    · obtain ⟨⟨a', od, u⟩, m, ea⟩ := List.mem_map.mp hl
      cases ea
      have lo := E.lo _ m
      rcases ra with ra | ⟨o2, ra⟩
      · rw [ra] at lo; unfold DN at lo; cases lo
      · rw [ra] at lo
        injection lo with lo
        injection lo with l1 l2
        dsimp only at l1 l2
        subst l1 l2
        refine any.run pins s σ H Q I ⟨[], eT_of (C := C.lkd []) (E.setL hρ hσ hS m rk) (E.setL hρ hσ hS m rk).rf ?_⟩
        rw [ef]
        exact fun v H' p' r' => q v H' ⟨p'.g, p'.st, p'.tb⟩ r'
    · rcases ra with ra | ⟨od, ra⟩
      · refine (pe_lock any).run pins s σ H Q I ⟨a, _, ra, trivial, fun od => ⟨[(a, od, DN C.P C.w a xs)], eT_of (E.lock (od := od) hρ hσ hS ra rk hl) (E.lock (od := od) hρ hσ hS ra rk hl).rf ?_⟩⟩
        rw [ef]
        intro v H' p' r'
        have f1 : (upd H a (.frz od (DN C.P C.w a xs))) a = some (.frz od (DN C.P C.w a xs)) := upd_same
        have f2 := p'.g.keep _ _ f1 (fun _ z => nomatch z) pw
        have pp := pst_free p' ⟨_, _, _, rfl⟩ pw ⟨_, _, f2⟩ (u := DN C.P C.w a xs)
        have rr := rv_free r' (by rw [f1]; exact fun z => nomatch z) f2
        rw [upd_back ra] at pp rr
        exact ⟨f2, q v _ pp rr⟩
      · refine any.run pins s σ H Q I ⟨[(a, od, DN C.P C.w a xs)], eT_of (E.lockF hρ hσ hS ra rk hl) (E.lockF hρ hσ hS ra rk hl).rf ?_⟩
        rw [ef]
        exact fun v H' p' r' => q v H' ⟨p'.g, p'.st, p'.tb⟩ r'
  · exact q.elim
end
/-! ### the keys of a locked dict -/
def ItK (P : Program) (w : World) (d : Addr) (o : Obj) (xs : List (NestedKey × Addr × V)) : It :=
  ⟨fun i H => H d = some (.frz o (DN P w d xs)) ∧ i < xs.length, fun i H v H' => ∃ k b x, xs[i]? = some (k, b, x) ∧ v = .ref b ∧ H' = H, fun i H => H d = some (.frz o (DN P w d xs)) ∧ xs.length ≤ i⟩
theorem turn_itK {P0 P : Program} {w0 w : World} {K : PySem.W.Frag} {tg : Expr} {d it : Addr} {o : Obj} {xs : List (NestedKey × Addr × V)} {es : Array DictEntry} {ep : Nat} (od : o.data = .dict es ep) :
    Turn P0 w0 K tg (ItK P w d o xs) [it] it (fun i h => h.IsKeyIter it d i es.size ep) where
  mem := by simp
  obj := fun i h st b m => by
    cases List.mem_singleton.mp m
    obtain ⟨oi, e, c, dd⟩ := st
    exact ⟨oi, e, fun v z => by rw [dd] at z; cases z⟩
  keep := fun i h h' st k => st.at fun oi e => k it (by simp) oi e
  item := by
    intro X hP hw hK hc i pins s σ H E I hf st ⟨hd, hi⟩
    subst hP hw hK
    obtain ⟨es', ep', ys, at_, ex, dt, ent, pr, sm⟩ := locked_at I hd
    obtain ⟨rfl, rfl⟩ := data_at od dt
    obtain ⟨k, b, v, u, h1, h2, h3⟩ := pr_at pr hi
    obtain ⟨c0, c1, _, c3, c4, c5⟩ := hf it (by simp)
    have here : es[i]? = some (entryOfKey (nestedKind P w) (k, b, u)) := by
      rw [← Array.getElem?_toList, ent, List.getElem?_map, h2]
      rfl
    refine next_key_item st at_ od rfl here fun h' st2 same => ?_
    have I2 : Inv X pins σ H { s with heap := h' } := I.turned (t' := s.toks) (fun c ob n e => (same.2 c n).trans e) c0 c1 c3 c4 c5
    obtain ⟨oi, e, c, dd⟩ := id st2
    exact ⟨_, rfl, go_of (s := { s with heap := h' }) e c dd (by decide) ⟨.ref b, H, I2, rfl, ⟨k, b, v, h1, rfl, rfl⟩, st2, fun c m => (hf c m).1⟩⟩
  done := by
    intro X hP hw hK hc i pins s σ H E I hf st ⟨hd, hi⟩
    subst hP hw hK
    obtain ⟨es', ep', ys, at_, ex, dt, ent, pr, sm⟩ := locked_at I hd
    obtain ⟨rfl, rfl⟩ := data_at od dt
    have size : es.size = ys.length := by rw [← Array.length_toList, ent, List.length_map]
    obtain ⟨c0, c1, _, c3, c4, c5⟩ := hf it (by simp)
    exact next_key_end (I.ok.hd hc) st at_ od rfl (by rw [size, ← pr_length pr]; exact hi) fun h' eb => ⟨rfl, I.turned (t' := s.toks) (fun b ob n e => eb b ob n e) c0 c1 c3 c4 c5⟩
  self := fun A i s Q E st h => wpAny_pyIter_keyiter st h
def iKeysD (i : Nat) : Ix := fun ρ w => match ρ[i]? with
  | some (some (.lk kvs)) => .ok (kvs.map fun p => p.1, w)
  | _ => .err
section
variable {X : Cx} {C : Cn} {W : WX}
theorem itD_keys {d : Addr} {o : Obj} {xs : List (NestedKey × Addr × V)} {kvs : List (D × D)} (hl : (d, o, DN C.P C.w d xs) ∈ C.lk) (len : xs.length = kvs.length) : ItD C (ItK C.P C.w d o xs) (kvs.map fun p => p.1) (leanOn xs kvs) := by
  intro S H sN hs lo
  have at_ := lo _ hl
  have len2 : (kvs.map fun p => p.1).length = xs.length := by rw [List.length_map, len]
  refine ⟨fun i hi => ⟨⟨at_, by rw [← len2]; exact hi⟩, fun x H' y => ?_⟩, fun i hi => ⟨at_, by rw [← len2]; exact hi⟩⟩
  obtain ⟨k, b, v, e, rfl, rfl⟩ := y
  have hk : i < kvs.length := by rw [len2, len] at hi; exact hi
  obtain ⟨r1, r2⟩ := lean_at hs e (List.getElem?_eq_getElem hk)
  exact ⟨.refl, _, by rw [List.getElem?_map, List.getElem?_eq_getElem hk]; rfl, r1⟩
theorem di_keys {y : Str} {i : Nat} {py : Pos} {tg : Expr} (t : Tie X C) (hN : X.N[i]? = some y) (hv : Vis X.env.scope y) (hd : (y == ("__debug__" : Str)) = false := by decide) (hcd : (y == ("__classdict__" : Str)) = false := by decide) : DI X C W tg (.Name y py) (iKeysD i) := by
  refine ⟨fun pins s σ H R I hq => ?_⟩
  obtain ⟨ρ, w, S, E, q⟩ := hq
  unfold iKeysD at q
  split at q
  · rename_i kvs hρ
    obtain ⟨v, hσ, a, o, xs, rfl, hS, m, rk⟩ := E.val i _ hρ
    have at_ := E.lo _ m
    refine thn ((pe_var hN hv hd hcd).run pins s σ H (fun x H1 => x = .ref a ∧ H = H1) I ⟨.ref a, hσ, rfl, rfl⟩) fun u s1 ⟨x, H1, I1, rx, ex, eH⟩ => ?_
    subst ex eH
    obtain rfl : u = Value.ref a := rx
    obtain ⟨es, ep, ys, g1, g2, g3, g4, g5, g6⟩ := locked_at I1 at_
    exact iter_keys g6 g1 g2 g3 (pi_one (tk := s1.toks) I1 _ (turn_itK (P := C.P) (w := C.w) (xs := xs) g3) ⟨_, Heap.get?_push_size _ rfl, rfl, rfl⟩ (q (ItK C.P C.w a o xs) H (leanOn xs kvs) E.rf (itD_keys m (rpk_length rk)) (lean_of rk)))
  · exact q.elim
end
end DL
namespace DL
open PySem PySem.Spec PyProof.Rows L2
section
variable {G : Pg} {k : Nat} {X : Cx} {C : Cn} {W : WX}
theorem Wk.lkd (h : Wk G k X C W) {L : List (Addr × Obj × HO)} : Wk G k X (C.lkd L) W :=
  ⟨⟨⟨h.o.t.P, h.o.t.w, h.o.t.K, h.o.t.calm, h.o.t.room, h.o.t.gd⟩, h.o.P, h.o.w, h.o.K, h.o.mg, h.o.base, h.o.T, h.o.cls, h.o.pay⟩, h.tk, h.hr, h.nm, h.nd, h.pi⟩
theorem blk_pi (h : Wk G k X C W) {is : List Nat} (hv : C.pw = none ∨ is.contains 0 = false) : C.pw = none ∨ C.pi ∉ is := hv.imp id fun z m => by
  rw [h.pi] at m
  have := List.contains_iff_mem.mpr m
  rw [z] at this; cases this
theorem deLc2 {elt tg iter tg1 iter1 : Expr} {ifs ifs1 : List Expr} {scope : Scope} {own : List (Str × Nat)} {vs1 : List Nat} {pos : Pos} {f fi : Ix} {b b1 : Gx} {tf tf1 : Tx} {ef : Ex} {ts ts1 : List Nat} (h : Wk G k X C W) (hv : C.pw = none ∨ (ownS own).contains 0 = false) (hv2 : C.pw = none ∨ vs1.contains 0 = false) (hts : ∀ j ∈ ts, j ∈ ownS own) (hv1 : ∀ i ∈ vs1, i ∈ ownS own) (hts1 : ∀ j ∈ ts1, j ∈ vs1) (ty : Tidy b ts) (hi : DI X C W tg iter f) (ok : blkB X.N X.env.scope scope own = true)
    (hg : ∀ (s : Shared) (H : Hp) (A : Addr) (cl : List (Str × Addr)) (fp : List Addr), DG (X.blk s H scope (compEnvC scope cl A X.env) fp) C tg b ts) (ht : ∀ (s : Shared) (H : Hp) (A : Addr) (cl : List (Str × Addr)) (fp : List Addr), DPs (X.blk s H scope (compEnvC scope cl A X.env) fp) C W0 ifs tf)
    (hi1 : ∀ (s : Shared) (H : Hp) (A : Addr) (cl : List (Str × Addr)) (fp : List Addr), DI (X.blk s H scope (compEnvC scope cl A X.env) fp) C W0 tg1 iter1 fi)
    (hg1 : ∀ (s : Shared) (H : Hp) (A : Addr) (cl : List (Str × Addr)) (fp : List Addr), DG (X.blk s H scope (compEnvC scope cl A X.env) fp) C tg1 b1 ts1) (ht1 : ∀ (s : Shared) (H : Hp) (A : Addr) (cl : List (Str × Addr)) (fp : List Addr), DPs (X.blk s H scope (compEnvC scope cl A X.env) fp) C W0 ifs1 tf1)
    (he : ∀ (s : Shared) (H : Hp) (A : Addr) (cl : List (Str × Addr)) (fp : List Addr), DE (X.blk s H scope (compEnvC scope cl A X.env) fp) C W0 elt ef) (hs : ∀ x, foldedSetIterable iter X.env x = pure x := by intro _; rfl) (hs1 : ∀ env x, foldedSetIterable iter1 env x = pure x := by intro _ _; rfl) :
    DE X C W (.ListComp elt [⟨tg, iter, ifs, 0⟩, ⟨tg1, iter1, ifs1, 0⟩] scope pos) (eLc2 (ownS own) vs1 f b tf fi b1 tf1 ef) :=
  de_lc2 h.t h.nd (blk_pi h hv) hts hv1 hts1 ty (blk_pi h hv2) hi (blk_of ok) hg ht hi1 hg1 ht1 he hs hs1
theorem deDc {kx vx tg iter : Expr} {ifs : List Expr} {scope : Scope} {own : List (Str × Nat)} {pos : Pos} {f : Ix} {b : Gx} {tf : Tx} {fk fv : Ex} {ts : List Nat} (h : Wk G k X C W) (hv : C.pw = none ∨ (ownS own).contains 0 = false) (hts : ∀ j ∈ ts, j ∈ ownS own) (hi : DI X C W tg iter f) (ok : blkB X.N X.env.scope scope own = true)
    (hg : ∀ (s : Shared) (H : Hp) (A : Addr) (cl : List (Str × Addr)) (fp : List Addr), DG (X.blk s H scope (compEnvC scope cl A X.env) fp) C tg b ts) (ht : ∀ (s : Shared) (H : Hp) (A : Addr) (cl : List (Str × Addr)) (fp : List Addr), DPs (X.blk s H scope (compEnvC scope cl A X.env) fp) C W0 ifs tf)
    (hk : ∀ (s : Shared) (H : Hp) (A : Addr) (cl : List (Str × Addr)) (fp : List Addr), DE (X.blk s H scope (compEnvC scope cl A X.env) fp) C W0 kx fk)
    (he : ∀ (s : Shared) (H : Hp) (A : Addr) (cl : List (Str × Addr)) (fp : List Addr), DE (X.blk s H scope (compEnvC scope cl A X.env) fp) C W0 vx fv) (hs : ∀ x, foldedSetIterable iter X.env x = pure x := by intro _; rfl) :
    DE X C W (.DictComp kx vx [⟨tg, iter, ifs, 0⟩] scope pos) (eDc (ownS own) f b tf fk fv) :=
  de_dc h.t h.nd (blk_pi h hv) hts hi (blk_of ok) hg ht hk he hs
end
theorem v_ixTA {ds : List D} {i : Int} : fIxA (.tuple ds) (.int i) = (atI ds i).map .fz := rfl
theorem v_ixLA {ds : List D} {i : Int} : fIxA (.list ds) (.int i) = (atI ds i).map .fz := rfl
theorem v_inT {ds : List D} {d : D} : fInA d (.tuple ds) = fIn d (.tuple ds) := rfl
theorem v_inL {ds : List D} {d : D} : fInA d (.list ds) = fIn d (.list ds) := rfl
theorem v_notInT {ds : List D} {d : D} : fNotInA d (.tuple ds) = fNotIn d (.tuple ds) := rfl
theorem v_notInL {ds : List D} {d : D} : fNotInA d (.list ds) = fNotIn d (.list ds) := rfl
end DL
namespace DL
open PySem PySem.Spec PyProof.Rows L2
section
variable {G : Pg} {k : Nat} {X : Cx} {C : Cn} {W : WX}
/-- name = e, the value handed about from here on -/
theorem go_nm {f : Ex} {i : Nat} (hi : C.pw = none ∨ i ≠ C.pi) : ∀ (σ : L2.St) (H : Hp) (D : Ends), sT C W (sAsg f (gNm i)) D σ H → tAsg (eT C W f) (gName i) D σ H := by
  intro σ H D hq
  obtain ⟨ρ, w, S, E, q⟩ := sT_to hq
  refine eT_of E E.rf ((OutOk.ofR E q).imp fun p hp v H1 p1 r1 => ?_)
  obtain ⟨r, w1⟩ := p
  revert hp
  cases r with
  | fz d => exact fun hp => hp (σ.set i (some v)) H1 S ((E.go p1).setF hi r1)
  | ow d => exact fun hp => hp (σ.set i (some v)) H1 S ((E.go p1).setF hi (r1.rp E fun _ z => nomatch z))
  | bw d => exact fun hp => hp.elim
/-- name = [..], stored by the block's swap -/
theorem dsSetLc {i : Nat} {y : Str} {py : Pos} {elt tg iter : Expr} {ifs : List Expr} {scope : Scope} {own : List (Str × Nat)} {pos spos : Pos} {f : Ix} {b : Gx} {tf : Tx} {ef : Ex} {ts : List Nat} (h : Wk G k X C W) (hi0 : C.pw = none ∨ i ≠ 0) (hy : X.N[i]? = some y) (hyl : X.env.scope.names.lookup y = some .local) (hv : C.pw = none ∨ (ownS own).contains 0 = false) (hts : ∀ j ∈ ts, j ∈ ownS own) (hi : DI X C W tg iter f) (ok : blkB X.N X.env.scope scope own = true)
    (hg : ∀ (s : Shared) (H : Hp) (A : Addr) (cl : List (Str × Addr)) (fp : List Addr), DG (X.blk s H scope (compEnvC scope cl A X.env) fp) C tg b ts) (ht : ∀ (s : Shared) (H : Hp) (A : Addr) (cl : List (Str × Addr)) (fp : List Addr), DPs (X.blk s H scope (compEnvC scope cl A X.env) fp) C W0 ifs tf)
    (he : ∀ (s : Shared) (H : Hp) (A : Addr) (cl : List (Str × Addr)) (fp : List Addr), DE (X.blk s H scope (compEnvC scope cl A X.env) fp) C W0 elt ef) (hsw : swapsWith (.ListComp elt [⟨tg, iter, ifs, 0⟩] scope pos) (some (.Name y py)) spos.line X.env = pure true := by rfl) (hs : ∀ x, foldedSetIterable iter X.env x = pure x := by intro _; rfl) :
    DS X C W (.Assign [.Name y py] (.ListComp elt [⟨tg, iter, ifs, 0⟩] scope pos) spos) (sAsg (eLc (ownS own) f b tf ef) (gNm i)) :=
  ps_imp (ps_setLc h.t.calm h.nd hy hyl hsw hi (blk_of ok) hg ht he hs) fun σ H D hq => go_lc (blk_pi h hv) hts σ H _ (go_nm (by rw [h.pi]; exact hi0) σ H D hq)
end
end DL
namespace DL
open PySem PySem.Spec PyProof.Rows L2
section
variable {G : Pg} {k : Nat} {X : Cx} {C : Cn} {W : WX}
theorem dsSetLc2 {i : Nat} {y : Str} {py : Pos} {elt tg iter tg1 iter1 : Expr} {ifs ifs1 : List Expr} {scope : Scope} {own : List (Str × Nat)} {vs1 : List Nat} {pos spos : Pos} {f fi : Ix} {b b1 : Gx} {tf tf1 : Tx} {ef : Ex} {ts ts1 : List Nat} (h : Wk G k X C W) (hi0 : C.pw = none ∨ i ≠ 0) (hy : X.N[i]? = some y) (hyl : X.env.scope.names.lookup y = some .local) (hv : C.pw = none ∨ (ownS own).contains 0 = false) (hv2 : C.pw = none ∨ vs1.contains 0 = false) (hts : ∀ j ∈ ts, j ∈ ownS own) (hv1 : ∀ i ∈ vs1, i ∈ ownS own) (hts1 : ∀ j ∈ ts1, j ∈ vs1) (ty : Tidy b ts) (hi : DI X C W tg iter f) (ok : blkB X.N X.env.scope scope own = true)
    (hg : ∀ (s : Shared) (H : Hp) (A : Addr) (cl : List (Str × Addr)) (fp : List Addr), DG (X.blk s H scope (compEnvC scope cl A X.env) fp) C tg b ts) (ht : ∀ (s : Shared) (H : Hp) (A : Addr) (cl : List (Str × Addr)) (fp : List Addr), DPs (X.blk s H scope (compEnvC scope cl A X.env) fp) C W0 ifs tf)
    (hi1 : ∀ (s : Shared) (H : Hp) (A : Addr) (cl : List (Str × Addr)) (fp : List Addr), DI (X.blk s H scope (compEnvC scope cl A X.env) fp) C W0 tg1 iter1 fi)
    (hg1 : ∀ (s : Shared) (H : Hp) (A : Addr) (cl : List (Str × Addr)) (fp : List Addr), DG (X.blk s H scope (compEnvC scope cl A X.env) fp) C tg1 b1 ts1) (ht1 : ∀ (s : Shared) (H : Hp) (A : Addr) (cl : List (Str × Addr)) (fp : List Addr), DPs (X.blk s H scope (compEnvC scope cl A X.env) fp) C W0 ifs1 tf1)
    (he : ∀ (s : Shared) (H : Hp) (A : Addr) (cl : List (Str × Addr)) (fp : List Addr), DE (X.blk s H scope (compEnvC scope cl A X.env) fp) C W0 elt ef) (hsw : swapsWith (.ListComp elt [⟨tg, iter, ifs, 0⟩, ⟨tg1, iter1, ifs1, 0⟩] scope pos) (some (.Name y py)) spos.line X.env = pure true := by rfl) (hs : ∀ x, foldedSetIterable iter X.env x = pure x := by intro _; rfl) (hs1 : ∀ env x, foldedSetIterable iter1 env x = pure x := by intro _ _; rfl) :
    DS X C W (.Assign [.Name y py] (.ListComp elt [⟨tg, iter, ifs, 0⟩, ⟨tg1, iter1, ifs1, 0⟩] scope pos) spos) (sAsg (eLc2 (ownS own) vs1 f b tf fi b1 tf1 ef) (gNm i)) :=
  ps_imp (ps_setLc2 h.t.calm h.nd hy hyl hsw hi (blk_of ok) hv1 hg ht hi1 hg1 ht1 he hs hs1) fun σ H D hq => go_lc2 (blk_pi h hv) hts hts1 ty (blk_pi h hv2) σ H _ (go_nm (by rw [h.pi]; exact hi0) σ H D hq)
end
end DL
namespace DL
open PySem PySem.Spec PyProof.Rows L2
/-! ### a lambda is made -/
abbrev lamQ : Str := "<lambda>"
abbrev lamO (q : Str) (params : Arguments) (body : Expr) (scope : Scope) (cl : List (Str × Addr)) (pm : Value) (c' : Addr) (ctv : Value) : Obj := PySem.W.kla_obj "<lambda>" q params body scope cl pm c' ctv
section
variable {X : Cx} {pins : List (Addr × Obj)} {σ : L2.St} {H : Hp} {s : Shared}
theorem tbl_grown {T : List NdefX.NTab} {nm : Nat → Nat → Str} {P c' : Addr} {ps : Array Value} {pos : Pos} {q : Str} (hP : H P = some (.tbl ps)) (nC : H c' = none) (ht : TriplesOk ps.toList) (hT : NdefX.TabsN T H) (hu : ∀ p ∈ T, p.1 = P → p.2 = nm) (hn : nm pos.line pos.col = q)
    (ha : ∀ (p : Pos) (cv : Value), codeAmong p ps.toList = some cv → ∃ c, cv = .ref c ∧ H c = some (LamX.CodeO c (nm p.line p.col))) :
    NdefX.TabsN T (upd (upd H P (.tbl (ps ++ #[rawInt pos.line, rawInt pos.col, .ref c']))) c' (LamX.CodeO c' q)) := by
  have step : LamX.ExtN H (upd (upd H P (.tbl (ps ++ #[rawInt pos.line, rawInt pos.col, .ref c']))) c' (LamX.CodeO c' q)) := by
    intro b o e n
    have h1 : b ≠ P := fun z => by rw [z, hP] at e; exact n ps (Option.some.inj e).symm
    rw [upd_ne (ne_of_none e nC), upd_ne h1]
    exact e
  intro p hp
  by_cases hb : p.1 = P
  · obtain ⟨pa, pn⟩ := p
    have hb : pa = P := hb
    subst hb
    obtain rfl : pn = nm := hu _ hp rfl
    have eL : (ps ++ #[rawInt pos.line, rawInt pos.col, .ref c']).toList = ps.toList ++ [rawInt pos.line, rawInt pos.col, .ref c'] := by simp
    refine ⟨ps ++ #[rawInt pos.line, rawInt pos.col, .ref c'], ?_, ?_, ?_⟩
    · show upd _ _ _ _ = _
      rw [upd_ne (ne_of_none hP nC), upd_same]
    · rw [eL]; exact PySem.TriplesOk_snoc _ _ _ _ ht
    · intro p' cv hcv
      rw [eL] at hcv
      rcases NdefX.among_app2 _ ht hcv with z | ⟨z, z1, z2⟩
      · obtain ⟨d, e1, e2⟩ := ha p' cv z
        exact ⟨d, e1, step _ _ e2 LamX.codeO_ne⟩
      · refine ⟨c', z, ?_⟩
        show _ = some (LamX.CodeO c' (pn p'.line p'.col))
        rw [← z1, ← z2, hn]
        exact upd_same
  · obtain ⟨qs, a1, a2, a3⟩ := hT p hp
    refine ⟨qs, ?_, a2, fun p' cv hcv => ?_⟩
    · rw [upd_ne (ne_of_none a1 nC), upd_ne hb]; exact a1
    · obtain ⟨d, e1, e2⟩ := a3 p' cv hcv
      exact ⟨d, e1, step _ _ e2 LamX.codeO_ne⟩
theorem lamMake {T : List NdefX.NTab} {nm : Nat → Nat → Str} {c P : Addr} {params : Arguments} {body : Expr} {scope : Scope} {pos : Pos} {E : Value → Shared → Prop} {Q : Value → Shared → Prop} (I : Inv X pins σ H s) (TB : LamX.TabB X.base X.mg c P) (hcode : X.env.code = .ref c)
    (hm : (P, nm) ∈ T) (hn : nm pos.line pos.col = X.env.qual ++ lamQ) (hu : ∀ p ∈ T, p.1 = P → p.2 = nm) (hT : NdefX.TabsN T H) (hdef : defaultsOf params X.env = ([], [])) (hfree : ∀ y ∈ scope.names, y.2 = .free → ∃ c, X.env.cells.lookup y.1 = some c)
    (h : ∀ (f c' : Addr) (pm ctv : Value) (H1 : Hp) (s' : Shared), Inv X pins σ H1 s' → LamX.ExtN H H1 → (∀ b, H1 b = none → H b = none) → NdefX.TabsN T H1 → (∀ b o, b ≠ P → s.heap.get? b = some o → s'.heap.get? b = some o) →
      s'.heap.get? f = some (lamO (X.env.qual ++ lamQ) params body scope (cloFrom X.env.cells scope.names []) pm c' ctv) → H1 f = none → f ∉ frs X.stack → H1 c' = some (LamX.CodeO c' (X.env.qual ++ lamQ)) → Q (.ref f) s') :
    wpAny (model X.prog X.w) X.A (eval (.Lambda params body scope pos) X.env) Q E s := by
  obtain ⟨ps, hP, ht, ha⟩ := (show NdefX.TabN H P nm from hT _ hm)
  refine PySem.W.kla_eval hdef ?_
  have bP : s.heap.BuiltinsAt X.mg P := TB.bm.keeps I.bk
  have oP : s.heap.get? P = some { cls := .none, data := .fields ps } := I.hok P _ hP
  have apart : ∀ f, s.heap.objs.size ≤ f → f ∉ frs X.stack := by
    intro f hf z
    rcases List.mem_cons.mp (I.stkSub _ z) with e | e
    · have h1 := I.lt
      rw [← e] at h1
      exact Nat.lt_irrefl _ (Nat.lt_of_lt_of_le h1 hf)
    · exact I.nofs hf e
  cases hc : codeAmong pos ps.toList with
  | none =>
    refine PySem.W.kla_makeFunction (mg := X.mg) (c := c) (P := P) (ps := ps) (closure_ok hfree) I.ok.glob (I.mod.glob.keeps I.bk) hcode (TB.code.keeps I.bk) oP ht hc TB.gP bP fun c' ctv h' tk hx hge hlt hrec htb => ?_
    obtain ⟨c2, oc, vs, t, e2, hoc, hd, hv⟩ := hrec
    cases e2
    have big : s.heap.objs.size ≤ h'.objs.size := Nat.le_trans hge (Nat.le_of_lt hlt)
    have nC : H c' = none := I.hok.fresh hge
    have J := LamX.inv_table (t' := tk) (more := #[rawInt pos.line, rawInt pos.col, .ref c']) (h' := h'.push (lamO (X.env.qual ++ lamQ) params body scope (cloFrom X.env.cells scope.names []) ((X.mg "__name__").getD .none) c' ctv)) I hP
      (fun b o hb e => Heap.get?_push_of_some _ (hx b o hb e)) (Heap.get?_push_of_some _ htb) hge ⟨oc, vs, t, Heap.get?_push_of_some _ hoc, hd, hv⟩
    refine h h'.objs.size c' ((X.mg "__name__").getD .none) ctv _ _ J (fun b o e n => ?_) (fun b e => NdefX.upd_none (NdefX.upd_none e)) (tbl_grown hP nC ht hT hu hn ha) (fun b o hb e => Heap.get?_push_of_some _ (hx b o hb e)) (Heap.get?_push_size _ rfl) ?_ (apart _ big) upd_same
    · have h1 : b ≠ P := fun z => by rw [z, hP] at e; exact n ps (Option.some.inj e).symm
      rw [upd_ne (ne_of_none e nC), upd_ne h1]
      exact e
    · have n1 : h'.objs.size ≠ c' := Nat.ne_of_gt hlt
      have n2 : h'.objs.size ≠ P := by
        exact Nat.ne_of_gt (Nat.lt_of_lt_of_le (Heap.lt_size oP) big)
      rw [upd_ne n1, upd_ne n2]
      exact I.hok.fresh big
  | some cv =>
    obtain ⟨c', e, hco⟩ := ha pos cv hc
    subst e
    rw [hn] at hco
    refine PySem.W.kla_makeFunctionHit (mg := X.mg) (c := c) (P := P) (ps := ps) (closure_ok hfree) I.ok.glob (I.mod.glob.keeps I.bk) hcode (TB.code.keeps I.bk) oP ht hc bP fun ctv h' tk hx hsz => ?_
    have J : Inv X pins σ H { s with heap := h'.push (lamO (X.env.qual ++ lamQ) params body scope (cloFrom X.env.cells scope.names []) ((X.mg "__name__").getD .none) c' ctv), toks := tk } := I.kept fun b o e => Heap.get?_push_of_some _ (hx b o e)
    exact h h'.objs.size c' ((X.mg "__name__").getD .none) ctv H _ J (LamX.ExtN.refl H) (fun _ e => e) hT (fun b o _ e => Heap.get?_push_of_some _ (hx b o e)) (Heap.get?_push_size _ rfl) (I.hok.fresh hsz) (apart _ hsz) hco
end
/-! ### what a lambda does -/
def cloOut : RV → Res RV
  | .fz d => if pure? d then .ok (.fz d) else .err
  | .ow d => if indep (.ow d) then .ok (.ow d) else .err
  | .bw _ => .err
def fzO : Option D → Option EV
  | some d => some (.fz d)
  | none => none
/-- the words of the lambda: n its names, m its parameters, cap what it captured -/
def cloS (n m : Nat) (cap : List (Option D)) (g : Ex) : CSem := fun ds => if ds.length = m then (g (padN n (ds.map (fun d => some (EV.fz d)) ++ cap.map fzO)) []).bind fun p => cloOut p.1 else .err
theorem cloOut_ok {G : Pg} {C : Cn} {H H' : Hp} {S S0 : Addr → Prop} {v : V} {r r' : RV} (hP : C.P = G.P) (hw : C.w = G.w) (hK : C.K = G.K) (h : RvOk C H H' S v r) (e : cloOut r = .ok r') : RetOk G H H' S0 v r' := by
  unfold RvOk at h
  rw [hP, hw, hK] at h
  cases r with
  | fz d =>
    have e : (if pure? d = true then Res.ok (RV.fz d) else Res.err) = Res.ok r' := e
    by_cases hp : pure? d = true
    · rw [if_pos hp] at e
      cases e
      exact Rp.pure h hp
    · rw [if_neg hp] at e; cases e
  | ow d =>
    have e : (if indep (.ow d) = true then Res.ok (RV.ow d) else Res.err) = Res.ok r' := e
    by_cases hp : indep (.ow d) = true
    · rw [if_pos hp] at e
      cases e
      obtain ⟨p, e, o, n⟩ := h
      refine ⟨p, e, ?_, n⟩
      cases o with
      | lst h r => exact .lst h (r.pure hp)
      | dct h r => exact .dct h (rpk_pure r hp)
    · rw [if_neg hp] at e; cases e
  | bw d => cases e
theorem cloOut_exc {r : RV} {c : Nat} {d : D} (e : cloOut r = .exc c d) : False := by
  cases r with
  | fz d' =>
    have e : (if pure? d' = true then Res.ok (RV.fz d') else Res.err) = Res.exc c d := e
    split at e <;> cases e
  | ow d' =>
    have e : (if indep (.ow d') = true then Res.ok (RV.ow d') else Res.err) = Res.exc c d := e
    split at e <;> cases e
  | bw d => cases e
theorem isCell_und {h h1 : Heap} {H H1 : Hp} (u : Und h H h1 H1) {c : Addr} {v : Option Value} (n : H c = none) (z : h.IsCell c v) : h1.IsCell c v := by
  obtain ⟨o, ho, hd⟩ := z
  obtain ⟨⟨sl, e⟩, _⟩ := u c o ho n
  exact ⟨_, e, hd⟩
theorem cells_und {h h1 : Heap} {H H1 : Hp} {cl : List (Str × Addr)} {fr : List Str} {ws : List (Option V)} (u : Und h H h1 H1) (z : NdefX.CellsAt cl fr ws h H) : NdefX.CellsAt cl fr ws h1 H1 := by
  refine ⟨z.len, fun y c e => ?_, z.inj, fun i y e => ?_⟩
  · obtain ⟨n, v, hc⟩ := z.all y c e
    refine ⟨?_, v, isCell_und u n hc⟩
    obtain ⟨o, ho, _⟩ := hc
    exact (u c o ho n).2
  · obtain ⟨c, hc, hv⟩ := z.has i y e
    refine ⟨c, hc, fun v ev => ?_⟩
    obtain ⟨w, r, q⟩ := hv v ev
    exact ⟨w, r, isCell_und u (z.all y c hc).1 q⟩
theorem Grz.kept {H H1 : Hp} {S : Addr → Prop} (g : Grz H H1) : Kept S H H1 := by
  have go : ∀ a u, (∀ ps, u ≠ .tbl ps) → Rd H a u → Rd H1 a u := by
    intro a u nt h
    rcases h with h | ⟨o, h⟩
    · exact (g.keep _ _ h nt).elim .inl fun ⟨⟨o, e⟩, _⟩ => .inr ⟨o, e⟩
    · rcases g.keep _ _ h (fun _ z => nomatch z) with e | ⟨_, n⟩
      · exact .inr ⟨o, e⟩
      · exact absurd rfl (n o u)
  exact ⟨fun a vs h => go _ _ (fun _ z => nomatch z) h, fun a vs _ h => go _ _ (fun _ z => nomatch z) h, fun P w a xs _ h => go _ _ (fun ps => DN_tbl ps) h⟩
theorem code_grz {P : Program} {w : World} {H H1 : Hp} {h1 : Heap} {c : Addr} {q : Str} (g : Grz H H1) (hok : HOk P w H1 h1) (e : H c = some (LamX.CodeO c q)) : h1.CodeRec (.ref c) q := by
  have ok : ObjOk P w H1 h1 c (LamX.CodeO c q) := by
    rcases g.keep _ _ e LamX.codeO_ne with z | ⟨⟨ob, z⟩, _⟩
    · exact hok _ _ z
    · exact (hok _ _ z).2
  obtain ⟨⟨oc, vs, t, a1, a2, a3⟩, _, _⟩ := ok
  exact ⟨c, oc, vs, t, rfl, a1, a2, a3⟩
/-- the state of the entry: the parameters, then what was captured -/
theorem entryL {G : Pg} {H1 : Hp} {S0 : Addr → Prop} {N : List Str} {vs : List V} {ds : List D} {ws : List (Option V)} {cap : List (Option D)} (ht : NdefX.TabsN G.T H1) (rp : Rps G.P G.w G.K H1 S0 vs ds) (hl : vs.length + ws.length ≤ N.length) (hc : cap.length = ws.length)
    (cp : ∀ (i : Nat) (d : D), cap[i]? = some (some d) → ∃ v, ws[i]? = some (some v) ∧ Rp G.P G.w G.K H1 (fun _ => True) v d) :
    EnvOk (cnOf G H1 (fun _ => True) none []) (padN N.length (ds.map (fun d => some (EV.fz d)) ++ cap.map fzO)) [] (fun _ => True) (NdefX.startF N vs ws) H1 := by
  have la := rp.length
  have at_ : ∀ (i : Nat) (e : EV), (ds.map (fun d => some (EV.fz d)) ++ cap.map fzO)[i]? = some (some e) → ∃ d v, e = .fz d ∧ (NdefX.startF N vs ws)[i]? = some (some v) ∧ Rp G.P G.w G.K H1 (fun _ => True) v d := by
    intro i e h
    by_cases hi : i < ds.length
    · rw [List.getElem?_append_left (by rw [List.length_map]; exact hi), List.getElem?_map] at h
      cases e1 : ds[i]? with
      | none => rw [e1] at h; cases h
      | some d =>
        rw [e1] at h
        have h : some (EV.fz d) = some e := Option.some.inj h
        cases h
        obtain ⟨v, hv, r⟩ := rp.getD e1
        refine ⟨d, v, rfl, ?_, r.mono .refl fun _ _ => trivial⟩
        unfold NdefX.startF
        rw [List.getElem?_append_left (by rw [List.length_map, la]; exact hi), List.getElem?_map, hv]
        rfl
    · rw [List.getElem?_append_right (by rw [List.length_map]; omega), List.length_map, List.getElem?_map] at h
      cases e1 : cap[i - ds.length]? with
      | none => rw [e1] at h; cases h
      | some od =>
        rw [e1] at h
        have h : fzO od = some e := Option.some.inj h
        cases od with
        | none => cases h
        | some d =>
          have h : some (EV.fz d) = some e := h
          cases h
          obtain ⟨v, hv, r⟩ := cp _ _ e1
          refine ⟨d, v, rfl, ?_, r⟩
          have hlt : i - ds.length < ws.length := (List.getElem?_eq_some_iff.mp hv).1
          unfold NdefX.startF
          rw [List.getElem?_append_right (by rw [List.length_map, la]; omega), List.length_map, la, List.getElem?_append_left hlt]
          exact hv
  have noow : ∀ (i : Nat) (d : D), (padN N.length (ds.map (fun d => some (EV.fz d)) ++ cap.map fzO))[i]? ≠ some (some (.ow d)) := by
    intro i d h
    obtain ⟨d', v, e, _⟩ := at_ i _ (padN_get h)
    cases e
  refine ⟨?_, fun i e h => ?_, fun i j d e p h => absurd h (noow i d), fun a h => trivial, fun a h => .inl trivial, (fun p e => nomatch e), (fun p e => nomatch e), fun a o h n q => ⟨fun _ => h, fun z => absurd (show a ∈ (([] : List (Addr × Obj × HO)).map fun p => p.1) from z) (by simp)⟩, fun a h => h, ht, (fun p e => nomatch e), fun v d m => absurd (show (v, d) ∈ ([] : List (V × D)) from m) (by simp), fun p m => absurd (show p ∈ ([] : List (Addr × Obj × HO)) from m) (by simp)⟩
  · unfold NdefX.startF padN
    simp only [List.length_append, List.length_map, List.length_replicate]
    omega
  · obtain ⟨d, v, rfl, h1, h2⟩ := at_ i e (padN_get h)
    exact ⟨v, h1, h2⟩
/-- the promise of a lambda by its body -/
theorem clo_of {G : Pg} {k : Nat} {h : Heap} {H : Hp} {f c' : Addr} {q : Str} {params : Arguments} {body : Expr} {scope : Scope} {cl : List (Str × Addr)} {pm ctv : Value} {N ps fr : List Str} {ws : List (Option V)} {cap : List (Option D)} {g : Ex}
    (S : NdefX.NScope N ps fr scope) (C : NdefX.CellsAt cl fr ws h H) (ho : h.get? f = some (lamO q params body scope cl pm c' ctv)) (hf : H f = none) (hc : H c' = some (LamX.CodeO c' q))
    (hb : ∀ (pm cv ctv : Value) (us : List Value), us.length = ps.length → bindArgs (PySem.W.kla_fn "<lambda>" q params body scope cl pm cv ctv) ⟨us, []⟩ = pure (ps.zip us))
    (hcap : cap.length = ws.length) (cp : ∀ (i : Nat) (d : D), cap[i]? = some (some d) → ∃ v, ws[i]? = some (some v) ∧ Rp G.P G.w G.K H (fun _ => True) v d)
    (hbody : ∀ (A : Around) (outer : List Env) (s1 : Shared) (H1 : Hp) (E : XK), Room k (A.deeper (NdefX.envF ⟨"<lambda>", q, params, [], scope, cl, c'⟩ f s1.heap.objs.size)) → A.guards = some [] →
      DE (NdefX.ncx (L2.CX G.P G.w) G.P G.w G.K G.mg G.base N ⟨"<lambda>", q, params, [], scope, cl, c'⟩ f A outer s1 H1 E) (cnOf G H1 (fun _ => True) none []) (fun cls d _ H => E cls d H) body g) :
    CloOk G (k + 1) h H f (cloS N.length ps.length cap g) := by
  refine ⟨⟨hf, _, _, _, _, ho⟩, fun A outer s1 H1 us vs ds S0 Q E hr hg e0 und grz tb rv rp hq => ?_⟩
  have hN : ps.length + fr.length ≤ N.length := by
    have := congrArg List.length S.pre
    rw [List.length_take, List.length_append] at this
    omega
  by_cases hl : ds.length = ps.length
  · have hvl : vs.length = ps.length := by rw [rp.length, hl]
    unfold cloS at hq
    rw [if_pos hl] at hq
    obtain ⟨⟨sl, o1⟩, n1⟩ := und f _ ho hf
    have lim : s1.heap.NoLimit := e0.mod.nolimit.keeps fun b o e => (e0.bs b o e).1
    refine PySem.W.kla_callFunE hr.depth o1 rfl S.co S.gen rfl (code_grz grz e0.hok hc) ?_
    rw [hb _ _ _ us (by rw [← rv.length]; exact hvl)]
    refine wpAny_pure (wpAny_newFunctionEnv S.nocell (fun ⟨n, _⟩ hy => S.par n (List.of_mem_zip hy).1) (fun h₁ hns hsb => ⟨lim.fresh _ hsb, ?_⟩) S.kind)
    have kp : ∀ b o, s1.heap.get? b = some o → h₁.get? b = some o := fun b o e => hsb.extBut b o (Nat.ne_of_lt (Heap.lt_size e)) (Heap.get?_push_of_some _ e)
    have cells := cells_und und C
    have J := NdefX.inv_startN (CX := L2.CX G.P G.w) (F := ⟨"<lambda>", q, params, [], scope, cl, c'⟩) (f := f) (E := E) (tk := s1.toks + (ps.zip us).length) S hr.hd e0 hvl rv cells hns kp
    have E0 := entryL (N := N) (ws := ws) (cap := cap) tb rp (by rw [cells.len, hvl]; exact hN) hcap fun i d e => by
      obtain ⟨v, h1, h2⟩ := cp i d e
      exact ⟨v, h1, h2.mono grz.kept fun _ z => z⟩
    refine PySem.W.kla_codeExpr (wpAny_mono ((hbody A outer s1 H1 E (hr.deeper _) hg).run [] _ _ H1 Q J (eT_of E0 E0.rf ?_)) (fun v s' hv => ?_) fun e s' hv => hv)
    · revert hq
      cases g (padN N.length (ds.map (fun d => some (EV.fz d)) ++ cap.map fzO)) [] with
      | ok p =>
        intro hq v H' p1 r1
        have hq : (match cloOut p.1 with
          | .ok r => ∀ v H', Grow none H1 H' → NdefX.TabsN G.T H' → RetOk G H1 H' S0 v r → Q v H'
          | .exc c d => ∀ H' da, Grow none H1 H' → NdefX.TabsN G.T H' → G.pay c da d H' → E (G.cls c) da H'
          | .err => False) := hq
        revert hq
        cases e : cloOut p.1 with
        | ok r => exact fun hq => hq v H' p1.g p1.tb (cloOut_ok (C := cnOf G H1 (fun _ => True) none []) rfl rfl rfl r1 e)
        | exc c d => exact (cloOut_exc e).elim
        | err => exact fun hq => hq.elim
      | exc c d => exact fun hq H' da w' g st tb p => hq H' da g tb p
      | err => exact fun hq => hq
    · obtain ⟨w', H', K', r, q⟩ := hv
      exact ⟨w', H', K'.os, K'.bare, K'.base, K'.hok, r, q⟩
  · unfold cloS at hq
    rw [if_neg hl] at hq
    exact hq.elim
end DL
namespace DL
open PySem PySem.Spec PyProof.Rows L2
/-! ### a def is called with a lambda -/
/-- the def whose code object is c may make functions: its table at P -/
structure Lw (G : Pg) (c P : Addr) (nm : Nat → Nat → Str) : Prop where
  tb : LamX.TabB G.base G.mg c P
  mem : (P, nm) ∈ G.T
  un : ∀ p ∈ G.T, p.1 = P → p.2 = nm
theorem CloOk.mono {G : Pg} {j k : Nat} {h : Heap} {H : Hp} {f : Addr} {φ : CSem} (z : CloOk G j h H f φ) (l : j ≤ k) : CloOk G k h H f φ :=
  ⟨z.1, fun A outer s1 H1 us vs ds S0 Q E hr => z.2 A outer s1 H1 us vs ds S0 Q E (hr.mono l)⟩
def capD (ρ : DEnv) (j : Nat) : Option D := match ρ[j]? with
  | some (some (.fz d)) => some d
  | some (some (.ow d)) => some d
  | some (some (.lk kvs)) => some (.dict kvs)
  | _ => none
theorem capD_ok {C : Cn} {ρ : DEnv} {w : List Int} {S : Addr → Prop} {σ : L2.St} {H : Hp} (E : EnvOk C ρ w S σ H) {j : Nat} {d : D} (e : capD ρ j = some d) : ∃ v, NdefX.slotAt σ j = some v ∧ Rp C.P C.w C.K H (fun _ => True) v d := by
  unfold capD at e
  split at e
  · rename_i d' h
    cases e
    obtain ⟨v, hv, r⟩ := E.val _ _ h
    exact ⟨v, NdefX.slotAt_of hv, Rp.mono .refl (fun _ _ => trivial) r⟩
  · rename_i d' h
    cases e
    obtain ⟨v, hv, p, ev, o, _⟩ := E.val _ _ h
    subst ev
    exact ⟨_, NdefX.slotAt_of hv, o.rp (fun _ _ => trivial) trivial⟩
  · rename_i kvs h
    cases e
    obtain ⟨v, hv, a, ob, xs, ev, s, m, r⟩ := E.val _ _ h
    subst ev
    exact ⟨_, NdefX.slotAt_of hv, .dct trivial (.inr ⟨ob, E.lo _ m⟩) (r.mono .refl fun _ _ => trivial)⟩
  · cases e
theorem pst_ext {C : Cn} {H H1 : Hp} {w : List Int} (st : StOk C w H) (eN : LamX.ExtN H H1) (nn : ∀ b, H1 b = none → H b = none) (tb : NdefX.TabsN C.T H1) : Pst C H H1 w :=
  ⟨⟨fun a o h n _ => eN a o h n, nn⟩, fun p e => eN _ _ (st p e) (fun _ z => nomatch z), tb⟩
/-- what is asked of the lambda -/
structure LamD (X : Cx) (G : Pg) (kb : Nat) (c P : Addr) (nm : Nat → Nat → Str) (params : Arguments) (body : Expr) (scope : Scope) (lpos : Pos) (N ps fr : List Str) (js : List Nat) (g : Ex) : Prop where
  lw : Lw G c P nm
  code : X.env.code = .ref c
  name : nm lpos.line lpos.col = X.env.qual ++ lamQ
  sc : NdefX.nscB N ps fr scope = true
  fit : NdefX.ndefB X.env.scope scope fr = true
  at_ : js.map (fun j => X.N[j]?) = fr.map some
  dflt : defaultsOf params X.env = ([], [])
  bind : ∀ (q : Str) (cl : List (Str × Addr)) (pm cv ctv : Value) (us : List Value), us.length = ps.length → bindArgs (PySem.W.kla_fn "<lambda>" q params body scope cl pm cv ctv) ⟨us, []⟩ = pure (ps.zip us)
  run : ∀ (q : Str) (f c' : Addr) (cl : List (Str × Addr)) (A : Around) (outer : List Env) (s1 : Shared) (H1 : Hp) (E : XK), Room kb (A.deeper (NdefX.envF ⟨"<lambda>", q, params, [], scope, cl, c'⟩ f s1.heap.objs.size)) → A.guards = some [] →
      DE (NdefX.ncx (L2.CX G.P G.w) G.P G.w G.K G.mg G.base N ⟨"<lambda>", q, params, [], scope, cl, c'⟩ f A outer s1 H1 E) (cnOf G H1 (fun _ => True) none []) (fun cls d _ H => E cls d H) body g
section
variable {X : Cx} {G : Pg} {C : Cn} {W : WX} {k kb kc : Nat} {f : Addr} {fd : FuncData} {ps : List Str} {F : FSem} {pins : List (Addr × Obj)} {s : Shared} {σ : L2.St} {H : Hp} {c P : Addr} {nm : Nat → Nat → Str} {params : Arguments} {body : Expr} {scope : Scope} {lpos : Pos} {N lps fr : List Str} {js : List Nat} {g : Ex}
/-- the lambda is there, and it keeps its word -/
theorem LamD.made {ρ : DEnv} {w : List Int} {S : Addr → Prop} {E : Value → Shared → Prop} {Q : Value → Shared → Prop} (L : LamD X G kb c P nm params body scope lpos N lps fr js g) (o : Own1 X G C) (En : EnvOk C ρ w S σ H) (I : Inv X pins σ H s)
    (h : ∀ (f : Addr) (H1 : Hp) (s1 : Shared), Inv X pins σ H1 s1 → Pst C H H1 w → CloOk G (kb + 1) s1.heap H1 f (cloS N.length lps.length (js.map (capD ρ)) g) → Q (.ref f) s1) :
    wpAny (model X.prog X.w) X.A (eval (.Lambda params body scope lpos) X.env) Q E s := by
  have hS := NdefX.nscope_by L.sc
  have fr1 := NdefX.ndef_free L.fit
  have hfree : ∀ y ∈ scope.names, y.2 = .free → ∃ c, X.env.cells.lookup y.1 = some c := fun y hy e => (fr1 y hy e).elim (fun z => I.ok.has _ (.inl z)) fun z => I.ok.has _ (.inr z)
  have tb : LamX.TabB X.base X.mg c P := by have := L.lw.tb; rw [o.base, o.mg] at this; exact this
  have tH : NdefX.TabsN G.T H := by rw [← o.T]; exact En.tb
  have hP : C.P = G.P := o.t.P.trans o.P.symm
  have hw : C.w = G.w := o.t.w.trans o.w.symm
  have hK : C.K = G.K := o.t.K.trans o.K.symm
  refine lamMake I tb L.code L.lw.mem L.name L.lw.un tH L.dflt hfree fun f' c' pm ctv H1 s1 I1 eN nn T1 _ hof hnf hnr hcc => ?_
  have p1 : Pst C H H1 w := pst_ext En.st eN nn (by rw [o.T]; exact T1)
  have E1 := En.go p1
  refine h f' H1 s1 I1 p1 ?_
  have caps := NdefX.Caps.made (js := js) I1.ok fr1 (NdefX.ndef_fr L.fit) L.at_
  refine clo_of (ws := js.map (NdefX.slotAt σ)) hS (NdefX.cells_of I1 caps) hof hnf hcc (fun pm cv ctv us hl => L.bind _ _ pm cv ctv us hl) (by rw [List.length_map, List.length_map]) (fun i d e => ?_) fun A outer s2 H2 E hr hg => L.run _ _ _ _ A outer s2 H2 E hr hg
  rw [List.getElem?_map] at e
  cases ej : js[i]? with
  | none => rw [ej] at e; cases e
  | some j =>
    rw [ej] at e
    have e : capD ρ j = some d := Option.some.inj e
    obtain ⟨v, h1, h2⟩ := capD_ok E1 e
    refine ⟨v, ?_, ?_⟩
    · rw [List.getElem?_map, ej]
      exact congrArg some h1
    · rw [hP, hw, hK] at h2
      exact h2
/-- the callee runs with the lambda behind its data -/
theorem run_fnL {ρ : DEnv} {w0 w : List Int} {S : Addr → Prop} {H1 : Hp} {rs : List RV} {vs : List V} {us us' : List Value} {kw : List (Str × Value)} {Q : VK} {fl : Addr} {φ : CSem} (o : Own1 X G C) (tk : Takes X W) (Fn : FnD G k kc f fd ps false F) (hr : Room k X.A) (E : EnvOk C ρ w0 S σ H) (p1 : Pst C H H1 w) (I : Inv X pins σ H1 s) (rv : RvsOk C H H1 S vs rs) (hcl : CloOk G kc s.heap H1 fl φ) (hb : BindsTo s fd ⟨us, kw⟩ (ps.zip us')) (hl : rs.length + 1 = ps.length) (r : Vals (vs ++ [.ref fl]) us')
    (h : Good C W σ H (outR rs (F [φ] (rs.map frz ++ [.fn 0]) []) w) fun p => ∀ v H', Pst C H H' p.2 → RvOk C H H' S v p.1 → Q v H') : wpAny (model X.prog X.w) X.A (call (.ref f) us kw) (EP X pins σ Q) X.xe s := by
  have hP : C.P = G.P := o.t.P.trans o.P.symm
  have hw : C.w = G.w := o.t.w.trans o.w.symm
  have hK : C.K = G.K := o.t.K.trans o.K.symm
  have put : ∀ {S0 : Addr → Prop} {vs : List V} {as : List EV}, Args G H1 S0 [fl] vs as → Args G H1 S0 [fl] (vs ++ [.ref fl]) (as ++ [.fn 0]) := by
    intro S0 vs as a
    induction a with
    | nil => exact .fn rfl .nil
    | dat h _ ih => exact .dat h ih
    | fn h _ ih => exact .fn h ih
  refine run_core o tk Fn hr I hb (by rw [List.length_append, rv.length]; exact hl) r ?_
  refine ⟨_, rs.map frz ++ [.fn 0], [], none, [φ], [fl], vs ++ [.ref fl], ⟨rfl, rfl⟩, (fun p e => by cases e), put (args_of hP hw hK E rv), .cons hcl .nil, by rw [← o.T]; exact p1.tb, ?_⟩
  have h := h.ret
  revert h
  cases F [φ] (rs.map frz ++ [.fn 0]) [] with
  | ok p =>
    obtain ⟨r', w'⟩ := p
    intro ⟨hi, h⟩ v H' g _ tb ret
    refine h v H' (p1.trans ⟨grow_none g, st_none g p1.st, by rw [o.T]; exact tb⟩) ?_
    exact (ret_rv hP hw hK ret (sub_S E p1.g hi)).back p1.g
  | exc c d =>
    intro h H' da w' g _ tb hp
    have := h H' da w (p1.g.trans (grow_none g)) (st_none g p1.st) (by rw [o.T]; exact tb) (by rw [o.pay]; exact hp)
    rw [o.cls] at this
    exact this
  | err => exact fun h => h
/-- f(e, lambda ..) -/
def eFnL (n : Nat) (F : FSem) (nl m : Nat) (js : List Nat) (g : Ex) (a : Ex) : Ex := fun ρ w => (a ρ w).bind fun p => if 2 == n then outR [p.1] (F [cloS nl m (js.map (capD ρ)) g] [frz p.1, .fn 0] []) p.2 else .err
/-- f(lambda ..) -/
def eFnL0 (n : Nat) (F : FSem) (nl m : Nat) (js : List Nat) (g : Ex) : Ex := fun ρ w => if 1 == n then outR [] (F [cloS nl m (js.map (capD ρ)) g] [.fn 0] []) w else .err
theorem de_fnL {x : Str} {p pos : Pos} {e : Expr} {a : Ex} (o : Own1 X G C) (tk : Takes X W) (Fn : FnD G k kc f fd ps false F) (hr : Room k X.A) (hg : Gl X x) (hm : X.mg x = some (.ref f)) (hk : PySem.W.keepIn X.K (.ref f) = true) (hb : Binds X.K fd ps []) (ha : DE X C W e a)
    (L : LamD X G kb c P nm params body scope lpos N lps fr js g) (hkc : kb + 1 ≤ kc)
    (hdb : (x == ("__debug__" : Str)) = false := by decide) (he : starEach [e, .Lambda params body scope lpos] X.env = (false, eval e X.env) :: starEach [.Lambda params body scope lpos] X.env := by rfl) (he2 : starEach [.Lambda params body scope lpos] X.env = (false, eval (.Lambda params body scope lpos) X.env) :: starEach [] X.env := by rfl) (hpl : (backTo pos (starEach [.Lambda params body scope lpos] X.env)).any (·.1) = false := by rfl) :
    DE X C W (.Call (.Name x p) [e, .Lambda params body scope lpos] [] pos) (eFnL ps.length F N.length lps.length js g a) := by
  refine ⟨fun pins s σ H Q I h => ?_⟩
  obtain ⟨ρ, w, S, E, h⟩ := eT_to h
  unfold eFnL at h
  refine wpAny_Call_Name_kw (ld_glob I hg hm ?_ hdb)
  refine PySem.W.callWith_K (h₀ := X.base) I.ok.mod.kin hk ?_ he hpl
  rw [he]
  show wpAny _ _ (spliced ((false, eval e X.env) :: backTo pos (starEach [.Lambda params body scope lpos] X.env))) _ _ s
  refine Calls.spliced_cons (thn (ha.run pins s σ H (fun v H1 => ∃ r w1, Pst C H H1 w1 ∧ RvOk C H H1 S v r ∧ Good C W σ H (if 2 == ps.length then outR [r] (F [cloS N.length lps.length (js.map (capD ρ)) g] [frz r, .fn 0] []) w1 else .err) fun p => ∀ v H', Pst C H H' p.2 → RvOk C H H' S v p.1 → Q v H') I (eT_of E E.rf (h.bind.imp fun q hq v H1 p1 r1 => ⟨_, _, p1, r1, hq⟩))) fun u s1 ⟨v, H1, I1, rv, r, w1, p1, r1, q⟩ => ?_)
  rw [he2]
  show wpAny _ _ (spliced ((false, eval (.Lambda params body scope lpos) X.env) :: backTo pos (starEach [] X.env))) _ _ s1
  have E1 := E.go p1
  refine Calls.spliced_cons (L.made o E1 I1 fun fl H2 s2 I2 p2 clo => ?_)
  refine Calls.spliced_nil ⟨I2.kIn, ?_⟩
  split at q
  · rename_i hl
    have hl := beq_iff_eq.mp hl
    have hb' := hb s2 [u, .ref fl] I2.kIn (by rw [List.append_nil, ← hl]; rfl)
    rw [List.append_nil] at hb'
    exact run_fnL (rs := [r]) (vs := [v]) (w := w1) o tk Fn hr E (p1.trans p2) I2 (.cons (r1.grow E E1 p2.g) .nil) (clo.mono hkc) hb' (by rw [← hl]; rfl) (.cons rv (.cons rfl .nil)) q
  · exact q.elim
theorem de_fnL0 {x : Str} {p pos : Pos} (o : Own1 X G C) (tk : Takes X W) (Fn : FnD G k kc f fd ps false F) (hr : Room k X.A) (hg : Gl X x) (hm : X.mg x = some (.ref f)) (hk : PySem.W.keepIn X.K (.ref f) = true) (hb : Binds X.K fd ps [])
    (L : LamD X G kb c P nm params body scope lpos N lps fr js g) (hkc : kb + 1 ≤ kc)
    (hdb : (x == ("__debug__" : Str)) = false := by decide) (he2 : starEach [.Lambda params body scope lpos] X.env = (false, eval (.Lambda params body scope lpos) X.env) :: starEach [] X.env := by rfl) (hpl : (backTo pos (starEach [] X.env)).any (·.1) = false := by rfl) :
    DE X C W (.Call (.Name x p) [.Lambda params body scope lpos] [] pos) (eFnL0 ps.length F N.length lps.length js g) := by
  refine ⟨fun pins s σ H Q I h => ?_⟩
  obtain ⟨ρ, w, S, E, h⟩ := eT_to h
  unfold eFnL0 at h
  refine wpAny_Call_Name_kw (ld_glob I hg hm ?_ hdb)
  refine PySem.W.callWith_K (h₀ := X.base) I.ok.mod.kin hk ?_ he2 hpl
  rw [he2]
  show wpAny _ _ (spliced ((false, eval (.Lambda params body scope lpos) X.env) :: backTo pos (starEach [] X.env))) _ _ s
  refine Calls.spliced_cons (L.made o E I fun fl H2 s2 I2 p2 clo => ?_)
  refine Calls.spliced_nil ⟨I2.kIn, ?_⟩
  split at h
  · rename_i hl
    have hl := beq_iff_eq.mp hl
    have hb' := hb s2 [.ref fl] I2.kIn (by rw [List.append_nil, ← hl]; rfl)
    rw [List.append_nil] at hb'
    exact run_fnL (rs := []) (vs := []) (w := w) o tk Fn hr E p2 I2 .nil (clo.mono hkc) hb' (by rw [← hl]; rfl) (.cons rfl .nil) h
  · exact h.elim
end
/-! ### a parameter that is a function is called -/
theorem Holds.get {G : Pg} {k : Nat} {h : Heap} {H : Hp} : ∀ {Φ : List CSem} {fns : List Addr} {i : Nat} {f : Addr}, Holds G k h H Φ fns → fns[i]? = some f → ∃ φ, Φ[i]? = some φ ∧ CloOk G k h H f φ
  | _, _, _, _, .nil, e => by simp at e
  | _, _, 0, _, .cons z _, e => by simp at e; subst e; exact ⟨_, rfl, z⟩
  | _, _, i + 1, _, .cons _ r, e => by
    obtain ⟨φ, a, b⟩ := Holds.get (i := i) r (by simpa using e)
    exact ⟨φ, by simpa using a, b⟩
def outC (rs : List RV) (R : Res RV) (w : List Int) : Res (RV × List Int) := match R with
  | .ok r => if noBw rs || indep r then .ok (r, w) else .err
  | .exc c d => .exc c d
  | .err => .err
def callC (Φ : List CSem) (e : Option (Option EV)) (R : Res (List RV × List Int)) : Res (RV × List Int) := match e with
  | some (some (.fn k)) => (match Φ[k]? with
    | some φ => R.bind fun p => outC p.1 (φ (p.1.map RV.d)) p.2
    | none => .err)
  | _ => .err
/-- x(..), x a parameter -/
def eFnC (Φ : List CSem) (i : Nat) (f : Ax) : Ex := fun ρ w => callC Φ ρ[i]? (f ρ w)
/-- x() -/
def eFnC0 (Φ : List CSem) (i : Nat) : Ex := fun ρ w => callC Φ ρ[i]? (.ok ([], w))
theorem callC_fn {Φ : List CSem} {e : Option (Option EV)} {R : Res (List RV × List Int)} {C : Cn} {W : WX} {σ : L2.St} {H : Hp} {P : RV × List Int → Prop} (h : Good C W σ H (callC Φ e R) P) : ∃ k φ, e = some (some (.fn k)) ∧ Φ[k]? = some φ ∧ Good C W σ H (R.bind fun p => outC p.1 (φ (p.1.map RV.d)) p.2) P := by
  unfold callC at h
  split at h
  · rename_i k
    cases eφ : Φ[k]? with
    | none => rw [eφ] at h; exact h.elim
    | some φ => rw [eφ] at h; exact ⟨k, φ, rfl, eφ, h⟩
  · exact h.elim
theorem EnvOk.grz {C : Cn} {ρ : DEnv} {w : List Int} {S : Addr → Prop} {σ : L2.St} {H : Hp} (E : EnvOk C ρ w S σ H) (hp : C.pw = none) (hlk : ∀ p ∈ C.lk, ∃ xs, p.2.2 = DN C.P C.w p.1 xs) : Grz C.H0 H := by
  refine ⟨fun a o h n => ?_, E.gn⟩
  have q := E.gk a o h n (by rw [hp]; exact fun z => nomatch z)
  by_cases m : a ∈ C.lk.map (fun p => p.1)
  · rcases q.2 m with z | ⟨ob, z⟩
    · exact .inl z
    · refine .inr ⟨⟨ob, z⟩, fun ob' u e => ?_⟩
      obtain ⟨p, hp', e'⟩ := List.mem_map.mp m
      have l := E.lo p hp'
      subst e'
      rw [z] at l
      cases l
      obtain ⟨xs, ex⟩ := hlk p hp'
      rw [e] at ex
      unfold DN at ex
      cases ex
  · exact .inl (q.1 m)
section
variable {X : Cx} {G : Pg} {C : Cn} {W : WX} {k kc : Nat} {Φ : List CSem} {i : Nat} {x : Str} {p pos : Pos} {e : Expr} {es : List Expr} {af : Ax}
theorem rps_args (hP : C.P = G.P) (hw : C.w = G.w) (hK : C.K = G.K) {H H' : Hp} {S : Addr → Prop} {ρ : DEnv} {w : List Int} {σ : L2.St} (E : EnvOk C ρ w S σ H) {vs : List V} {rs : List RV} (r : RvsOk C H H' S vs rs) : Rps G.P G.w G.K H' (fun a => if noBw rs = true then S a else C.pw ≠ some a) vs (rs.map RV.d) := by
  have a := args_of (fns := []) hP hw hK E r
  have go : ∀ {S0 : Addr → Prop} {rs : List RV} {vs : List V}, Args G H' S0 [] vs (rs.map frz) → Rps G.P G.w G.K H' S0 vs (rs.map RV.d) := by
    intro S0 rs
    induction rs with
    | nil => intro vs a; cases a; exact .nil
    | cons r rs ih =>
      intro vs a
      cases a with
      | dat h t => exact .cons h (ih t)
  exact go a
/-- the call itself -/
theorem run_fnC {pins : List (Addr × Obj)} {s : Shared} {σ : L2.St} {H H1 : Hp} {ρ : DEnv} {w0 w : List Int} {S : Addr → Prop} {Q : VK} {f : Addr} {φ : CSem} {rs : List RV} {vs : List V} {us : List Value} (o : Own1 X G C) (tk : Takes X W) (hr : Room k X.A) (hk : kc ≤ k) (hH : C.H0 = X.H_0) (hex : X.ex = []) (hpw : C.pw = none) (hlk : C.lk = [])
    (clo : CloOk G kc X.s_0.heap X.H_0 f φ) (E : EnvOk C ρ w0 S σ H) (p1 : Pst C H H1 w) (I : Inv X pins σ H1 s) (rv : RvsOk C H H1 S vs rs) (r : Vals vs us)
    (h : Good C W σ H (outC rs (φ (rs.map RV.d)) w) fun p => ∀ v H', Pst C H H' p.2 → RvOk C H H' S v p.1 → Q v H') : wpAny (model X.prog X.w) X.A (call (.ref f) us) (EP X pins σ Q) X.xe s := by
  have hP : C.P = G.P := o.t.P.trans o.P.symm
  have hw : C.w = G.w := o.t.w.trans o.w.symm
  have hK : C.K = G.K := o.t.K.trans o.K.symm
  have und : Und X.s_0.heap X.H_0 s.heap H1 := by
    have u := I.base
    rw [hex] at u
    exact Und.of u
  have E1 := E.go p1
  have grz : Grz X.H_0 H1 := by
    rw [← hH]
    exact E1.grz hpw (fun p m => by rw [hlk] at m; cases m)
  have e0 := I.env0
  have run := clo.2 X.A X.stack s H1 us vs (rs.map RV.d) (fun a => if noBw rs = true then S a else C.pw ≠ some a) Q (fun cls da H' => W cls da σ H') (hr.mono hk) o.t.gd
  rw [o.P, o.w, o.K, o.mg, o.base] at run
  have tb : NdefX.TabsN G.T H1 := by rw [← o.T]; exact p1.tb
  have ra := rps_args hP hw hK E rv
  rw [o.P, o.w, o.K] at ra
  refine wpAny_call (codeAny_mono (run e0 und grz tb r ra ?_) fun r s' hq => ?_)
  · revert h
    cases φ (rs.map RV.d) with
    | ok r' =>
      intro h v H' g tb ret
      have h : Good C W σ H (if (noBw rs || indep r') = true then Res.ok (r', w) else Res.err) (fun p => ∀ v H', Pst C H H' p.2 → RvOk C H H' S v p.1 → Q v H') := h
      split at h
      · rename_i hi
        refine h v H' (p1.trans ⟨grow_none g, st_none g p1.st, by rw [o.T]; exact tb⟩) ?_
        exact (ret_rv hP hw hK ret (sub_S E p1.g (Bool.or_eq_true_iff.mp hi))).back p1.g
      · exact h.elim
    | exc c d =>
      intro h H' da g tb hp
      have h : ExOk C H c d W σ := h
      have := h H' da w (p1.g.trans (grow_none g)) (st_none g p1.st) (by rw [o.T]; exact tb) (by rw [o.pay]; exact hp)
      rw [o.cls] at this
      exact this
    | err => exact fun h => h
  · cases r with
    | error e => exact tk e s' (XE.of_call I (fun _ _ _ h => h) hq)
    | ok fl =>
      cases fl with
      | ret u => exact I.after hq
      | next => exact False.elim hq
      | brk => exact False.elim hq
      | cont => exact False.elim hq
theorem fnAt_und {h h1 : Heap} {H H1 : Hp} {f : Addr} (u : Und h H h1 H1) (z : H f = none ∧ PySem.W.FnAt f h) : PySem.W.FnAt f h1 := by
  obtain ⟨n, oc, od, fd, sl, e⟩ := z
  obtain ⟨⟨sl', e'⟩, _⟩ := u f _ e n
  exact ⟨oc, od, fd, sl', e'⟩
theorem de_fnC (o : Own1 X G C) (tk : Takes X W) (hr : Room k X.A) (hk : kc ≤ k) (hH : C.H0 = X.H_0) (hex : X.ex = []) (hpw : C.pw = none) (hlk : C.lk = []) (hh : Holds G kc X.s_0.heap X.H_0 Φ C.fns) (hN : X.N[i]? = some x) (hv : Vis X.env.scope x) (ha : DA X C W (e :: es) af)
    (hd : (x == ("__debug__" : Str)) = false := by decide) (hcd : (x == ("__classdict__" : Str)) = false := by decide) (he : starEach (e :: es) X.env = (false, eval e X.env) :: starEach es X.env := by rfl) (hpl : (backTo pos (starEach es X.env)).any (·.1) = false := by rfl) :
    DE X C W (.Call (.Name x p) (e :: es) [] pos) (eFnC Φ i af) := by
  refine ⟨fun pins s σ H Q I h => ?_⟩
  obtain ⟨ρ, w, S, E, h⟩ := eT_to h
  unfold eFnC at h
  obtain ⟨kf, φ, er, eφ, h⟩ := callC_fn h
  obtain ⟨v, hs, f, ev, hf⟩ := E.val _ _ er
  subst ev
  obtain ⟨φ', eφ', clo⟩ := hh.get hf
  rw [eφ] at eφ'
  cases eφ'
  refine wpAny_Call_Name_kw (thn ((pe_var (pos := p) hN hv hd hcd).run pins s σ H (fun v H1 => v = .ref f ∧ H1 = H) I ⟨.ref f, hs, rfl, rfl⟩) fun u s1 ⟨v, H1, I1, r1, q1⟩ => ?_)
  obtain ⟨ev, eH⟩ := q1
  subst ev
  rw [eH] at I1
  obtain rfl : u = Value.ref f := r1
  have und : ∀ {s1 : Shared} {H1 : Hp}, Inv X pins σ H1 s1 → Und X.s_0.heap X.H_0 s1.heap H1 := by
    intro s1 H1 I1
    have u := I1.base
    rw [hex] at u
    exact Und.of u
  refine PySem.W.callWith_F (first := []) (fnAt_und (und I1) clo.1) (thn (ha.run pos pins s1 σ H (fun vs H1 => ∃ rs w1, Pst C H H1 w1 ∧ RvsOk C H H1 S vs rs ∧ Good C W σ H (outC rs (φ (rs.map RV.d)) w1) fun p => ∀ v H', Pst C H H' p.2 → RvOk C H H' S v p.1 → Q v H') I1 (aT_of E E.rf (h.bind.imp fun q hq vs H1 p1 r1 => ⟨_, _, p1, r1, hq⟩))) fun us s2 ⟨vs, H2, I2, r, rs, w1, p1, rv, q⟩ => ⟨fnAt_und (und I2) clo.1, ?_⟩) he hpl
  show wpAny _ _ (call (.ref f) us) _ _ _
  exact run_fnC o tk hr hk hH hex hpw hlk clo E p1 I2 rv r q
theorem de_fnC0 (o : Own1 X G C) (tk : Takes X W) (hr : Room k X.A) (hk : kc ≤ k) (hH : C.H0 = X.H_0) (hex : X.ex = []) (hpw : C.pw = none) (hlk : C.lk = []) (hh : Holds G kc X.s_0.heap X.H_0 Φ C.fns) (hN : X.N[i]? = some x) (hv : Vis X.env.scope x)
    (hd : (x == ("__debug__" : Str)) = false := by decide) (hcd : (x == ("__classdict__" : Str)) = false := by decide) :
    DE X C W (.Call (.Name x p) [] [] pos) (eFnC0 Φ i) := by
  refine ⟨fun pins s σ H Q I h => ?_⟩
  obtain ⟨ρ, w, S, E, h⟩ := eT_to h
  unfold eFnC0 at h
  obtain ⟨kf, φ, er, eφ, h⟩ := callC_fn h
  obtain ⟨v, hs, f, ev, hf⟩ := E.val _ _ er
  subst ev
  obtain ⟨φ', eφ', clo⟩ := hh.get hf
  rw [eφ] at eφ'
  cases eφ'
  refine wpAny_Call_Name_kw (thn ((pe_var (pos := p) hN hv hd hcd).run pins s σ H (fun v H1 => v = .ref f ∧ H1 = H) I ⟨.ref f, hs, rfl, rfl⟩) fun u s1 ⟨v, H1, I1, r1, q1⟩ => ?_)
  obtain ⟨ev, eH⟩ := q1
  subst ev
  rw [eH] at I1
  obtain rfl : u = Value.ref f := r1
  have und : Und X.s_0.heap X.H_0 s1.heap H := by
    have u := I1.base
    rw [hex] at u
    exact Und.of u
  refine PySem.W.callWith_F0 (first := []) (fnAt_und und clo.1) ?_
  show wpAny _ _ (call (.ref f) []) _ _ _
  exact run_fnC (rs := []) o tk hr hk hH hex hpw hlk clo E E.rf I1 .nil .nil h
end
/-! ### a def that makes lambdas: its code object is known -/
theorem fnd_ofL {G : Pg} {k kc : Nat} {x qual : Str} {params : Arguments} {body : List Stmt} {scope : Scope} {dvs : List V} {kws : List (Str × V)} {f c : Addr} {fd : FuncData} {N ps : List Str} {st : Bool} (F : FunD G.K x qual params body scope dvs kws f fd) (S : FnScope N ps scope) (g : List CSem → Sx)
    (hc : ∀ (oc : Value) (od : Option Addr) (osl : Array (Option Value)) (fd : FuncData) (c' : Addr), G.K.lookup f = some ⟨oc, od, .func fd, osl⟩ → fd.code = .ref c' → c = c')
    (hbody : ∀ (A : Around) (outer : List Env) (s : Shared) (H : Hp) (E : XK) (S0 : Addr → Prop) (pw : Option Addr) (fns : List Addr) (Φ : List CSem), Room k (A.deeper (envOfC qual scope s.heap.objs.size f (.ref c))) → A.guards = some [] → Holds G kc s.heap H Φ fns → (st = true → ∃ p, pw = some p) → (st = false → pw = none) →
      DSs (cxOf (L2.CX G.P G.w) G.P G.w G.K G.mg G.base N qual scope f (.ref c) A outer s H E) (cnOf G H S0 pw fns) (fun cls d _ H => E cls d H) body (g Φ)) :
    FnD G (k + 1) kc f fd ps st (runB N.length st g) := by
  refine fnd_of0 F S g fun cdv e => ?_
  obtain ⟨oc, od, osl, fd', lk, e1, hcd⟩ := e
  obtain ⟨c', ec⟩ := He.codeIn_ref hcd
  rw [ec] at e1
  have h := hc _ _ _ _ _ lk e1
  subst h
  subst ec
  exact hbody
end DL
namespace DL
open PySem PySem.Spec PyProof.Rows L2
/-! ### sorted(.., key=lambda x: (len(x), x)) -/
mutual
theorem reads_pure {h : Heap} : ∀ {v : Value} {d : D} {as : List Addr}, Reads h v d as → pure? d = true → as = []
  | _, _, _, .none, _ => rfl
  | _, _, _, .bool _, _ => rfl
  | _, _, _, .int _ _, _ => rfl
  | _, _, _, .str _ _, _ => rfl
  | _, _, _, .list _ _ _ _, e => by unfold pure? at e; cases e
  | _, _, _, .tuple _ _ _ r, e => readsAll_pure r (by unfold pure? at e; exact e)
  | _, _, _, .dict _ _ _ _ _, e => by unfold pure? at e; cases e
theorem readsAll_pure {h : Heap} : ∀ {vs : List Value} {ds : List D} {as : List Addr}, ReadsAll h vs ds as → pures? ds = true → as = []
  | _, _, _, .nil, _ => rfl
  | _, _, _, .cons a r, e => by
    unfold pures? at e
    have e := Bool.and_eq_true_iff.mp e
    rw [reads_pure a e.1, readsAll_pure r e.2]
    rfl
end
def keyL : D → D
  | .tuple ds => .tuple [.int ds.length, .tuple ds]
  | d => d
abbrev keyBody (x : Str) (p1 p2 p3 p4 p5 : Pos) (x1 : Nat) : Expr := .Tuple [.Call (.Name "len" p1) [.Name x p2] [] p3, .Name x p4] x1 p5
section
variable {X : Cx} {pins : List (Addr × Obj)} {σ : L2.St} {H : Hp} {s : Shared}
theorem key_turn {f c' a : Addr} {q x : Str} {params : Arguments} {scope : Scope} {cl : List (Str × Addr)} {pm ctv : Value} {p1 p2 p3 p4 p5 : Pos} {x1 : Nat} {its : List Value} {ds : List D} (I : Inv X pins σ H s) (hr : Room 1 X.A) (S : NdefX.NScope [x] [x] [] scope) (hg : scope.names.lookup ("len" : Str) = some NameKind.globalImplicit) (hm : X.mg "len" = none)
    (C : NdefX.CellsAt cl [] [] s.heap H) (ho : s.heap.get? f = some (lamO q params (keyBody x p1 p2 p3 p4 p5 x1) scope cl pm c' ctv)) (hcc : s.heap.CodeRec (.ref c') q) (hb : ∀ (pm cv ctv : Value) (us : List Value), us.length = 1 → bindArgs (PySem.W.kla_fn "<lambda>" q params (keyBody x p1 p2 p3 p4 p5 x1) scope cl pm cv ctv) ⟨us, []⟩ = pure ([x].zip us))
    (ht : IsTup s.heap a its.toArray) (hz : its.length ≤ sizeLine) (hd : Reads s.heap (.ref a) (.tuple ds) []) (hl : its.length = ds.length) (hx : nameOk x = true) {h : Heap} {tk : Nat} (kp : ∀ b o, s.heap.get? b = some o → h.get? b = some o) :
    wpAny (model X.prog X.w) X.A.in1.in1 (call (.ref f) [.ref a]) (PySem.W.KeyPure (keyL (.tuple ds)) { s with heap := h, toks := tk }) (fun _ _ => False) { s with heap := h, toks := tk } := by
  have J : Inv X pins σ H { s with heap := h, toks := tk } := I.kept kp
  have e1 := J.env0
  have e0 : Env0 X.prog X.w X.K X.mg X.base X.A.in1.in1 X.stack { s with heap := h, toks := tk } (fun _ => none) := ⟨e1.frames, e1.mod, fun b o e => ⟨(e1.bs b o e).1, rfl⟩, e1.bsz, e1.funs, fun _ _ => rfl, (fun a o e => nomatch e), e1.bare⟩
  have lim : h.NoLimit := J.nolimit
  have cells : NdefX.CellsAt cl [] [] h (fun _ => none) := ⟨C.len, fun y c e => ⟨rfl, by
    obtain ⟨_, v, o, h1, h2⟩ := C.all y c e
    exact ⟨v, o, kp _ _ h1, h2⟩⟩, C.inj, fun i y e => by cases e⟩
  have hcr : h.CodeRec (.ref c') q := by
    obtain ⟨c, oc, vs, t, ec, h1, h2, h3⟩ := hcc
    exact ⟨c, oc, vs, t, ec, kp _ _ h1, h2, h3⟩
  refine wpAny_call (PySem.W.kla_callFunE (by have := hr.dp; show X.A.depth < _; omega) (kp _ _ ho) rfl S.co S.gen rfl hcr ?_)
  rw [hb _ _ _ [.ref a] rfl]
  refine wpAny_pure (wpAny_newFunctionEnv S.nocell (fun ⟨n, _⟩ hy => S.par n (List.of_mem_zip hy).1) (fun h₁ hns hsb => ⟨lim.fresh _ hsb, ?_⟩) S.kind)
  have kp1 : ∀ b o, h.get? b = some o → h₁.get? b = some o := fun b o e => hsb.extBut b o (Nat.ne_of_lt (Heap.lt_size e)) (Heap.get?_push_of_some _ e)
  have L := NdefX.inv_startN (CX := L2.CX X.prog X.w) (F := ⟨"<lambda>", q, params, [], scope, cl, c'⟩) (f := f) (E := fun _ _ _ => False) (tk := tk + 1) (s := { s with heap := h, toks := tk }) (ws := []) (vs := [.ref a]) (us := [.ref a]) S (show X.A.in1.in1.handled = none from hr.hd) e0 rfl (.cons rfl .nil) cells hns kp1
  have nx := namesOk_at (N := [x]) (i := 0) (x := x) (by unfold namesOk; rw [List.all_cons, hx]; rfl) rfl
  have var : ∀ {pos : Pos} {tk' : Nat} {Q : Value → Shared → Prop} {E : Value → Shared → Prop}, Q (.ref a) { s with heap := h₁, toks := tk' } → wpAny (model X.prog X.w) (X.A.in1.in1.deeper (NdefX.envF ⟨"<lambda>", q, params, [], scope, cl, c'⟩ f h.objs.size)) (eval (.Name x pos) (NdefX.envF ⟨"<lambda>", q, params, [], scope, cl, c'⟩ f h.objs.size)) Q E { s with heap := h₁, toks := tk' } := by
    intro pos tk' Q E hq
    obtain ⟨m, hn, hl⟩ := L.loc
    obtain ⟨u, r, l⟩ := hl 0 x (.ref a) rfl rfl (.inl (S.par x (by simp)))
    obtain rfl : u = Value.ref a := r
    rcases l with ⟨hk, hm⟩ | ⟨hk, _⟩
    · exact wpAny_Name (wpAny_loadName_local S.kind hk hn hm hq) nx.1
    · have z : scope.names.lookup x = some .local := S.par x (by simp)
      rcases hk with hk | hk
      · have hk : scope.names.lookup x = some .cell := hk
        rw [z] at hk; cases hk
      · have hk : scope.names.lookup x = some .free := hk
        rw [z] at hk; cases hk
  refine PySem.W.kla_codeExpr (wpAny_Tuple_spliced ?_)
  show wpAny _ _ (spliced ((false, eval (.Call (.Name "len" p1) [.Name x p2] [] p3) (NdefX.envF ⟨"<lambda>", q, params, [], scope, cl, c'⟩ f h.objs.size)) :: [(false, eval (.Name x p4) (NdefX.envF ⟨"<lambda>", q, params, [], scope, cl, c'⟩ f h.objs.size))])) _ _ _
  refine Calls.spliced_cons ?_
  refine wpAny_Call_Name_kw (ld_blt L hg hm (b_len) ?_)
  refine PyProof.Rows.callWith_builtin1 (Calls.spliced_cons (var (Calls.spliced_nil ?_))) rfl rfl
  have ht1 : IsTup h₁ a its.toArray := by
    obtain ⟨o, h1, h2⟩ := ht
    exact ⟨o, kp1 _ _ (kp _ _ h1), h2⟩
  refine len_tuple ht1 (by rw [List.size_toArray]; unfold sizeLine at hz; omega) ?_
  refine Calls.spliced_cons (var (Calls.spliced_nil ⟨by show 2 ≤ sizeLine; decide, ?_⟩))
  refine ⟨_, _, rfl, fun b o e => Heap.get?_push_of_some _ (kp1 _ _ e), ?_⟩
  have r1 : Reads (h₁.push { cls := .type "tuple", data := .seq #[.int its.toArray.size (tk + 1 + 1), .ref a] }) (.ref a) (.tuple ds) [] := PyProof.Rows.Reads.keeps (fun b o e => Heap.get?_push_of_some _ (kp1 _ _ (kp _ _ e))) hd
  have sz : (its.toArray.size : Int) = ds.length := by rw [List.size_toArray, hl]
  refine Reads.tuple (as := []) (Heap.get?_push_size _ rfl) rfl rfl ?_
  show ReadsAll _ [.int its.toArray.size _, .ref a] [.int ds.length, .tuple ds] ([] ++ ([] ++ []))
  rw [← sz]
  exact .cons (.int _ _) (.cons r1 .nil)
end

def tupP (ds : List D) : Bool := ds.all fun d => match d with
  | .tuple _ => pure? d
  | _ => false
def srtL (ds : List D) : List D := ds.mergeSort (PySem.W.dataLe false keyL)
def fSortL : D → Option RV
  | .list ds => if tupP ds && decide (PyData.depthAll ds ≤ 60) && alikes (ds.map keyL) then some (.ow (.list (srtL ds))) else none
  | _ => none
def eSortK (a : Ex) : Ex := fun ρ w => (a ρ w).bind fun p => lift (fSortL p.1.d) p.2
theorem tupP_at {ds : List D} (h : tupP ds = true) {d : D} (m : d ∈ ds) : ∃ l, d = .tuple l ∧ pure? d = true := by
  have h1 := List.all_eq_true.mp h d m
  cases d with
  | tuple l => exact ⟨l, rfl, h1⟩
  | _ => cases h1
mutual
theorem pure_flat : ∀ d : D, pure? d = true → flatD d = true
  | .none, _ => rfl
  | .bool _, _ => rfl
  | .int _, _ => rfl
  | .str _, _ => rfl
  | .list _, h => by unfold pure? at h; cases h
  | .dict _, h => by unfold pure? at h; cases h
  | .tuple ds, h => by unfold flatD; unfold pure? at h; exact pures_flat ds h
theorem pures_flat : ∀ ds : List D, pures? ds = true → flatDs ds = true
  | [], _ => rfl
  | d :: ds, h => by
    unfold pures? at h
    have h := Bool.and_eq_true_iff.mp h
    unfold flatDs
    rw [pure_flat d h.1, pures_flat ds h.2]
    rfl
end
/-- the lambda of a sort's key -/
structure LamK (X : Cx) (G : Pg) (c P : Addr) (nm : Nat → Nat → Str) (params : Arguments) (body : Expr) (scope : Scope) (lpos : Pos) (x : Str) : Prop where
  lw : Lw G c P nm
  code : X.env.code = .ref c
  name : nm lpos.line lpos.col = X.env.qual ++ lamQ
  sc : NdefX.nscB [x] [x] [] scope = true
  fit : NdefX.ndefB X.env.scope scope [] = true
  glo : scope.names.lookup ("len" : Str) = some NameKind.globalImplicit
  dflt : defaultsOf params X.env = ([], [])
  bind : ∀ (q : Str) (cl : List (Str × Addr)) (pm cv ctv : Value) (us : List Value), us.length = 1 → bindArgs (PySem.W.kla_fn "<lambda>" q params body scope cl pm cv ctv) ⟨us, []⟩ = pure ([x].zip us)
  ok : nameOk x = true
section
variable {X : Cx} {G : Pg} {C : Cn} {W : WX} {c P : Addr} {nm : Nat → Nat → Str} {params : Arguments} {scope : Scope} {lpos kpos p pos : Pos} {x : Str} {e : Expr} {a : Ex} {p1 p2 p3 p4 p5 : Pos} {x1 : Nat}
theorem sort_run {pins : List (Addr × Obj)} {s : Shared} {σ : L2.St} {H : Hp} {S : Addr → Prop} {d : D} {v : V} {u : Value} {Q : VK} (t : Tie X C) (hr : Room 1 X.A) (L : LamK X G c P nm params (keyBody x p1 p2 p3 p4 p5 x1) scope lpos x) (I : Inv X pins σ H s) (rv : RelV v u) (l : Lt C H S v d) (hm : X.mg ("len" : Str) = none) {f c' : Addr} {pm ctv : Value}
    (ho : s.heap.get? f = some (lamO (X.env.qual ++ lamQ) params (keyBody x p1 p2 p3 p4 p5 x1) scope (cloFrom X.env.cells scope.names []) pm c' ctv)) (hcc : H c' = some (LamX.CodeO c' (X.env.qual ++ lamQ))) (q : opQ C S (fSortL d) H Q) :
    wpAny (model X.prog X.w) X.A (call (.builtin "sorted") [u] [(Str.ofString "key", .ref f)]) (EP X pins σ Q) X.xe s := by
  have hroom := t.room
  have hS := NdefX.nscope_by L.sc
  have caps := NdefX.Caps.made (js := []) I.ok (NdefX.ndef_free L.fit) (NdefX.ndef_fr L.fit) rfl
  have cells := NdefX.cells_of I caps
  have hcr := NdefX.codeO_at I.hok hcc
  revert q
  unfold fSortL
  split
  · rename_i ds
    intro q
    obtain ⟨ad, vs, rfl, ra, pa⟩ := l.list
    obtain ⟨hc, q⟩ := ite_some q
    have h1 := Bool.and_eq_true_iff.mp hc
    have h2 := Bool.and_eq_true_iff.mp h1.1
    have hd := of_decide_eq_true h2.2
    obtain ⟨its, n, rvs, hl, hz⟩ := rd_list I ra
    obtain rfl : u = Value.ref ad := rv
    have e1 := each_of pa rvs
    refine PySem.W.sorted_key_data (b := false) (R := fun u d => ∃ v, RelV v u ∧ Rp C.P C.w C.K H S v d) (bs := ds) (vs := its) keyL ⟨_, hl, rfl, n, rfl⟩ e1 ?_ ?_ (by rw [← pa.length]; exact hz) ?_ (PyProof.Rows.ksk_s1 _ _) (fun _ => PyProof.Rows.ksk_l1 _ _) (fun _ => PyProof.Rows.ksk_t1 _ _) ?_ ?_
    · intro k hk k' hk'
      exact List.all_eq_true.mp (List.all_eq_true.mp h1.2 k hk) k' hk'
    · refine .inl fun k hk => ?_
      obtain ⟨d, hm, rfl⟩ := List.mem_map.mp hk
      obtain ⟨l, rfl, _⟩ := tupP_at h2.1 hm
      exact ⟨_, _, rfl⟩
    · intro d m
      have := depth_mem m
      obtain ⟨l, rfl, _⟩ := tupP_at h2.1 m
      have hk : (keyL (.tuple l)).depth ≤ 1 + (PyData.tuple l).depth := by
        show (PyData.tuple [.int l.length, .tuple l]).depth ≤ _
        have e : (PyData.tuple [.int l.length, .tuple l]).depth = 1 + max (PyData.int l.length).depth (max (PyData.tuple l).depth 0) := by
          simp only [PyData.depth, PyData.depthAll]
          omega
        have e2 : (PyData.int l.length).depth = 0 := by simp [PyData.depth]
        rw [e, e2]
        omega
      show X.A.units + 2 + (keyL (.tuple l)).depth < cLine
      omega
    · rintro u' d ⟨v', r', rp⟩ m h tk kp
      obtain ⟨l, rfl, hp⟩ := tupP_at h2.1 m
      cases rp with
      | tup sq rr =>
        rw [t.K] at sq
        obtain ⟨its', rv', ht, hz'⟩ := I.tuple sq
        rename_i a' vs'
        obtain rfl : u' = Value.ref a' := r'
        obtain ⟨as, rd⟩ := Lt.reads t I (C := C) (S := S) (.inl (.tup (by rw [t.K]; exact sq) rr)) (pure_flat _ hp) (show RelV (.ref a') (.ref a') from rfl)
        rw [reads_pure rd hp] at rd
        exact key_turn I hr hS L.glo hm cells ho hcr (fun pm cv ctv us hl => L.bind _ _ pm cv ctv us hl) ht (by rw [← rv'.length]; exact hz') rd (by rw [← rv'.length, rr.length]) L.ok kp
    · intro out cc h' tk kp hn hout hlen eo
      obtain ⟨vs', a1, b1⟩ := of_each eo
      have hz' : vs'.length ≤ sizeLine := by rw [a1.length, hlen, ← pa.length]; exact hz
      exact ⟨.ref _, upd H (s.heap.objs.size + 1) (.lst vs'), I.laid (t' := tk) kp (Nat.le_succ _) ⟨hz', out, cc, a1, hout⟩, rfl, opQ_lst q rfl b1 _ (I.hok.fresh (Nat.le_succ _))⟩
  · exact fun q => q.elim
theorem de_sortK (o : Own1 X G C) (hr : Room 1 X.A) (ha : DE X C W e a) (L : LamK X G c P nm params (keyBody x p1 p2 p3 p4 p5 x1) scope lpos x) (hg : Gl X "sorted") (hm : X.mg "sorted" = none) (hml : X.mg ("len" : Str) = none)
    (he : backTo pos (starEach [e] X.env) = (false, eval e X.env) :: backTo pos (starEach [] X.env) := by rfl) (hpl : (backTo pos (starEach [e] X.env)).any (·.1) = false := by rfl) :
    DE X C W (.Call (.Name "sorted" p) [e] [⟨some "key", .Lambda params (keyBody x p1 p2 p3 p4 p5 x1) scope lpos, kpos⟩] pos) (eSortK a) := by
  refine ⟨fun pins s σ H Q I h => ?_⟩
  obtain ⟨ρ, w, S, E, h⟩ := eT_to h
  unfold eSortK at h
  refine wpAny_Call_Name_kw (ld_blt I hg hm b_sorted ?_)
  refine PyProof.Rows.callWith_kw ?_ he hpl rfl rfl
  rw [he]
  refine Calls.spliced_cons (thn (ha.run pins s σ H (fun v H1 => ∃ r w1, Pst C H H1 w1 ∧ RvOk C H H1 S v r ∧ Good C W σ H (lift (fSortL r.d) w1) fun p => ∀ v H', Pst C H H' p.2 → RvOk C H H' S v p.1 → Q v H') I (eT_of E E.rf (h.bind.imp fun q hq v H1 p1 r1 => ⟨_, _, p1, r1, hq⟩))) fun u s1 ⟨v, H1, I1, rv, r, w1, p1, r1, q⟩ => ?_)
  refine Calls.spliced_nil ?_
  have E1 := E.go p1
  have fr1 := NdefX.ndef_free L.fit
  have hfree : ∀ y ∈ scope.names, y.2 = .free → ∃ c, X.env.cells.lookup y.1 = some c := fun y hy e => (fr1 y hy e).elim (fun z => I.ok.has _ (.inl z)) fun z => I.ok.has _ (.inr z)
  have tb : LamX.TabB X.base X.mg c P := by have := L.lw.tb; rw [o.base, o.mg] at this; exact this
  have tH : NdefX.TabsN G.T H1 := by rw [← o.T]; exact E1.tb
  refine wpAny_evalAll_cons (wpAny_bind (lamMake I1 tb L.code L.lw.mem L.name L.lw.un tH L.dflt hfree fun f' c' pm ctv H2 s2 I2 eN nn T1 _ hof hnf hnr hcc => ?_))
  refine wpAny_bind (wpAny_standAt (wpAny_pure (wpAny_evalAll_nil ?_)))
  have p2 : Pst C H1 H2 w1 := pst_ext E1.st eN nn (by rw [o.T]; exact T1)
  exact sort_run o.t hr L I2 rv (RvOk.lt (ρ := ρ) (w := w) (σ := σ) (r1.grow E E1 p2.g)) hml hof hcc (opQ_of (E1.go p2) (p1.trans p2).g (q.imp fun z hz v' H' p3 r3 => hz v' H' ((p1.trans p2).trans p3) r3))
end
end DL
namespace DL
open PySem PySem.Spec PyProof.Rows L2
/-! ### short rules for lambdas -/
theorem bl_add {j m n : Nat} (h : Nat.ble j m = true) : Nat.ble j (n + m) = true := Nat.ble_eq_true_of_le (Nat.le_trans (Nat.le_of_ble_eq_true h) (Nat.le_add_left m n))
section
variable {G : Pg} {k : Nat} {X : Cx} {C : Cn} {W : WX}
theorem deFnL {kb kc j : Nat} {f : Addr} {fd : FuncData} {ps : List Str} {F : FSem} {c P : Addr} {nm : Nat → Nat → Str} {params : Arguments} {body : Expr} {scope : Scope} {lpos : Pos} {N lps fr : List Str} {js : List Nat} {g : Ex} {x : Str} {p pos : Pos} {e : Expr} {a : Ex} (h : Wk G k X C W) (Fn : FnD G j kc f fd ps false F) (hj : Nat.ble j k = true) (hg : Gl X x) (hm : X.mg x = some (.ref f)) (hk : PySem.W.keepIn X.K (.ref f) = true) (hb : Binds X.K fd ps []) (ha : DE X C W e a)
    (L : LamD X G kb c P nm params body scope lpos N lps fr js g) (hkc : Nat.ble (kb + 1) kc = true)
    (hdb : (x == ("__debug__" : Str)) = false := by decide) (he : starEach [e, .Lambda params body scope lpos] X.env = (false, eval e X.env) :: starEach [.Lambda params body scope lpos] X.env := by rfl) (he2 : starEach [.Lambda params body scope lpos] X.env = (false, eval (.Lambda params body scope lpos) X.env) :: starEach [] X.env := by rfl) (hpl : (backTo pos (starEach [.Lambda params body scope lpos] X.env)).any (·.1) = false := by rfl) :
    DE X C W (.Call (.Name x p) [e, .Lambda params body scope lpos] [] pos) (eFnL ps.length F N.length lps.length js g a) :=
  de_fnL h.o h.tk (Fn.mono (Nat.le_of_ble_eq_true hj)) h.hr hg hm hk hb ha L (Nat.le_of_ble_eq_true hkc) hdb he he2 hpl
theorem deFnL0 {kb kc j : Nat} {f : Addr} {fd : FuncData} {ps : List Str} {F : FSem} {c P : Addr} {nm : Nat → Nat → Str} {params : Arguments} {body : Expr} {scope : Scope} {lpos : Pos} {N lps fr : List Str} {js : List Nat} {g : Ex} {x : Str} {p pos : Pos} (h : Wk G k X C W) (Fn : FnD G j kc f fd ps false F) (hj : Nat.ble j k = true) (hg : Gl X x) (hm : X.mg x = some (.ref f)) (hk : PySem.W.keepIn X.K (.ref f) = true) (hb : Binds X.K fd ps [])
    (L : LamD X G kb c P nm params body scope lpos N lps fr js g) (hkc : Nat.ble (kb + 1) kc = true)
    (hdb : (x == ("__debug__" : Str)) = false := by decide) (he2 : starEach [.Lambda params body scope lpos] X.env = (false, eval (.Lambda params body scope lpos) X.env) :: starEach [] X.env := by rfl) (hpl : (backTo pos (starEach [] X.env)).any (·.1) = false := by rfl) :
    DE X C W (.Call (.Name x p) [.Lambda params body scope lpos] [] pos) (eFnL0 ps.length F N.length lps.length js g) :=
  de_fnL0 h.o h.tk (Fn.mono (Nat.le_of_ble_eq_true hj)) h.hr hg hm hk hb L (Nat.le_of_ble_eq_true hkc) hdb he2 hpl
theorem deFnC {kc : Nat} {Φ : List CSem} {i : Nat} {x : Str} {p pos : Pos} {e : Expr} {es : List Expr} {af : Ax} (h : Wk G k X C W) (hk : kc ≤ k) (hpw : C.pw = none) (hH : C.H0 = X.H_0) (hex : X.ex = []) (hlk : C.lk = []) (hh : Holds G kc X.s_0.heap X.H_0 Φ C.fns) (hN : X.N[i]? = some x) (hv : visB X.env.scope x = true) (ha : DA X C W (e :: es) af)
    (he : starEach (e :: es) X.env = (false, eval e X.env) :: starEach es X.env := by rfl) (hpl : (backTo pos (starEach es X.env)).any (·.1) = false := by rfl) : DE X C W (.Call (.Name x p) (e :: es) [] pos) (eFnC Φ i af) :=
  de_fnC h.o h.tk h.hr hk hH hex hpw hlk hh hN (vis_of hv) ha (namesOk_at h.nm hN).1 (namesOk_at h.nm hN).2 he hpl
theorem deFnC0 {kc : Nat} {Φ : List CSem} {i : Nat} {x : Str} {p pos : Pos} (h : Wk G k X C W) (hk : kc ≤ k) (hpw : C.pw = none) (hH : C.H0 = X.H_0) (hex : X.ex = []) (hlk : C.lk = []) (hh : Holds G kc X.s_0.heap X.H_0 Φ C.fns) (hN : X.N[i]? = some x) (hv : visB X.env.scope x = true) : DE X C W (.Call (.Name x p) [] [] pos) (eFnC0 Φ i) :=
  de_fnC0 h.o h.tk h.hr hk hH hex hpw hlk hh hN (vis_of hv) (namesOk_at h.nm hN).1 (namesOk_at h.nm hN).2
theorem deSortK {c P : Addr} {nm : Nat → Nat → Str} {params : Arguments} {scope : Scope} {lpos kpos p pos : Pos} {x : Str} {e : Expr} {a : Ex} {p1 p2 p3 p4 p5 : Pos} {x1 : Nat} (h : Wk G k X C W) (hj : Nat.ble 1 k = true) (ha : DE X C W e a) (L : LamK X G c P nm params (keyBody x p1 p2 p3 p4 p5 x1) scope lpos x) (hg : Gl X "sorted") (hm : X.mg "sorted" = none) (hml : X.mg ("len" : Str) = none)
    (he : backTo pos (starEach [e] X.env) = (false, eval e X.env) :: backTo pos (starEach [] X.env) := by rfl) (hpl : (backTo pos (starEach [e] X.env)).any (·.1) = false := by rfl) :
    DE X C W (.Call (.Name "sorted" p) [e] [⟨some "key", .Lambda params (keyBody x p1 p2 p3 p4 p5 x1) scope lpos, kpos⟩] pos) (eSortK a) :=
  de_sortK h.o (h.hr.mono (Nat.le_of_ble_eq_true hj)) ha L hg hm hml he hpl
/-- at a lambda's body -/
theorem wk_lam {N : List Str} {F : NdefX.NF} {f : Addr} {A : Around} {outer : List Env} {s : Shared} {H : Hp} {E : XK}
    (hr : Room k (A.deeper (NdefX.envF F f s.heap.objs.size))) (hg : A.guards = some []) (hn : namesOk N = true) (nd : N.Nodup) :
    Wk G k (NdefX.ncx (L2.CX G.P G.w) G.P G.w G.K G.mg G.base N F f A outer s H E) (cnOf G H (fun _ => True) none []) (fun cls d _ H => E cls d H) :=
  ⟨⟨⟨rfl, rfl, rfl, rfl, by have := hr.un; show (A.deeper (NdefX.envF F f s.heap.objs.size)).units + 70 < _; omega, hg⟩, rfl, rfl, rfl, rfl, rfl, rfl, rfl, rfl⟩, takes_of rfl rfl rfl rfl, hr, hn, nd, rfl⟩
end
theorem cod_of {K : PySem.W.Frag} {x : Str} {oc : Value} {od : Option Addr} {osl : Array (Option Value)} {fd : FuncData} {c : Addr} (lk : K.lookup (He.ga K x) = some ⟨oc, od, .func fd, osl⟩) (e : fd.code = .ref c) : (He.cT K (x, none)).1 = c :=
  He.codeOf_eq (p := (x, none)) lk e
/-! ### the law, end to end, with tables -/
def nmQ (p : He.Defn) : Nat → Nat → Str := fun _ _ => p.1 ++ (".<locals>.<lambda>" : Str)
def tabsQ (K : PySem.W.Frag) (tf : List He.Defn) : List NdefX.NTab := tf.map fun p => ((He.cT K p).2, nmQ p)
def exT (tf : List He.Defn) (K : PySem.W.Frag) : Bool := noList K && decide ((tf.map fun p => (He.cT K p).2).Nodup)
theorem lw_of {P : Program} {w : World} {K : PySem.W.Frag} {mg : Str → Option Value} {base : Heap} {tf : List He.Defn} {cls : Nat → Value} {pay : Nat → Option Addr → D → Hp → Prop} {p : He.Defn} (nd : (tf.map fun p => (He.cT K p).2).Nodup) (hm : p ∈ tf) (tb : ∀ p ∈ tf, LamX.TabB base mg (He.cT K p).1 (He.cT K p).2) :
    Lw ⟨P, w, K, mg, base, tabsQ K tf, cls, pay⟩ (He.cT K p).1 (He.cT K p).2 (nmQ p) := by
  refine ⟨tb p hm, List.mem_map.mpr ⟨p, hm, rfl⟩, fun z hz e => ?_⟩
  obtain ⟨q, hq, rfl⟩ := List.mem_map.mp hz
  have e : (He.cT K q).2 = (He.cT K p).2 := e
  show nmQ q = nmQ p
  have : q = p := by
    clear hz tb
    induction tf with
    | nil => cases hm
    | cons a l ih =>
      rw [List.map_cons, List.nodup_cons] at nd
      rcases List.mem_cons.mp hm with rfl | h1
      · rcases List.mem_cons.mp hq with rfl | h2
        · rfl
        · exact absurd (List.mem_map.mpr ⟨q, h2, e⟩) nd.1
      · rcases List.mem_cons.mp hq with rfl | h2
        · exact absurd (List.mem_map.mpr ⟨p, h1, e.symm⟩) nd.1
        · exact ih nd.2 h1 h2
  rw [this]
structure LawOkT (P : Program) (w : World) (K : PySem.W.Frag) (mg : Str → Option Value) (tf : List He.Defn) (k : Nat) : Prop where
  go : ∃ (φ : FSem) (fd : FuncData), (∀ zs : List Int, φ [] [.fz (.list (zs.map PyData.int))] [] = .ok (.fz (.bool true), [])) ∧ noList K = true ∧ mg ("law" : Str) = some (.ref (He.ga K ("law" : Str))) ∧ (∀ (s : Shared) (u : Value), BindsTo s fd ⟨[u], []⟩ [(("script" : Str), u)]) ∧
    ∀ base : Heap, K.In base → base.Ns mainGlobals mg → (∀ p ∈ tf, LamX.TabB base mg (He.cT K p).1 (He.cT K p).2) → FnD ⟨P, w, K, mg, base, tabsQ K tf, fun _ => .none, fun _ _ _ _ => False⟩ k 0 (He.ga K ("law" : Str)) fd ["script"] false φ
theorem lawOkT_of {P : Program} {w : World} {K : PySem.W.Frag} {mg : Str → Option Value} {tf : List He.Defn} {k : Nat} {φ : FSem} {fd : FuncData} (m : exT tf K = true) (g : mg ("law" : Str) = some (.ref (He.ga K ("law" : Str))))
    (h : ∀ base : Heap, K.In base → base.Ns mainGlobals mg → (∀ p ∈ tf, Lw ⟨P, w, K, mg, base, tabsQ K tf, fun _ => .none, fun _ _ _ _ => False⟩ (He.cT K p).1 (He.cT K p).2 (nmQ p)) → FnD ⟨P, w, K, mg, base, tabsQ K tf, fun _ => .none, fun _ _ _ _ => False⟩ k 0 (He.ga K ("law" : Str)) fd ["script"] false φ) (b : ∀ (s : Shared) (u : Value), BindsTo s fd ⟨[u], []⟩ [(("script" : Str), u)])
    (p : ∀ zs : List Int, φ [] [.fz (.list (zs.map PyData.int))] [] = .ok (.fz (.bool true), [])) : LawOkT P w K mg tf k := by
  obtain ⟨m1, m2⟩ := Bool.and_eq_true_iff.mp m
  exact ⟨φ, fd, p, m1, g, b, fun base bi bn tb => h base bi bn fun q hq => lw_of (of_decide_eq_true m2) hq tb⟩
theorem law_walkT {l : PySem.W.OpenLaw} {n k : Nat} {q : Program} {loose : List Str} {XP : (Str → Option Value) → Heap → Prop} {d : DefRec} {fa : List He.Fa} {fn : List He.DefD} {tf : List He.Defn} {ex : PySem.W.Frag → Bool}
    (most : l.most = some n) (small : n ≤ sizeLine) (plain : d.params.defaults = []) (nm : d.name = ("law" : Str)) (room : Room k callerA)
    (F : ∀ (w : World) (mg : Str → Option Value) (K : PySem.W.Frag) (h : Heap), K.In h → h.Ns mainGlobals mg → He.SaysX fa fn [] tf ex w h K → LawOkT l.prog w K mg tf k) :
    PySem.W.WalkO q loose XP (He.hookX 4 fa fn [] tf ex).says l.row.toRowW d [] (fun f vs => PySem.call f vs) := by
  refine Att.attach_callB most plain fun w s0 s1 mg mb f o pm cd doc a vs zs Gr says ho hd code at_ obj numb len bits gens => ?_
  obtain ⟨K, inK, c⟩ := says
  obtain ⟨φ, fd, law, nl, gf, b, keeps⟩ := (F w mg K _ inK Gr.T.g c).go
  rw [nm] at at_
  have aK : K.lookup a = none := by
    cases z : K.lookup a with
    | none => rfl
    | some u =>
      have := inK a u z
      rw [obj] at this
      cases this
      exact absurd rfl (noList_at nl z)
  rw [at_] at gf
  cases gf
  refine law_door (cs := tf.map (He.cT K)) (T := tabsQ K tf) (k := k) (kc := 0) (fd := fd) (x := "script") (φ := φ) inK Gr.T.g Gr.T.b Gr.T.builtins Gr.T.nolimit gens (fun p hp => ?_) (fun p hp => ?_) (fun p hp => ?_) Gr.T.bmain obj numb (Nat.le_trans len small) room aK (fun q hq => ?_) (fun base bi bn tb => keeps base bi bn fun p hp => tb _ (List.mem_map_of_mem hp)) b (law zs)
  · obtain ⟨z, hz, rfl⟩ := List.mem_map.mp hp
    exact c.empty z hz
  · obtain ⟨z, hz, rfl⟩ := List.mem_map.mp hp
    exact c.out z hz
  · obtain ⟨z, hz, rfl⟩ := List.mem_map.mp hp
    exact PySem.W.codeHd_of_K inK (c.hd z hz)
  · obtain ⟨z, hz, rfl⟩ := List.mem_map.mp hq
    exact List.mem_map.mpr ⟨_, List.mem_map_of_mem hz, rfl⟩
end DL
namespace DL
open PySem
/-! ### reckoning: the newer words -/
section
variable {ρ : DEnv} {w w' : List Int} {d : D} {ds es : List D} {kvs : List (D × D)} {f g a ek ev : Ex} {af : Ax} {i : Nat} {b b1 : Gx} {t t1 : Tx} {fi fo : Ix} {e : Ex} {vs vs1 : List Nat} {r : RV} {rs : List RV} {sg : Sx}
def kSortK (p : RW2) : Res RW2 := lift (fSortL p.1.d) p.2
theorem e_sortK : eSortK a ρ w = (a ρ w).bind kSortK := rfl
theorem k_sortK : kSortK (r, w) = lift (fSortL r.d) w := rfl
def kLc2c (vs vs1 : List Nat) (b : Gx) (t : Tx) (fi : Ix) (b1 : Gx) (t1 : Tx) (e : Ex) (ρ : DEnv) (p : List D × List Int) : Res RW2 := (noX (lcL2 vs1 b t fi b1 t1 e p.1 (wipeE ρ vs) p.2)).bind mkL
theorem e_lc2 : eLc2 vs vs1 fo b t fi b1 t1 e ρ w = (fo ρ w).bind (kLc2c vs vs1 b t fi b1 t1 e ρ) := rfl
theorem k_lc2c : kLc2c vs vs1 b t fi b1 t1 e ρ (ds, w) = (noX (lcL2 vs1 b t fi b1 t1 e ds (wipeE ρ vs) w)).bind mkL := rfl
def mkD (z : List (D × D) × List Int) : Res RW2 := .ok (.ow (.dict z.1), z.2)
theorem mkD1 : mkD (kvs, w) = .ok (.ow (.dict kvs), w) := rfl
def kDc (vs : List Nat) (b : Gx) (t : Tx) (ek ev : Ex) (ρ : DEnv) (p : List D × List Int) : Res RW2 := (noX (dcL b t ek ev p.1 (wipeE ρ vs) p.2 [])).bind mkD
theorem e_dc : eDc vs fo b t ek ev ρ w = (fo ρ w).bind (kDc vs b t ek ev ρ) := rfl
theorem k_dc : kDc vs b t ek ev ρ (ds, w) = (noX (dcL b t ek ev ds (wipeE ρ vs) w [])).bind mkD := rfl
theorem e_dc0 : eDc0 ρ w = .ok (.ow (.dict []), w) := rfl
def stDk (i : Nat) (ρ : DEnv) (kvs : List (D × D)) (d : D) (o : Option NestedKey) (w : List Int) : Out := match o with
  | some k => if kvs.length < sizeLine then .nx (ρ.set i (some (.ow (.dict (kput kvs k d))))) w else .err
  | none => .err
def oStD2 (i : Nat) (ρ : DEnv) (kvs : List (D × D)) (d : D) (p : RW2) : Out := match p.1 with
  | .fz dk => stDk i ρ kvs d (dKey dk) p.2
  | _ => .err
def oStD1 (i : Nat) (ek : Ex) (ρ : DEnv) (kvs : List (D × D)) (p : RW2) : Out := match p.1 with
  | .bw _ => .err
  | r => ofR (ek ρ p.2) (oStD2 i ρ kvs r.d)
def stDO (i : Nat) (ek ev : Ex) (ρ : DEnv) (o : Option (Option EV)) (w : List Int) : Out := match o with
  | some (some (.ow (.dict kvs))) => ofR (ev ρ w) (oStD1 i ek ρ kvs)
  | _ => .err
theorem e_stD : sStD i ek ev ρ w = stDO i ek ev ρ ρ[i]? w := by
  unfold sStD stDO
  cases ρ[i]? with
  | none => rfl
  | some o =>
    cases o with
    | none => rfl
    | some x =>
      cases x with
      | fz _ => rfl
      | fn _ => rfl
      | lk _ => rfl
      | ow z =>
        cases z with
        | dict kvs =>
          rfl
        | _ => rfl
theorem stD1 : stDO i ek ev ρ (some (some (.ow (.dict kvs)))) w = ofR (ev ρ w) (oStD1 i ek ρ kvs) := rfl
theorem o_stD1f : oStD1 i ek ρ kvs (.fz d, w) = ofR (ek ρ w) (oStD2 i ρ kvs d) := rfl
theorem o_stD1o : oStD1 i ek ρ kvs (.ow d, w) = ofR (ek ρ w) (oStD2 i ρ kvs d) := rfl
theorem o_stD2 {dk : D} : oStD2 i ρ kvs d (.fz dk, w) = stDk i ρ kvs d (dKey dk) w := rfl
theorem stDk1 {k : NestedKey} (h : kvs.length < sizeLine) : stDk i ρ kvs d (some k) w = .nx (ρ.set i (some (.ow (.dict (kput kvs k d))))) w := if_pos h
def lkO (i : Nat) (sg : Sx) (ρ : DEnv) (o : Option (Option EV)) (w : List Int) : Out := match o with
  | some (some (.fz (.dict kvs))) => unlO (sg (ρ.set i (some (.lk kvs))) w)
  | _ => .err
theorem e_slk : sLk i sg ρ w = lkO i sg ρ ρ[i]? w := rfl
theorem lk1 : lkO i sg ρ (some (some (.fz (.dict kvs)))) w = unlO (sg (ρ.set i (some (.lk kvs))) w) := rfl
def lkE (i : Nat) (f : Ex) (ρ : DEnv) (o : Option (Option EV)) (w : List Int) : Res RW2 := match o with
  | some (some (.fz (.dict kvs))) => noX (f (ρ.set i (some (.lk kvs))) w)
  | _ => .err
theorem e_elk : eLk i f ρ w = lkE i f ρ ρ[i]? w := rfl
theorem lke1 : lkE i f ρ (some (some (.fz (.dict kvs)))) w = noX (f (ρ.set i (some (.lk kvs))) w) := rfl
theorem unlO_nx : unlO (.nx ρ w) = .nx (unl ρ) w := rfl
theorem unlO_bk : unlO (.bk ρ w) = .bk (unl ρ) w := rfl
theorem unlO_ct : unlO (.ct ρ w) = .ct (unl ρ) w := rfl
theorem unlO_rt : unlO (.rt r w) = .rt r w := rfl
def unl1 (e : Option EV) : Option EV := match e with
  | some (.lk kvs) => some (.fz (.dict kvs))
  | e => e
theorem unl_nil : unl [] = [] := rfl
theorem unl_cons {x : Option EV} : unl (x :: ρ) = unl1 x :: unl ρ := rfl
theorem unl1_no : unl1 none = none := rfl
theorem unl1_fz : unl1 (some (.fz d)) = some (.fz d) := rfl
theorem unl1_ow : unl1 (some (.ow d)) = some (.ow d) := rfl
theorem unl1_lk : unl1 (some (.lk kvs)) = some (.fz (.dict kvs)) := rfl
def itO (o : Option (Option EV)) (w : List Int) : Res (List D × List Int) := match o with
  | some (some (.lk kvs)) => .ok (pairsD kvs, w)
  | _ => .err
theorem e_items : iItems i ρ w = itO ρ[i]? w := rfl
theorem items1 : itO (some (some (.lk kvs))) w = .ok (pairsD kvs, w) := rfl
def kyO (o : Option (Option EV)) (w : List Int) : Res (List D × List Int) := match o with
  | some (some (.lk kvs)) => .ok (kvs.map fun p => p.1, w)
  | _ => .err
theorem e_keysD : iKeysD i ρ w = kyO ρ[i]? w := rfl
theorem keysD1 : kyO (some (some (.lk kvs))) w = .ok (kvs.map fun p => p.1, w) := rfl
def kEn (p : List RV × List Int) : Res (List D × List Int) := enR p.1 p.2
theorem e_en : iEn af ρ w = (af ρ w).bind kEn := rfl
theorem k_enL : kEn ([.fz (.list ds)], w) = .ok (enumD 0 ds, w) := rfl
theorem k_enT : kEn ([.fz (.tuple ds)], w) = .ok (enumD 0 ds, w) := rfl
theorem k_enO : kEn ([.ow (.list ds)], w) = .ok (enumD 0 ds, w) := rfl
def kZp (p : List RV × List Int) : Res (List D × List Int) := zpR p.1 p.2
theorem e_zp : iZp af ρ w = (af ρ w).bind kZp := rfl
theorem k_zp : kZp (rs, w) = zpR rs w := rfl
def kFnL (n : Nat) (F : FSem) (nl m : Nat) (js : List Nat) (g : Ex) (ρ : DEnv) (p : RW2) : Res RW2 := if 2 == n then outR [p.1] (F [cloS nl m (js.map (capD ρ)) g] [frz p.1, .fn 0] []) p.2 else .err
theorem e_fnL {n nl m : Nat} {F : FSem} {js : List Nat} : eFnL n F nl m js g a ρ w = (a ρ w).bind (kFnL n F nl m js g ρ) := rfl
theorem k_fnL {n nl m : Nat} {F : FSem} {js : List Nat} : kFnL n F nl m js g ρ (r, w) = if 2 == n then outR [r] (F [cloS nl m (js.map (capD ρ)) g] [frz r, .fn 0] []) w else .err := rfl
theorem e_fnL0 {n nl m : Nat} {F : FSem} {js : List Nat} : eFnL0 n F nl m js g ρ w = if 1 == n then outR [] (F [cloS nl m (js.map (capD ρ)) g] [.fn 0] []) w else .err := rfl
def kC (φ : CSem) (p : List RV × List Int) : Res RW2 := outC p.1 (φ (p.1.map RV.d)) p.2
theorem e_fnC {Φ : List CSem} : eFnC Φ i af ρ w = callC Φ ρ[i]? (af ρ w) := rfl
theorem e_fnC0 {Φ : List CSem} : eFnC0 Φ i ρ w = callC Φ ρ[i]? (.ok ([], w)) := rfl
theorem callC1 {φ : CSem} {Φ : List CSem} {R : Res (List RV × List Int)} : callC (φ :: Φ) (some (some (.fn 0))) R = R.bind (kC φ) := rfl
theorem k_C {φ : CSem} : kC φ (rs, w) = outC rs (φ (rs.map RV.d)) w := rfl
theorem outC1 {r : RV} : outC rs (.ok r) w = if noBw rs || indep r then .ok (r, w) else .err := rfl
theorem noX2 {α : Type} {x : α} : noX (Res.ok x) = .ok x := rfl
theorem v_ixD : fIxA (.dict kvs) d = ((dKey d).bind fun k => kget kvs k).map .fz := rfl
theorem v_inD : fInA d (.dict kvs) = (dKey d).map fun k => .fz (.bool (kget kvs k).isSome) := rfl
theorem v_notInD : fNotInA d (.dict kvs) = (dKey d).map fun k => .fz (.bool (!(kget kvs k).isSome)) := rfl
theorem bind_some {α β : Type} {x : α} {h : α → Option β} : (some x).bind h = h x := rfl
/-! ### two clauses -/
theorem lc2_mapE {α β : Type} {ds1 : α → List D} (enc : α → D) (enc1 : β → D) (In : α → List β) (Fm : α → β → D) (q : α → β → Bool) : ∀ {l : List α},
    (∀ x ∈ l, ∃ ρ1, b (enc x) ρ = some ρ1 ∧ t ρ1 w = .ok (true, w) ∧ fi ρ1 w = .ok ((In x).map enc1, w) ∧ ∀ y ∈ In x, ∃ ρ2, b1 (enc1 y) (wipeE ρ1 vs1) = some ρ2 ∧ t1 ρ2 w = .ok (q x y, w) ∧ (q x y = true → ∃ r, e ρ2 w = .ok (r, w) ∧ valD r = some (Fm x y))) →
    lcL2 vs1 b t fi b1 t1 e (l.map enc) ρ w = .ok (l.flatMap fun x => ((In x).filter (q x)).map (Fm x), w)
  | [], _ => rfl
  | x :: l, h => by
    obtain ⟨ρ1, h1, h2, h3, h4⟩ := h x List.mem_cons_self
    have ih := lc2_mapE (ds1 := ds1) enc enc1 In Fm q fun y m => h y (List.mem_cons_of_mem _ m)
    rw [List.map_cons]
    unfold lcL2
    rw [h1]
    simp only [h2, h3, bind1, if_true]
    rw [lc_filterE enc1 (q x) (Fm x) h4]
    simp only [bind1, ih]
    rfl
/-! ### a dict comprehension -/
theorem kget_none_app {k : NestedKey} {l m : List (D × D)} (h : kget l k = none) (h2 : kget m k = none) : kget (l ++ m) k = none := by
  unfold kget at *
  rw [List.find?_append]
  cases e : l.find? fun p => decide (asKey p.1 = some k) with
  | some p => rw [e] at h; cases h
  | none => exact h2
end
end DL
namespace DL
open PySem
/-! ### tiles as data -/
abbrev Tl : Type := Int × Int
abbrev pr (p : Tl) : D := .tuple [.int p.1, .int p.2]
abbrev lotT (l : List Tl) : D := .tuple (l.map pr)
abbrev lotL (l : List Tl) : D := .list (l.map pr)
def kT (p : Tl) : NestedKey := .tup [.num p.1, .num p.2]
theorem asKey_pr (p : Tl) : asKey (pr p) = some (kT p) := by
  simp [asKey, asKeys, kT]
theorem dKey_pr (p : Tl) : dKey (pr p) = some (kT p) := by
  unfold dKey
  rw [asKey_pr]
  unfold kT
  have : NestedKey.depth (.tup [.num p.1, .num p.2]) ≤ 8 := by
    simp [NestedKey.depth, NestedKey.depthAll]
  simp only [if_pos this]
theorem kT_inj {p q : Tl} : kT p = kT q ↔ p = q := by
  unfold kT
  constructor
  · intro h
    injection h with h
    injection h with h1 h2
    injection h1 with h1
    injection h2 with h2 _
    injection h2 with h2
    exact Prod.ext h1 h2
  · rintro rfl; rfl
theorem keyD_kT (p : Tl) : keyD (kT p) = pr p := by
  simp [kT, keyD, keyDs]
/-! dicts whose keys are tiles -/
def dct (l : List Tl) (f : Tl → D) : List (D × D) := l.map fun t => (pr t, f t)
theorem dct_len {l : List Tl} {f : Tl → D} : (dct l f).length = l.length := List.length_map ..
theorem dct_nil {f : Tl → D} : dct [] f = [] := rfl
theorem kget_dct (l : List Tl) (f : Tl → D) (t : Tl) : kget (dct l f) (kT t) = if t ∈ l then some (f t) else none := by
  unfold kget dct
  induction l with
  | nil => rfl
  | cons a l ih =>
    by_cases h : a = t
    · subst h
      rw [List.map_cons, List.find?_cons_of_pos (by simp [asKey_pr])]
      simp
    · rw [List.map_cons, List.find?_cons_of_neg (by simp [asKey_pr, kT_inj, h]), ih]
      have : (t ∈ a :: l) ↔ t ∈ l := by simp [Ne.symm h]
      simp only [this]
theorem kput_old {l : List Tl} {f : Tl → D} {t : Tl} {v : D} (h : t ∈ l) : kput (dct l f) (kT t) v = dct l (fun u => if u = t then v else f u) := by
  unfold kput
  rw [kget_dct, if_pos h]
  simp only [Option.isSome_some, if_true]
  unfold dct
  rw [List.map_map]
  refine List.map_congr_left fun a _ => ?_
  show (if asKey (pr a) = some (kT t) then _ else _) = _
  rw [asKey_pr]
  by_cases e : a = t
  · subst e; simp
  · have : ¬ (some (kT a) : Option NestedKey) = some (kT t) := by simp [kT_inj, e]
    rw [if_neg this]
    show _ = (pr a, if a = t then v else f a)
    rw [if_neg e]
theorem kput_new {l : List Tl} {f : Tl → D} {t : Tl} {v : D} (h : t ∉ l) : kput (dct l f) (kT t) v = dct (l ++ [t]) (fun u => if u = t then v else f u) := by
  unfold kput
  rw [kget_dct, if_neg h]
  show (if false = true then _ else _) = _
  rw [if_neg (by simp), keyD_kT]
  unfold dct
  rw [List.map_append]
  congr 1
  · refine List.map_congr_left fun a m => ?_
    have : a ≠ t := fun e => h (e ▸ m)
    show _ = (pr a, if a = t then v else f a)
    rw [if_neg this]
  · simp
theorem dct_congr {l : List Tl} {f g : Tl → D} (h : ∀ t ∈ l, f t = g t) : dct l f = dct l g := List.map_congr_left fun a m => by rw [h a m]
/-- what a dict holds at a tile -/
theorem v_ixP {l : List Tl} {f : Tl → D} {t : Tl} (h : t ∈ l) : fIxA (.dict (dct l f)) (pr t) = some (.fz (f t)) := by
  rw [v_ixD, dKey_pr, bind_some, kget_dct, if_pos h]; rfl
theorem v_inP {l : List Tl} {f : Tl → D} {t : Tl} : fInA (pr t) (.dict (dct l f)) = some (.fz (.bool (decide (t ∈ l)))) := by
  rw [v_inD, dKey_pr, map1, kget_dct]
  by_cases h : t ∈ l <;> simp [h]
theorem v_notInP {l : List Tl} {f : Tl → D} {t : Tl} : fNotInA (pr t) (.dict (dct l f)) = some (.fz (.bool (!decide (t ∈ l)))) := by
  rw [v_notInD, dKey_pr, map1, kget_dct]
  by_cases h : t ∈ l <;> simp [h]
/-! a dict comprehension over things that have different tiles -/
theorem dc_tiles {α : Type} {b : Gx} {t : Tx} {ek ev : Ex} {ρ : DEnv} {w : List Int} (enc : α → D) (tf : α → Tl) (vf : Tl → D) : ∀ {xs : List α} {l : List Tl}, (l ++ xs.map tf).Nodup → (l ++ xs.map tf).length ≤ 1000000 → (∀ x ∈ xs, ∃ ρ1 r, b (enc x) ρ = some ρ1 ∧ t ρ1 w = .ok (true, w) ∧ ek ρ1 w = .ok (.fz (pr (tf x)), w) ∧ ev ρ1 w = .ok (r, w) ∧ valD r = some (vf (tf x))) →
    dcL b t ek ev (xs.map enc) ρ w (dct l vf) = .ok (dct (l ++ xs.map tf) vf, w)
  | [], l, _, _, _ => by rw [List.map_nil, List.map_nil, List.append_nil]; rfl
  | x :: xs, l, nd, hl, h => by
    obtain ⟨ρ1, r, h1, h2, h3, h4, h5⟩ := h x List.mem_cons_self
    have nx : tf x ∉ l := by
      rw [List.map_cons] at nd
      intro m
      have := (List.nodup_append.mp nd).2.2 _ m _ List.mem_cons_self
      exact this rfl
    have e : l ++ (x :: xs).map tf = (l ++ [tf x]) ++ xs.map tf := by simp
    have ih := dc_tiles (b := b) (t := t) (ek := ek) (ev := ev) (ρ := ρ) (w := w) enc tf vf (xs := xs) (l := l ++ [tf x]) (by rw [← e]; exact nd) (by rw [← e]; exact hl) fun y m => h y (List.mem_cons_of_mem _ m)
    rw [List.map_cons]
    unfold dcL
    rw [h1]
    simp only [h2, bind1, if_true, h3, h4]
    have p : putR (dct l vf) (pr (tf x)) r = some (dct (l ++ [tf x]) vf) := by
      have lt : (dct l vf).length < sizeLine := by
        rw [dct_len, size_eq]
        rw [List.length_append] at hl
        omega
      have go : ∀ d, some d = some (vf (tf x)) → ((dKey (pr (tf x))).bind fun k => if (dct l vf).length < sizeLine then some (kput (dct l vf) k d) else none) = some (dct (l ++ [tf x]) vf) := by
        intro d e
        cases e
        rw [dKey_pr, bind_some, if_pos lt, kput_new nx]
        congr 1
        refine dct_congr fun u _ => ?_
        by_cases h : u = tf x
        · rw [h]; simp
        · simp [h]
      cases r with
      | fz d => exact go d h5
      | ow d => exact go d h5
      | bw d => cases h5
    rw [p]
    simp only []
    rw [ih, e]
/-! ### == and in -/
theorem eqv_pr (p q : Tl) : PyData.eqv (pr p) (pr q) = decide (p = q) := by
  simp only [PyData.eqv, PyData.eqvAll, Bool.and_true]
  obtain ⟨a, b⟩ := p
  obtain ⟨c, d⟩ := q
  apply Bool.eq_iff_iff.mpr
  simp [Prod.ext_iff]
theorem eqvAll_prs : ∀ l m : List Tl, PyData.eqvAll (l.map pr) (m.map pr) = decide (l = m)
  | [], [] => by simp [PyData.eqvAll]
  | [], _ :: _ => by simp [PyData.eqvAll]
  | _ :: _, [] => by simp [PyData.eqvAll]
  | a :: l, b :: m => by
    rw [List.map_cons, List.map_cons]
    unfold PyData.eqvAll
    rw [eqv_pr, eqvAll_prs]
    simp
theorem eqvAll_lots : ∀ l m : List (List Tl), PyData.eqvAll (l.map lotT) (m.map lotT) = decide (l = m)
  | [], [] => by simp [PyData.eqvAll]
  | [], _ :: _ => by simp [PyData.eqvAll]
  | _ :: _, [] => by simp [PyData.eqvAll]
  | a :: l, b :: m => by
    rw [List.map_cons, List.map_cons]
    unfold PyData.eqvAll PyData.eqv
    rw [eqvAll_prs, eqvAll_lots]
    simp
theorem eqvAll_nilR : ∀ l : List D, PyData.eqvAll l [] = l.isEmpty
  | [] => by simp [PyData.eqvAll]
  | _ :: _ => by simp [PyData.eqvAll]
/-- small tiles -/
def sm (p : Tl) : Prop := p.1.natAbs < 1000000000000 ∧ p.2.natAbs < 1000000000000
def Sm (l : List Tl) : Prop := ∀ t ∈ l, sm t
theorem tdy_pr {p : Tl} (h : sm p) : tdy (pr p) = true := by
  simp [tdy, tdys, h.1, h.2]
theorem tdy_prs {l : List Tl} (h : Sm l) : tdys (l.map pr) = true := tdys_all.mpr fun d m => by
  obtain ⟨t, mt, rfl⟩ := List.mem_map.mp m
  exact tdy_pr (h t mt)
theorem depth_pr (p : Tl) : (pr p).depth = 1 := by simp [PyData.depth, PyData.depthAll]
theorem depth_prs : ∀ l : List Tl, PyData.depthAll (l.map pr) ≤ 1
  | [] => by simp [PyData.depthAll]
  | a :: l => by
    rw [List.map_cons, PyData.depthAll, depth_pr]
    have := depth_prs l
    omega
theorem depth_lot (l : List Tl) : (lotT l).depth ≤ 2 := by
  rw [PyData.depth]
  have := depth_prs l
  omega
theorem depth_lotL (l : List Tl) : (lotL l).depth ≤ 2 := by
  rw [PyData.depth]
  have := depth_prs l
  omega
theorem depth_lots : ∀ l : List (List Tl), PyData.depthAll (l.map lotT) ≤ 2
  | [] => by simp [PyData.depthAll]
  | a :: l => by
    rw [List.map_cons, PyData.depthAll]
    have := depth_lots l
    have := depth_lot a
    omega
theorem cmp_pr {p : Tl} (h : sm p) : cmpD (pr p) = true := cmp_tdy (tdy_pr h) (by rw [depth_pr]; omega)
theorem tdy_lot {l : List Tl} (h : Sm l) : tdy (lotT l) = true := by unfold tdy; exact tdy_prs h
theorem tdy_lotL {l : List Tl} (h : Sm l) : tdy (lotL l) = true := by unfold tdy; exact tdy_prs h
theorem cmp_lot {l : List Tl} (h : Sm l) : cmpD (lotT l) = true := cmp_tdy (tdy_lot h) (by have := depth_lot l; omega)
theorem cmp_lotL {l : List Tl} (h : Sm l) : cmpD (lotL l) = true := cmp_tdy (tdy_lotL h) (by have := depth_lotL l; omega)
theorem tdy_lots {l : List (List Tl)} (h : ∀ x ∈ l, Sm x) : tdys (l.map lotT) = true := tdys_all.mpr fun d m => by
  obtain ⟨t, mt, rfl⟩ := List.mem_map.mp m
  exact tdy_lot (h t mt)
theorem cmp_lots {l : List (List Tl)} (h : ∀ x ∈ l, Sm x) : cmpD (.list (l.map lotT)) = true := cmp_tdy (by unfold tdy; exact tdy_lots h) (by rw [PyData.depth]; have := depth_lots l; omega)
theorem cmp_lotsT {l : List (List Tl)} (h : ∀ x ∈ l, Sm x) : cmpD (.tuple (l.map lotT)) = true := cmp_tdy (by unfold tdy; exact tdy_lots h) (by rw [PyData.depth]; have := depth_lots l; omega)
theorem any_pr (l : List Tl) (t : Tl) : ((l.map pr).any fun z => PyData.eqv z (pr t)) = decide (t ∈ l) := by
  rw [List.any_map]
  apply Bool.eq_iff_iff.mpr
  rw [List.any_eq_true, decide_eq_true_eq]
  constructor
  · rintro ⟨x, m, e⟩
    have e : PyData.eqv (pr x) (pr t) = true := e
    rw [eqv_pr, decide_eq_true_eq] at e
    exact e ▸ m
  · intro m
    exact ⟨t, m, by show PyData.eqv (pr t) (pr t) = true; rw [eqv_pr]; simp⟩
section
variable {t u : Tl} {l m : List Tl} {L M : List (List Tl)}
theorem v_inPT (h : sm t) (hl : Sm l) : fInA (pr t) (lotT l) = some (.fz (.bool (decide (t ∈ l)))) := by
  rw [v_inT]
  show (if cmpD (pr t) && cmpD (lotT l) then some (RV.fz (.bool ((l.map pr).any fun z => PyData.eqv z (pr t)))) else none) = _
  rw [cmp_pr h, cmp_lot hl, any_pr]
  rfl
theorem v_inPL (h : sm t) (hl : Sm l) : fInA (pr t) (lotL l) = some (.fz (.bool (decide (t ∈ l)))) := by
  rw [v_inL]
  show (if cmpD (pr t) && cmpD (lotL l) then some (RV.fz (.bool ((l.map pr).any fun z => PyData.eqv z (pr t)))) else none) = _
  rw [cmp_pr h, cmp_lotL hl, any_pr]
  rfl
theorem v_notInPT (h : sm t) (hl : Sm l) : fNotInA (pr t) (lotT l) = some (.fz (.bool (!decide (t ∈ l)))) := by
  rw [v_notInT]
  show (if cmpD (pr t) && cmpD (lotT l) then some (RV.fz (.bool (!(l.map pr).any fun z => PyData.eqv z (pr t)))) else none) = _
  rw [cmp_pr h, cmp_lot hl, any_pr]
  rfl
theorem v_notInPL (h : sm t) (hl : Sm l) : fNotInA (pr t) (lotL l) = some (.fz (.bool (!decide (t ∈ l)))) := by
  rw [v_notInL]
  show (if cmpD (pr t) && cmpD (lotL l) then some (RV.fz (.bool (!(l.map pr).any fun z => PyData.eqv z (pr t)))) else none) = _
  rw [cmp_pr h, cmp_lotL hl, any_pr]
  rfl
theorem v_eqPr (h : sm t) (h2 : sm u) : fEq (pr t) (pr u) = some (.fz (.bool (decide (t = u)))) := by
  rw [v_eqD (cmp_pr h) (cmp_pr h2) rfl, eqv_pr]
theorem v_nePr (h : sm t) (h2 : sm u) : fNe (pr t) (pr u) = some (.fz (.bool (!decide (t = u)))) := by
  rw [v_neD (cmp_pr h) (cmp_pr h2) rfl, eqv_pr]
theorem v_eqLot (h : Sm l) (h2 : Sm m) : fEq (lotT l) (lotT m) = some (.fz (.bool (decide (l = m)))) := by
  rw [v_eqD (cmp_lot h) (cmp_lot h2) rfl]
  unfold PyData.eqv
  rw [eqvAll_prs]
theorem v_neLot (h : Sm l) (h2 : Sm m) : fNe (lotT l) (lotT m) = some (.fz (.bool (!decide (l = m)))) := by
  rw [v_neD (cmp_lot h) (cmp_lot h2) rfl]
  unfold PyData.eqv
  rw [eqvAll_prs]
theorem cmp_nilT : cmpD (.tuple []) = true := by
  unfold cmpD SeqAt.shaped
  simp [flatD, flatDs, PyData.canLay0, PyData.canLayAll0, PyData.depth, PyData.depthAll]
theorem cmp_nilL : cmpD (.list []) = true := by
  unfold cmpD SeqAt.shaped
  simp [flatD, flatDs, PyData.canLay0, PyData.canLayAll0, PyData.depth, PyData.depthAll]
theorem v_eqNilT {ds : List D} (h : cmpD (.tuple ds) = true) : fEq (.tuple ds) (.tuple []) = some (.fz (.bool ds.isEmpty)) := by
  rw [v_eqD h cmp_nilT rfl]
  unfold PyData.eqv
  rw [eqvAll_nilR]
theorem v_neNilT {ds : List D} (h : cmpD (.tuple ds) = true) : fNe (.tuple ds) (.tuple []) = some (.fz (.bool (!ds.isEmpty))) := by
  rw [v_neD h cmp_nilT rfl]
  unfold PyData.eqv
  rw [eqvAll_nilR]
theorem v_eqNilL {ds : List D} (h : cmpD (.list ds) = true) : fEq (.list ds) (.list []) = some (.fz (.bool ds.isEmpty)) := by
  rw [v_eqD h cmp_nilL rfl]
  unfold PyData.eqv
  rw [eqvAll_nilR]
theorem v_neNilL {ds : List D} (h : cmpD (.list ds) = true) : fNe (.list ds) (.list []) = some (.fz (.bool (!ds.isEmpty))) := by
  rw [v_neD h cmp_nilL rfl]
  unfold PyData.eqv
  rw [eqvAll_nilR]
end
theorem isEmpty_map {α β : Type} (f : α → β) (l : List α) : (l.map f).isEmpty = l.isEmpty := by cases l <;> rfl
end DL
namespace DL
open PySem
/-! ### floors as data -/
abbrev rowD (r : List Int) : D := .tuple (r.map PyData.int)
abbrev flD (F : List (List Int)) : D := .tuple (F.map rowD)
structure Fl (F : List (List Int)) (n m : Nat) : Prop where
  len : F.length = n
  row : ∀ r ∈ F, r.length = m
  n1 : 1 ≤ n
  n6 : n ≤ 6
  m1 : 1 ≤ m
  m6 : m ≤ 6
  cap : n * m ≤ 24
  val : ∀ r ∈ F, ∀ x ∈ r, 0 ≤ x ∧ x ≤ 5
def tiles (n m : Nat) : List Tl := (rngI 0 n).flatMap fun i => (rngI 0 m).map fun j => (i, j)
theorem mem_tiles {n m : Nat} {t : Tl} : t ∈ tiles n m ↔ (0 ≤ t.1 ∧ t.1 < n) ∧ 0 ≤ t.2 ∧ t.2 < m := by
  obtain ⟨x, y⟩ := t
  unfold tiles
  simp only [List.mem_flatMap, List.mem_map, rngI_mem, Prod.mk.injEq]
  constructor
  · rintro ⟨k, hk, j, hj, rfl, rfl⟩
    omega
  · rintro ⟨h1, h2⟩
    exact ⟨x, by omega, y, by omega, rfl, rfl⟩
theorem sm_of {t : Tl} (h1 : -100 ≤ t.1 ∧ t.1 ≤ 100) (h2 : -100 ≤ t.2 ∧ t.2 ≤ 100) : sm t := ⟨by omega, by omega⟩
theorem tiles_len (n m : Nat) : (tiles n m).length = n * m := by
  unfold tiles
  have go : ∀ l : List Int, (l.flatMap fun i => (rngI 0 m).map fun j => ((i, j) : Tl)).length = l.length * m := by
    intro l
    induction l with
    | nil => simp
    | cons a l ih => rw [List.flatMap_cons, List.length_append, List.length_map, rngI_len, ih, List.length_cons, Nat.succ_mul]; omega
  rw [go, rngI_len]
/-- ahead of, as tuples -/
def tlt (a b : Tl) : Prop := a.1 < b.1 ∨ (a.1 = b.1 ∧ a.2 < b.2)
instance (a b : Tl) : Decidable (tlt a b) := by unfold tlt; infer_instance
theorem tlt_irrefl (a : Tl) : ¬ tlt a a := by unfold tlt; omega
theorem tlt_trans {a b c : Tl} (h : tlt a b) (h2 : tlt b c) : tlt a c := by unfold tlt at *; omega
theorem rngI_up : ∀ (lo : Int) (n : Nat), (rngI lo n).Pairwise (· < ·)
  | _, 0 => .nil
  | lo, n + 1 => by
    unfold rngI
    refine .cons (fun x h => ?_) (rngI_up _ n)
    have := rngI_mem.mp h
    omega
theorem tiles_up (n m : Nat) : (tiles n m).Pairwise tlt := by
  unfold tiles
  rw [List.pairwise_flatMap]
  refine ⟨fun i _ => ?_, ?_⟩
  · rw [List.pairwise_map]
    exact (rngI_up 0 m).imp fun h => .inr ⟨rfl, h⟩
  · refine (rngI_up 0 n).imp fun {a b} h x hx y hy => ?_
    obtain ⟨j, _, rfl⟩ := List.mem_map.mp hx
    obtain ⟨k, _, rfl⟩ := List.mem_map.mp hy
    exact .inl h
theorem up_nodup {l : List Tl} (h : l.Pairwise tlt) : l.Nodup := List.Pairwise.imp (S := fun a b => a ≠ b) (fun {a b} (h : tlt a b) (e : a = b) => tlt_irrefl a (by rw [← e] at h; exact h)) h
def rowOf' (F : List (List Int)) (i : Int) : List Int := (F[i.toNat]?).getD []
def need (F : List (List Int)) (t : Tl) : Int := ((rowOf' F t.1)[t.2.toNat]?).getD 0
section
variable {F : List (List Int)} {n m : Nat}
theorem Fl.rowAt (h : Fl F n m) {i : Int} (h0 : 0 ≤ i) (h1 : i < n) : rowOf' F i ∈ F ∧ fIxA (flD F) (.int i) = some (.fz (rowD (rowOf' F i))) := by
  have hl : i.toNat < F.length := by rw [h.len]; omega
  have e : F[i.toNat]? = some F[i.toNat] := List.getElem?_eq_getElem hl
  have er : rowOf' F i = F[i.toNat] := by unfold rowOf'; rw [e]; rfl
  refine ⟨by rw [er]; exact List.getElem_mem hl, ?_⟩
  rw [v_ixTA, at_of h0, List.getElem?_map, e, er]
  rfl
theorem Fl.rowLen (h : Fl F n m) {i : Int} (h0 : 0 ≤ i) (h1 : i < n) : (rowOf' F i).length = m := h.row _ (h.rowAt h0 h1).1
theorem Fl.row0 (h : Fl F n m) : fIxA (flD F) (.int 0) = some (.fz (rowD (rowOf' F 0))) := (h.rowAt (by omega) (by have := h.n1; omega)).2
theorem Fl.len0 (h : Fl F n m) : (rowOf' F 0).length = m := h.rowLen (by omega) (by have := h.n1; omega)
theorem Fl.needAt (h : Fl F n m) {t : Tl} (ht : t ∈ tiles n m) : fIxA (rowD (rowOf' F t.1)) (.int t.2) = some (.fz (.int (need F t))) ∧ 0 ≤ need F t ∧ need F t ≤ 5 := by
  obtain ⟨⟨a1, a2⟩, b1, b2⟩ := mem_tiles.mp ht
  have hl : t.2.toNat < (rowOf' F t.1).length := by rw [h.rowLen a1 a2]; omega
  have e : (rowOf' F t.1)[t.2.toNat]? = some (rowOf' F t.1)[t.2.toNat] := List.getElem?_eq_getElem hl
  have en : need F t = (rowOf' F t.1)[t.2.toNat] := by unfold need; rw [e]; rfl
  refine ⟨?_, ?_⟩
  · rw [v_ixTA, at_of b1, List.getElem?_map, e, en]
    rfl
  · rw [en]
    exact h.val _ (h.rowAt a1 a2).1 _ (List.getElem_mem hl)
end
def inB (n m : Nat) (t : Tl) : Bool := decide (t ∈ tiles n m)
def nbr (t : Tl) : List Tl := [(t.1 - 1, t.2), (t.1, t.2 - 1), (t.1, t.2 + 1), (t.1 + 1, t.2)]
def nb (n m : Nat) (t : Tl) : List Tl := (nbr t).filter (inB n m)
theorem mem_nb {n m : Nat} {t u : Tl} : u ∈ nb n m t ↔ u ∈ nbr t ∧ u ∈ tiles n m := by
  unfold nb inB
  rw [List.mem_filter, decide_eq_true_eq]
theorem nb_len (n m : Nat) (t : Tl) : (nb n m t).length ≤ 4 := by
  have := List.length_filter_le (inB n m) (nbr t)
  unfold nb
  have e : (nbr t).length = 4 := rfl
  omega
theorem nb_tiles {n m : Nat} {t : Tl} : ∀ u ∈ nb n m t, u ∈ tiles n m := fun u h => (mem_nb.mp h).2
theorem nbr_sm {n m : Nat} {t : Tl} (hn : n ≤ 6) (hm : m ≤ 6) (ht : t ∈ tiles n m) : ∀ u ∈ nbr t, sm u := by
  intro u hu
  have := mem_tiles.mp ht
  unfold nbr at hu
  simp only [List.mem_cons, List.not_mem_nil, or_false] at hu
  rcases hu with rfl | rfl | rfl | rfl <;> exact sm_of (by dsimp only; omega) (by dsimp only; omega)
theorem nbr_symm {t u : Tl} : u ∈ nbr t ↔ t ∈ nbr u := by
  obtain ⟨a, b⟩ := t
  obtain ⟨c, d⟩ := u
  unfold nbr
  simp only [List.mem_cons, List.not_mem_nil, or_false, Prod.mk.injEq]
  omega
theorem tiles_sm {n m : Nat} (hn : n ≤ 6) (hm : m ≤ 6) : Sm (tiles n m) := fun t ht => by
  have := mem_tiles.mp ht
  exact sm_of (by omega) (by omega)
theorem Sm.sub {l m : List Tl} (h : Sm m) (s : ∀ t ∈ l, t ∈ m) : Sm l := fun t ht => h t (s t ht)
def webF (F : List (List Int)) (n m : Nat) (t : Tl) : D := .tuple [.int (need F t), lotL (nb n m t)]
def web (F : List (List Int)) (n m : Nat) : List (D × D) := dct (tiles n m) (webF F n m)
/-! ### all lots -/
def grow (L : List (List Tl)) (t : Tl) : List (List Tl) := L ++ L.map fun l => l ++ [t]
def subs (ts : List Tl) : List (List Tl) := ts.foldl grow [[]]
theorem subs_snoc (ts : List Tl) (t : Tl) : subs (ts ++ [t]) = grow (subs ts) t := by unfold subs; rw [List.foldl_append]; rfl
theorem subs_len (ts : List Tl) : (subs ts).length = 2 ^ ts.length := by
  have go : ∀ (ts : List Tl) (L : List (List Tl)), (ts.foldl grow L).length = L.length * 2 ^ ts.length := by
    intro ts
    induction ts with
    | nil => intro L; simp
    | cons t ts ih =>
      intro L
      rw [List.foldl_cons, ih, List.length_cons]
      unfold grow
      rw [List.length_append, List.length_map, Nat.pow_succ]
      rw [← Nat.mul_two, Nat.mul_assoc, Nat.mul_comm 2]
  unfold subs
  rw [go]
  simp
theorem mem_fold : ∀ (ts : List Tl) (L : List (List Tl)) (l : List Tl), l ∈ ts.foldl grow L ↔ ∃ a ∈ L, ∃ z : List Tl, z.Sublist ts ∧ l = a ++ z
  | [], L, l => by
    rw [List.foldl_nil]
    constructor
    · intro h; exact ⟨l, h, [], .slnil, by simp⟩
    · rintro ⟨a, ha, z, hz, rfl⟩
      rw [List.sublist_nil.mp hz, List.append_nil]
      exact ha
  | t :: ts, L, l => by
    rw [List.foldl_cons, mem_fold ts]
    unfold grow
    constructor
    · rintro ⟨a, ha, z, hz, rfl⟩
      rcases List.mem_append.mp ha with h | h
      · exact ⟨a, h, z, hz.cons _, rfl⟩
      · obtain ⟨b, hb, rfl⟩ := List.mem_map.mp h
        exact ⟨b, hb, t :: z, hz.cons_cons _, by simp⟩
    · rintro ⟨a, ha, z, hz, rfl⟩
      cases hz with
      | cons _ hz => exact ⟨a, List.mem_append_left _ ha, z, hz, rfl⟩
      | cons_cons _ hz => exact ⟨a ++ [t], List.mem_append_right _ (List.mem_map.mpr ⟨a, ha, rfl⟩), _, hz, by simp⟩
theorem mem_subs {ts l : List Tl} : l ∈ subs ts ↔ l.Sublist ts := by
  unfold subs
  rw [mem_fold]
  constructor
  · rintro ⟨a, ha, z, hz, rfl⟩
    rw [List.mem_singleton.mp ha]
    exact hz
  · intro h
    exact ⟨[], List.mem_singleton.mpr rfl, l, h, rfl⟩
def keyLe (a b : List Tl) : Bool := PySem.W.dataLe false keyL (lotT a) (lotT b)
def sortM (L : List (List Tl)) : List (List Tl) := L.mergeSort keyLe
def lots (ts : List Tl) : List (List Tl) := sortM (subs ts)
theorem mem_sortM {L : List (List Tl)} {l : List Tl} : l ∈ sortM L ↔ l ∈ L := List.mem_mergeSort
theorem mem_lots {ts l : List Tl} : l ∈ lots ts ↔ l.Sublist ts := mem_sortM.trans mem_subs
theorem lots_len (ts : List Tl) : (lots ts).length = 2 ^ ts.length := by
  unfold lots sortM
  rw [List.length_mergeSort, subs_len]
theorem map_ms {α β : Type} (f : α → β) (r : β → β → Bool) (l : List α) : (l.map f).mergeSort r = (l.mergeSort fun a b => r (f a) (f b)).map f :=
  (List.map_mergeSort (r := fun a b => r (f a) (f b)) (s := r) (f := f) (fun _ _ _ _ => rfl)).symm
theorem alikeAll_prs : ∀ l m : List Tl, PySem.W.alikeAll (l.map pr) (m.map pr) = true
  | [], _ => by simp [PySem.W.alikeAll]
  | _ :: _, [] => by simp [PySem.W.alikeAll]
  | a :: l, b :: m => by
    rw [List.map_cons, List.map_cons]
    unfold PySem.W.alikeAll
    rw [alikeAll_prs]
    simp [PySem.W.alike, PySem.W.alikeAll]
theorem alike_lot (a b : List Tl) : PySem.W.alike (lotT a) (lotT b) = true := by
  unfold PySem.W.alike
  exact alikeAll_prs a b
theorem pures_prs : ∀ l : List Tl, pures? (l.map pr) = true
  | [] => rfl
  | a :: l => by
    rw [List.map_cons]
    unfold pures?
    rw [pures_prs l]
    simp [pure?, pures?]
theorem pure_lot (l : List Tl) : pure? (lotT l) = true := by unfold pure?; exact pures_prs l
theorem pures_lots (L : List (List Tl)) : pures? (L.map lotT) = true := by
  induction L with
  | nil => rfl
  | cons a L ih => rw [List.map_cons]; unfold pures?; rw [pure_lot, ih]; rfl
theorem v_sortM (L : List (List Tl)) : fSortL (.list (L.map lotT)) = some (.ow (.list ((sortM L).map lotT))) := by
  have h1 : tupP (L.map lotT) = true := by
    unfold tupP
    rw [List.all_eq_true]
    intro d m
    obtain ⟨l, _, rfl⟩ := List.mem_map.mp m
    exact pure_lot l
  have h2 : decide (PyData.depthAll (L.map lotT) ≤ 60) = true := decide_eq_true (by have := depth_lots L; omega)
  have h3 : alikes ((L.map lotT).map keyL) = true := by
    unfold alikes
    rw [List.all_eq_true]
    intro d m
    rw [List.all_eq_true]
    intro e me
    rw [List.map_map] at m me
    obtain ⟨a, _, rfl⟩ := List.mem_map.mp m
    obtain ⟨b, _, rfl⟩ := List.mem_map.mp me
    show PySem.W.alike (.tuple [.int _, lotT a]) (.tuple [.int _, lotT b]) = true
    unfold PySem.W.alike PySem.W.alikeAll PySem.W.alikeAll PySem.W.alikeAll
    rw [alike_lot]
    simp [PySem.W.alike]
  unfold fSortL
  simp only [h1, h2, h3, Bool.and_true, if_true]
  unfold srtL sortM
  rw [map_ms]
  rfl
/-! sorted tiles -/
def tle (a b : Tl) : Bool := decide (a.1 < b.1 ∨ (a.1 = b.1 ∧ a.2 ≤ b.2))
def srtT (l : List Tl) : List Tl := l.mergeSort tle
theorem flatDs_prs : ∀ l : List Tl, flatDs (l.map pr) = true
  | [] => rfl
  | a :: l => by
    rw [List.map_cons]
    unfold flatDs
    rw [flatDs_prs l]
    simp [flatD, flatDs]
theorem v_srtT (l : List Tl) : fSorted [.list (l.map pr)] = some (.ow (.list ((srtT l).map pr))) := by
  have h1 : alikes (l.map pr) = true := by
    unfold alikes
    rw [List.all_eq_true]
    intro d m
    rw [List.all_eq_true]
    intro e me
    obtain ⟨a, _, rfl⟩ := List.mem_map.mp m
    obtain ⟨b, _, rfl⟩ := List.mem_map.mp me
    simp [PySem.W.alike, PySem.W.alikeAll]
  have h2 : allTup (l.map pr) = true := by
    unfold allTup
    rw [List.all_eq_true]
    intro d m
    obtain ⟨a, _, rfl⟩ := List.mem_map.mp m
    rfl
  have h3 : decide (PyData.depthAll (l.map pr) ≤ 60) = true := decide_eq_true (by have := depth_prs l; omega)
  unfold fSorted
  simp only [flatDs_prs, h1, h2, h3, Bool.and_true, Bool.true_or, if_true]
  unfold srtD srtT
  rw [map_ms]
  have e : (fun a b : Tl => PySem.W.dataLe false id (pr a) (pr b)) = tle := by
    have := PySem.W.dataLe_ii (β := Tl) (fun p => p.1) (fun p => p.2)
    funext a b
    exact congrFun (congrFun this a) b
  rw [e]
theorem srtT_up {l : List Tl} (h : l.Nodup) : (srtT l).Pairwise tlt := by
  have tr : ∀ a b c : Tl, tle a b = true → tle b c = true → tle a c = true := by
    intro a b c h1 h2
    unfold tle at *
    rw [decide_eq_true_eq] at *
    omega
  have tt : ∀ a b : Tl, (tle a b || tle b a) = true := by
    intro a b
    unfold tle
    rw [Bool.or_eq_true, decide_eq_true_eq, decide_eq_true_eq]
    omega
  have p := List.pairwise_mergeSort (le := tle) tr tt l
  have nd : (srtT l).Nodup := (List.mergeSort_perm l tle).nodup_iff.mpr h
  refine (p.and nd).imp fun {a b} ⟨h1, h2⟩ => ?_
  unfold tle at h1
  rw [decide_eq_true_eq] at h1
  unfold tlt
  have : ¬ (a.1 = b.1 ∧ a.2 = b.2) := fun e => h2 (Prod.ext e.1 e.2)
  omega
theorem mem_srtT {l : List Tl} {t : Tl} : t ∈ srtT l ↔ t ∈ l := List.mem_mergeSort
/-- two ascending lists with the same tiles are one -/
theorem up_ext : ∀ {l m : List Tl}, l.Pairwise tlt → m.Pairwise tlt → (∀ t, t ∈ l ↔ t ∈ m) → l = m
  | [], [], _, _, _ => rfl
  | [], b :: m, _, _, h => by have := (h b).mpr List.mem_cons_self; cases this
  | a :: l, [], _, _, h => by have := (h a).mp List.mem_cons_self; cases this
  | a :: l, b :: m, hl, hm, h => by
    have e : a = b := by
      rcases List.mem_cons.mp ((h a).mp List.mem_cons_self) with e | e
      · exact e
      · rcases List.mem_cons.mp ((h b).mpr List.mem_cons_self) with e' | e'
        · exact e'.symm
        · exact absurd (tlt_trans (List.rel_of_pairwise_cons hl e') (List.rel_of_pairwise_cons hm e)) (tlt_irrefl a)
    subst e
    congr 1
    refine up_ext (List.Pairwise.of_cons hl) (List.Pairwise.of_cons hm) fun t => ?_
    constructor
    · intro ht
      rcases List.mem_cons.mp ((h t).mp (List.mem_cons_of_mem _ ht)) with e | e
      · subst e
        exact absurd (List.rel_of_pairwise_cons hl ht) (tlt_irrefl _)
      · exact e
    · intro ht
      rcases List.mem_cons.mp ((h t).mpr (List.mem_cons_of_mem _ ht)) with e | e
      · subst e
        exact absurd (List.rel_of_pairwise_cons hm ht) (tlt_irrefl _)
      · exact e
theorem v_ltPr (a b : Tl) : fLt (pr a) (pr b) = some (.fz (.bool (decide (tlt a b)))) := by
  unfold fLt fOrd
  have o : ordD (pr a) (pr b) = true := by
    unfold ordD
    simp [flatD, flatDs, PySem.W.alike, PySem.W.alikeAll, PyData.depth, PyData.depthAll]
  rw [if_pos o, PySem.W.dataLt_ii]
  rfl
end DL
namespace DL
open PySem
/-! ### small things for the specs -/
theorem boolsM {α : Type} {q : α → Bool} : ∀ {l : List α}, boolsD (l.map fun x => PyData.bool (q x)) = some (l.map q)
  | [] => rfl
  | x :: l => by
    rw [List.map_cons, bools1, boolsM]
    rfl
theorem all_mapI {α : Type} {q : α → Bool} {l : List α} : (l.map q).all id = l.all q := by rw [List.all_map]; rfl
theorem any_mapI {α : Type} {q : α → Bool} {l : List α} : (l.map q).any id = l.any q := by rw [List.any_map]; rfl
theorem allT {α : Type} {l : List α} : (l.all fun _ => true) = true := by rw [List.all_eq_true]; intro _ _; rfl
theorem small_nat {n : Nat} (h : n ≤ 1000000) : smallB (n : Int) = true := small_of (by omega) (by omega)
theorem flatMap_mapm {α β γ : Type} (f : β → γ) (g : α → List β) : ∀ l : List α, (l.flatMap fun x => (g x).map f) = (l.flatMap g).map f
  | [] => rfl
  | a :: l => by rw [List.flatMap_cons, List.flatMap_cons, List.map_append, flatMap_mapm]
theorem filterT {α : Type} {l : List α} : (l.filter fun _ => true) = l := by rw [List.filter_eq_self]; intro _ _; rfl
/-- a loop that only returns or goes on, by what it walks -/
theorem loop_find {α : Type} {b : Gx} {g : Sx} {w : List Int} (enc : α → D) (q : α → Bool) (out : α → RV) (P : DEnv → Prop) : ∀ {l : List α} {ρ : DEnv}, (∀ x ∈ l, ∀ ρ, P ρ → ∃ ρ1, b (enc x) ρ = some ρ1 ∧ (q x = true → g ρ1 w = .rt (out x) w) ∧ (q x = false → ∃ ρ2, g ρ1 w = .nx ρ2 w ∧ P ρ2)) → P ρ →
    (∃ ρ', (l.find? q).isNone = true ∧ loopL b g (l.map enc) ρ w = .nx ρ' w ∧ P ρ') ∨ ∃ x, l.find? q = some x ∧ loopL b g (l.map enc) ρ w = .rt (out x) w
  | [], ρ, _, p => .inl ⟨ρ, rfl, rfl, p⟩
  | x :: l, ρ, h, p => by
    obtain ⟨ρ1, h1, h2, h3⟩ := h x List.mem_cons_self ρ p
    rw [List.map_cons, loop_cons h1]
    cases hq : q x with
    | true =>
      refine .inr ⟨x, by rw [List.find?_cons_of_pos hq], ?_⟩
      rw [h2 hq]
      rfl
    | false =>
      obtain ⟨ρ2, h4, p2⟩ := h3 hq
      rw [h4, List.find?_cons_of_neg (by rw [hq]; simp)]
      exact loop_find enc q out P (fun y m => h y (List.mem_cons_of_mem _ m)) p2
end DL
namespace DL
open PySem
/-! ### snug lots -/
def outs (n m : Nat) (l : List Tl) (t : Tl) : List Tl := (nb n m t).filter fun u => !decide (u ∈ l)
def snugB (F : List (List Int)) (n m : Nat) (l : List Tl) : Bool := l.all fun t => decide (((outs n m l t).length : Int) < need F t)
theorem find_all {α : Type} {q : α → Bool} {l : List α} : (l.find? q).isNone = l.all fun x => !q x := by
  induction l with
  | nil => rfl
  | cons a l ih =>
    cases h : q a with
    | true => rw [List.find?_cons_of_pos h, List.all_cons, h]; rfl
    | false => rw [List.find?_cons_of_neg (by rw [h]; simp), List.all_cons, h, ih]; rfl
theorem lot_ok {ts l : List Tl} (h : l.Sublist ts) (u : ts.Pairwise tlt) : l.Nodup ∧ (∀ t ∈ l, t ∈ ts) ∧ l.length ≤ ts.length := ⟨(up_nodup u).sublist h, fun _ m => h.subset m, h.length_le⟩
theorem rng_nat {k : Nat} (h : k ≤ 1000000) : rngOk (k : Int) = true := rng_ok (by omega) (by omega)
theorem toNat_nat {k : Nat} : ((k : Int)).toNat = k := rfl
end DL
namespace DL
open PySem
/-! ### append, freeze, loops that count, rows of numbers -/
section
variable {ρ : DEnv} {w : List Int} {d : D} {ds : List D} {kvs : List (D × D)} {f : Ex} {i : Nat} {sg : Sx}
def oApp (i : Nat) (ρ : DEnv) (ds : List D) (p : RW2) : Out := match p.1 with
  | .bw _ => .err
  | r => if ds.length < sizeLine then .nx (ρ.set i (some (.ow (.list (ds ++ [r.d]))))) p.2 else .err
def appO (i : Nat) (f : Ex) (ρ : DEnv) (o : Option (Option EV)) (w : List Int) : Out := match o with
  | some (some (.ow (.list ds))) => ofR (f ρ w) (oApp i ρ ds)
  | _ => .err
theorem e_app : sApp i f ρ w = appO i f ρ ρ[i]? w := by
  unfold sApp appO
  cases ρ[i]? with
  | none => rfl
  | some o =>
    cases o with
    | none => rfl
    | some x =>
      cases x with
      | ow z => cases z <;> rfl
      | _ => rfl
theorem app1 : appO i f ρ (some (some (.ow (.list ds)))) w = ofR (f ρ w) (oApp i ρ ds) := rfl
theorem o_appf (h : ds.length < sizeLine) : oApp i ρ ds (.fz d, w) = .nx (ρ.set i (some (.ow (.list (ds ++ [d]))))) w := if_pos h
theorem o_appo (h : ds.length < sizeLine) : oApp i ρ ds (.ow d, w) = .nx (ρ.set i (some (.ow (.list (ds ++ [d]))))) w := if_pos h
def frzO (i : Nat) (sg : Sx) (ρ : DEnv) (o : Option (Option EV)) (w : List Int) : Out := match o with
  | some (some (.ow d)) => sg (ρ.set i (some (.fz d))) w
  | _ => sg ρ w
theorem e_frz : sFrz i sg ρ w = frzO i sg ρ ρ[i]? w := by
  unfold sFrz frzO
  cases ρ[i]? with
  | none => rfl
  | some o =>
    cases o with
    | none => rfl
    | some x => cases x <;> rfl
theorem frzo1 : frzO i sg ρ (some (some (.ow d))) w = sg (ρ.set i (some (.fz d))) w := rfl
theorem frzo2 : frzO i sg ρ (some (some (.fz d))) w = sg ρ w := rfl
end
theorem loop_idx {b : Gx} {g : Sx} {P : Nat → DEnv → List Int → Prop} (K : Nat) : ∀ {ds : List D} {k : Nat} {ρ : DEnv} {w : List Int}, k + ds.length ≤ K → (∀ d ∈ ds, ∀ k, k < K → ∀ ρ w, P k ρ w → ∃ ρ1 ρ' w', b d ρ = some ρ1 ∧ g ρ1 w = .nx ρ' w' ∧ P (k + 1) ρ' w') → P k ρ w → ∃ ρ' w', loopL b g ds ρ w = .nx ρ' w' ∧ P (k + ds.length) ρ' w'
  | [], k, ρ, w, _, _, p => ⟨ρ, w, rfl, p⟩
  | d :: ds, k, ρ, w, hK, h, p => by
    rw [List.length_cons] at hK
    obtain ⟨ρ1, ρ2, w2, h1, h2, p2⟩ := h d List.mem_cons_self k (by omega) ρ w p
    obtain ⟨ρ3, w3, h3, p3⟩ := loop_idx K (by omega) (fun d m => h d (List.mem_cons_of_mem _ m)) p2
    refine ⟨ρ3, w3, by rw [loop_cons h1, h2]; exact h3, ?_⟩
    rw [List.length_cons, show k + (ds.length + 1) = k + 1 + ds.length by omega]
    exact p3
/-- numbers from 0 to 5 -/
def N5 (d : D) : Prop := ∃ x : Int, d = .int x ∧ 0 ≤ x ∧ x ≤ 5
theorem row_of : ∀ {zs : List D}, (∀ z ∈ zs, N5 z) → ∃ r : List Int, zs = r.map PyData.int ∧ ∀ x ∈ r, 0 ≤ x ∧ x ≤ 5
  | [], _ => ⟨[], rfl, by simp⟩
  | z :: zs, h => by
    obtain ⟨x, rfl, hx⟩ := h _ List.mem_cons_self
    obtain ⟨r, rfl, hr⟩ := row_of fun z m => h z (List.mem_cons_of_mem _ m)
    exact ⟨x :: r, rfl, fun y m => by rcases List.mem_cons.mp m with rfl | m; exact hx; exact hr y m⟩
theorem at_mem {ds : List D} {r : Int} (h : 0 ≤ r) (h2 : r < ds.length) : ∃ d ∈ ds, L2.atI ds r = some d := by
  have hl : r.toNat < ds.length := by omega
  exact ⟨ds[r.toNat], List.getElem_mem hl, by rw [at_of h]; exact List.getElem?_eq_getElem hl⟩
theorem rngI_next (lo : Int) (n : Nat) : rngI lo (n + 1) = lo :: rngI (lo + 1) n := rfl
end DL
namespace DL
open PySem
theorem bulk_prs : ∀ l : List Tl, PyData.bulkAll (l.map pr) = 3 * l.length
  | [] => by simp [PyData.bulkAll]
  | a :: l => by
    rw [List.map_cons, PyData.bulkAll, bulk_prs l, List.length_cons]
    have : (pr a).bulk = 2 := by simp [PyData.bulk, PyData.bulkAll]
    omega
theorem bulk_lot (l : List Tl) : (lotT l).bulk = 3 * l.length := by unfold PyData.bulk; exact bulk_prs l
theorem head_filter {α : Type} {q : α → Bool} {l : List α} : (∃ x r, l.filter q = x :: r ∧ l.find? q = some x) ∨ (l.filter q = [] ∧ l.find? q = none) := by
  have := List.head?_filter (p := q) (l := l)
  cases e : l.filter q with
  | nil => rw [e] at this; exact .inr ⟨rfl, this.symm⟩
  | cons x r => rw [e] at this; exact .inl ⟨x, r, rfl, this.symm⟩
end DL
namespace Dk31
open PySem PySem.Spec PyProof.Rows L2 DL
def top (i : Nat) : Stmt := PySem.Challenge.pw_damptiles_k31_whole_drier_floors.main.body.getD i (.Pass ⟨0, 0, 0, 0⟩)
/-! is_whole -/
abbrev N_is_whole : List Str := ["value"]
abbrev P_is_whole : List Str := ["value"]
def g_is_whole (_ : List CSem) : Sx := sRet (eAnd (eIsi "int" (eVar 0)) (eNot (eIsi "bool" (eVar 0))))
def S_is_whole : FSem := runB N_is_whole.length false g_is_whole
theorem u_is_whole (Φ : List CSem) (x0 : EV) (w : List Int) : S_is_whole Φ [x0] w = (g_is_whole Φ [some x0] w).fin := run1
/-! is_number -/
abbrev N_is_number : List Str := ["value", "low", "high"]
abbrev P_is_number : List Str := ["value", "low", "high"]
def g_is_number (_ : List CSem) : Sx := sSeq (sIf (tOr' (tNot' (asB (eFn 1 S_is_whole (aCons (eVar 0) (aNil))))) (tAnd' (asB (eOp fIsNot (eVar 1) (eC .none))) (asB (eOp fLt (eVar 0) (eVar 1))))) (sRet (eC (.bool false))) (sNo)) (sRet (eOr (eOp fIs (eVar 2) (eC .none)) (eOp fLe (eVar 0) (eVar 2))))
def S_is_number : FSem := runB N_is_number.length false g_is_number
theorem u_is_number (Φ : List CSem) (x0 x1 x2 : EV) (w : List Int) : S_is_number Φ [x0, x1, x2] w = (g_is_number Φ [some x0, some x1, some x2] w).fin := run1
/-! is_tuple_of -/
abbrev N_is_tuple_of : List Str := ["value", "many"]
abbrev P_is_tuple_of : List Str := ["value", "many"]
def g_is_tuple_of (_ : List CSem) : Sx := sRet (eAnd (eIsi "tuple" (eVar 0)) (eOp fEq (eCall fLen (aCons (eVar 0) (aNil))) (eVar 1)))
def S_is_tuple_of : FSem := runB N_is_tuple_of.length false g_is_tuple_of
theorem u_is_tuple_of (Φ : List CSem) (x0 x1 : EV) (w : List Int) : S_is_tuple_of Φ [x0, x1] w = (g_is_tuple_of Φ [some x0, some x1] w).fin := run1
/-! by_many -/
abbrev N_by_many : List Str := ["lots"]
abbrev P_by_many : List Str := ["lots"]
def g_by_many (_ : List CSem) : Sx := sRet (eSortK (eVar 0))
def S_by_many : FSem := runB N_by_many.length false g_by_many
theorem u_by_many (Φ : List CSem) (x0 : EV) (w : List Int) : S_by_many Φ [x0] w = (g_by_many Φ [some x0] w).fin := run1
/-! every_lot -/
abbrev N_every_lot : List Str := ["things", "found", "thing", "lot"]
abbrev P_every_lot : List Str := ["things"]
def g_every_lot (_ : List CSem) : Sx := sSeq (sAsg (eLst (aCons (eTup (aNil)) (aNil))) (gNm 1)) (sSeq (sFor (iSeq (eVar 0)) (gNm 2) (sAsg (eOp fAdd (eVar 1) (eLc [3] (iSeq (eVar 1)) (gNm 3) (tTrue) (eOp fAdd (eVar 3) (eTup (aCons (eVar 2) (aNil)))))) (gNm 1))) (sRet (eFn 1 S_by_many (aCons (eVar 1) (aNil)))))
def S_every_lot : FSem := runB N_every_lot.length false g_every_lot
theorem u_every_lot (Φ : List CSem) (x0 : EV) (w : List Int) : S_every_lot Φ [x0] w = (g_every_lot Φ [some x0, none, none, none] w).fin := run1
/-! is_floor_form -/
abbrev N_is_floor_form : List Str := ["value", "row", "need"]
abbrev P_is_floor_form : List Str := ["value"]
def g_is_floor_form (_ : List CSem) : Sx := sSeq (sIf (tOr' (tNot' (asB (eIsi "tuple" (eVar 0)))) (tNot' (asB (eChain fLe fLe (eC (.int 1)) (eCall fLen (aCons (eVar 0) (aNil))) (eC (.int 6)))))) (sRet (eC (.bool false))) (sNo)) (sSeq (sIf (tNot' (asB (eCall fAll (aCons (eLc [1] (iSeq (eVar 0)) (gNm 1) (tTrue) (eAnd (eIsi "tuple" (eVar 1)) (eChain fLe fLe (eC (.int 1)) (eCall fLen (aCons (eVar 1) (aNil))) (eC (.int 6))))) (aNil))))) (sRet (eC (.bool false))) (sNo)) (sSeq (sIf (tOr' (tNot' (asB (eCall fAll (aCons (eLc [1] (iSeq (eVar 0)) (gNm 1) (tTrue) (eOp fEq (eCall fLen (aCons (eVar 1) (aNil))) (eCall fLen (aCons (eOp fIxA (eVar 0) (eC (.int 0))) (aNil))))) (aNil))))) (asB (eOp fGt (eOp fMul (eCall fLen (aCons (eVar 0) (aNil))) (eCall fLen (aCons (eOp fIxA (eVar 0) (eC (.int 0))) (aNil)))) (eC (.int 24))))) (sRet (eC (.bool false))) (sNo)) (sRet (eCall fAll (aCons (eLc2 [1, 2] [2] (iSeq (eVar 0)) (gNm 1) (tTrue) (iSeq (eVar 1)) (gNm 2) (tTrue) (eFn 3 S_is_number (aCons (eVar 2) (aCons (eC (.int 0)) (aCons (eC (.int 5)) (aNil)))))) (aNil))))))
def S_is_floor_form : FSem := runB N_is_floor_form.length false g_is_floor_form
theorem u_is_floor_form (Φ : List CSem) (x0 : EV) (w : List Int) : S_is_floor_form Φ [x0] w = (g_is_floor_form Φ [some x0, none, none] w).fin := run1
/-! is_tile_of -/
abbrev N_is_tile_of : List Str := ["high", "wide", "value"]
abbrev P_is_tile_of : List Str := ["high", "wide", "value"]
def g_is_tile_of (_ : List CSem) : Sx := sRet (eAnd (eFn 2 S_is_tuple_of (aCons (eVar 2) (aCons (eC (.int 2)) (aNil)))) (eAnd (eFn 3 S_is_number (aCons (eOp fIxA (eVar 2) (eC (.int 0))) (aCons (eC (.int 0)) (aCons (eOp fSub (eVar 0) (eC (.int 1))) (aNil))))) (eFn 3 S_is_number (aCons (eOp fIxA (eVar 2) (eC (.int 1))) (aCons (eC (.int 0)) (aCons (eOp fSub (eVar 1) (eC (.int 1))) (aNil)))))))
def S_is_tile_of : FSem := runB N_is_tile_of.length false g_is_tile_of
theorem u_is_tile_of (Φ : List CSem) (x0 x1 x2 : EV) (w : List Int) : S_is_tile_of Φ [x0, x1, x2] w = (g_is_tile_of Φ [some x0, some x1, some x2] w).fin := run1
/-! is_tile -/
abbrev N_is_tile : List Str := ["floor", "value"]
abbrev P_is_tile : List Str := ["floor", "value"]
def g_is_tile (_ : List CSem) : Sx := sRet (eFn 3 S_is_tile_of (aCons (eCall fLen (aCons (eVar 0) (aNil))) (aCons (eCall fLen (aCons (eOp fIxA (eVar 0) (eC (.int 0))) (aNil))) (aCons (eVar 1) (aNil)))))
def S_is_tile : FSem := runB N_is_tile.length false g_is_tile
theorem u_is_tile (Φ : List CSem) (x0 x1 : EV) (w : List Int) : S_is_tile Φ [x0, x1] w = (g_is_tile Φ [some x0, some x1] w).fin := run1
/-! size_of -/
abbrev N_size_of : List Str := ["floor"]
abbrev P_size_of : List Str := ["floor"]
def g_size_of (_ : List CSem) : Sx := sRet (eTup (aCons (eCall fLen (aCons (eVar 0) (aNil))) (aCons (eCall fLen (aCons (eOp fIxA (eVar 0) (eC (.int 0))) (aNil))) (aNil))))
def S_size_of : FSem := runB N_size_of.length false g_size_of
theorem u_size_of (Φ : List CSem) (x0 : EV) (w : List Int) : S_size_of Φ [x0] w = (g_size_of Φ [some x0] w).fin := run1
/-! tiles_of -/
abbrev N_tiles_of : List Str := ["floor", "row", "place"]
abbrev P_tiles_of : List Str := ["floor"]
def g_tiles_of (_ : List CSem) : Sx := sRet (eCall fTuple (aCons (eLc2 [1, 2] [2] (iRg1 (aCons (eCall fLen (aCons (eVar 0) (aNil))) (aNil))) (gNm 1) (tTrue) (iRg1 (aCons (eCall fLen (aCons (eOp fIxA (eVar 0) (eC (.int 0))) (aNil))) (aNil))) (gNm 2) (tTrue) (eTup (aCons (eVar 1) (aCons (eVar 2) (aNil))))) (aNil)))
def S_tiles_of : FSem := runB N_tiles_of.length false g_tiles_of
theorem u_tiles_of (Φ : List CSem) (x0 : EV) (w : List Int) : S_tiles_of Φ [x0] w = (g_tiles_of Φ [some x0, none, none] w).fin := run1
/-! need_in -/
abbrev N_need_in : List Str := ["floor", "tile"]
abbrev P_need_in : List Str := ["floor", "tile"]
def g_need_in (_ : List CSem) : Sx := sRet (eOp fIxA (eOp fIxA (eVar 0) (eOp fIxA (eVar 1) (eC (.int 0)))) (eOp fIxA (eVar 1) (eC (.int 1))))
def S_need_in : FSem := runB N_need_in.length false g_need_in
theorem u_need_in (Φ : List CSem) (x0 x1 : EV) (w : List Int) : S_need_in Φ [x0, x1] w = (g_need_in Φ [some x0, some x1] w).fin := run1
/-! beside_of -/
abbrev N_beside_of : List Str := ["floor", "tile", "row", "place", "spots", "spot"]
abbrev P_beside_of : List Str := ["floor", "tile"]
def g_beside_of (_ : List CSem) : Sx := sSeq (sAsg (eVar 1) (gTu 2 (gCn (gNm 2) (gCn (gNm 3) (gNl))))) (sSeq (sAsg (eLst (aCons (eTup (aCons (eOp fSub (eVar 2) (eC (.int 1))) (aCons (eVar 3) (aNil)))) (aCons (eTup (aCons (eVar 2) (aCons (eOp fSub (eVar 3) (eC (.int 1))) (aNil)))) (aCons (eTup (aCons (eVar 2) (aCons (eOp fAdd (eVar 3) (eC (.int 1))) (aNil)))) (aCons (eTup (aCons (eOp fAdd (eVar 2) (eC (.int 1))) (aCons (eVar 3) (aNil)))) (aNil)))))) (gNm 4)) (sRet (eLc [5] (iSeq (eVar 4)) (gNm 5) (asB (eFn 2 S_is_tile (aCons (eVar 0) (aCons (eVar 5) (aNil))))) (eVar 5))))
def S_beside_of : FSem := runB N_beside_of.length false g_beside_of
theorem u_beside_of (Φ : List CSem) (x0 x1 : EV) (w : List Int) : S_beside_of Φ [x0, x1] w = (g_beside_of Φ [some x0, some x1, none, none, none, none] w).fin := run1
/-! web_of -/
abbrev N_web_of : List Str := ["floor", "tile"]
abbrev P_web_of : List Str := ["floor"]
def g_web_of (_ : List CSem) : Sx := sRet (eDc [1] (iSeq (eFn 1 S_tiles_of (aCons (eVar 0) (aNil)))) (gNm 1) (tTrue) (eVar 1) (eTup (aCons (eFn 2 S_need_in (aCons (eVar 0) (aCons (eVar 1) (aNil)))) (aCons (eFn 2 S_beside_of (aCons (eVar 0) (aCons (eVar 1) (aNil)))) (aNil)))))
def S_web_of : FSem := runB N_web_of.length false g_web_of
theorem u_web_of (Φ : List CSem) (x0 : EV) (w : List Int) : S_web_of Φ [x0] w = (g_web_of Φ [some x0, none] w).fin := run1
/-! check_floor -/
abbrev N_check_floor : List Str := ["value"]
abbrev P_check_floor : List Str := ["value"]
def g_check_floor (_ : List CSem) : Sx := sIf (tNot' (asB (eFn 1 S_is_floor_form (aCons (eVar 0) (aNil))))) (sBad) (sNo)
def S_check_floor : FSem := runB N_check_floor.length false g_check_floor
theorem u_check_floor (Φ : List CSem) (x0 : EV) (w : List Int) : S_check_floor Φ [x0] w = (g_check_floor Φ [some x0] w).fin := run1
/-! check_few -/
abbrev N_check_few : List Str := ["floor", "many"]
abbrev P_check_few : List Str := ["floor"]
def g_check_few (_ : List CSem) : Sx := sSeq (sAsg (eOp fMul (eCall fLen (aCons (eVar 0) (aNil))) (eCall fLen (aCons (eOp fIxA (eVar 0) (eC (.int 0))) (aNil)))) (gNm 1)) (sIf (asB (eOp fGt (eVar 1) (eC (.int 12)))) (sBad) (sNo))
def S_check_few : FSem := runB N_check_few.length false g_check_few
theorem u_check_few (Φ : List CSem) (x0 : EV) (w : List Int) : S_check_few Φ [x0] w = (g_check_few Φ [some x0, none] w).fin := run1
/-! check_like -/
abbrev N_check_like : List Str := ["floor", "floor2"]
abbrev P_check_like : List Str := ["floor", "floor2"]
def g_check_like (_ : List CSem) : Sx := sIf (asB (eOp fNe (eFn 1 S_size_of (aCons (eVar 0) (aNil))) (eFn 1 S_size_of (aCons (eVar 1) (aNil))))) (sBad) (sNo)
def S_check_like : FSem := runB N_check_like.length false g_check_like
theorem u_check_like (Φ : List CSem) (x0 x1 : EV) (w : List Int) : S_check_like Φ [x0, x1] w = (g_check_like Φ [some x0, some x1] w).fin := run1
/-! check_two -/
abbrev N_check_two : List Str := ["floor", "floor2"]
abbrev P_check_two : List Str := ["floor", "floor2"]
def g_check_two (_ : List CSem) : Sx := sSeq (sExpr (eFn 1 S_check_floor (aCons (eVar 0) (aNil)))) (sSeq (sExpr (eFn 1 S_check_floor (aCons (eVar 1) (aNil)))) (sExpr (eFn 2 S_check_like (aCons (eVar 0) (aCons (eVar 1) (aNil))))))
def S_check_two : FSem := runB N_check_two.length false g_check_two
theorem u_check_two (Φ : List CSem) (x0 x1 : EV) (w : List Int) : S_check_two Φ [x0, x1] w = (g_check_two Φ [some x0, some x1] w).fin := run1
/-! lots_of -/
abbrev N_lots_of : List Str := ["floor"]
abbrev P_lots_of : List Str := ["floor"]
def g_lots_of (_ : List CSem) : Sx := sRet (eFn 1 S_every_lot (aCons (eFn 1 S_tiles_of (aCons (eVar 0) (aNil))) (aNil)))
def S_lots_of : FSem := runB N_lots_of.length false g_lots_of
theorem u_lots_of (Φ : List CSem) (x0 : EV) (w : List Int) : S_lots_of Φ [x0] w = (g_lots_of Φ [some x0] w).fin := run1
/-! is_snug_by -/
abbrev N_is_snug_by : List Str := ["web", "lot", "known", "tile", "need", "beside", "other"]
abbrev P_is_snug_by : List Str := ["web", "lot"]
def g_is_snug_by (_ : List CSem) : Sx := sSeq (sAsg (eDc [3] (iSeq (eVar 1)) (gNm 3) (tTrue) (eVar 3) (eC (.bool true))) (gNm 2)) (sSeq (sFor (iSeq (eVar 1)) (gNm 3) (sSeq (sAsg (eOp fIxA (eVar 0) (eVar 3)) (gTu 2 (gCn (gNm 4) (gCn (gNm 5) (gNl))))) (sIf (asB (eOp fGe (eCall fLen (aCons (eLc [6] (iSeq (eVar 5)) (gNm 6) (asB (eOp fNotInA (eVar 6) (eVar 2))) (eC (.int 1))) (aNil))) (eVar 4))) (sRet (eC (.bool false))) (sNo)))) (sRet (eC (.bool true))))
def S_is_snug_by : FSem := runB N_is_snug_by.length false g_is_snug_by
theorem u_is_snug_by (Φ : List CSem) (x0 x1 : EV) (w : List Int) : S_is_snug_by Φ [x0, x1] w = (g_is_snug_by Φ [some x0, some x1, none, none, none, none, none] w).fin := run1
/-! check_few_two -/
abbrev N_check_few_two : List Str := ["floor", "floor2"]
abbrev P_check_few_two : List Str := ["floor", "floor2"]
def g_check_few_two (_ : List CSem) : Sx := sSeq (sExpr (eFn 2 S_check_two (aCons (eVar 0) (aCons (eVar 1) (aNil))))) (sExpr (eFn 1 S_check_few (aCons (eVar 0) (aNil))))
def S_check_few_two : FSem := runB N_check_few_two.length false g_check_few_two
theorem u_check_few_two (Φ : List CSem) (x0 x1 : EV) (w : List Int) : S_check_few_two Φ [x0, x1] w = (g_check_few_two Φ [some x0, some x1] w).fin := run1
/-! first_telling -/
abbrev N_first_telling : List Str := ["floor", "floor2", "web", "web2", "lot"]
abbrev P_first_telling : List Str := ["floor", "floor2"]
def g_first_telling (_ : List CSem) : Sx := sSeq (sPar2 2 3 (aCons (eFn 1 S_web_of (aCons (eVar 0) (aNil))) (aCons (eFn 1 S_web_of (aCons (eVar 1) (aNil))) (aNil)))) (sSeq (sFor (iSeq (eFn 1 S_lots_of (aCons (eVar 0) (aNil)))) (gNm 4) (sIf (tAnd' (asB (eOp fNe (eVar 4) (eTup (aNil)))) (tAnd' (asB (eFn 2 S_is_snug_by (aCons (eVar 3) (aCons (eVar 4) (aNil))))) (tNot' (asB (eFn 2 S_is_snug_by (aCons (eVar 2) (aCons (eVar 4) (aNil)))))))) (sRet (eVar 4)) (sNo))) (sRet (eC .none)))
def S_first_telling : FSem := runB N_first_telling.length false g_first_telling
theorem u_first_telling (Φ : List CSem) (x0 x1 : EV) (w : List Int) : S_first_telling Φ [x0, x1] w = (g_first_telling Φ [some x0, some x1, none, none, none] w).fin := run1
/-! is_drier -/
abbrev N_is_drier : List Str := ["floor", "floor2"]
abbrev P_is_drier : List Str := ["floor", "floor2"]
def g_is_drier (_ : List CSem) : Sx := sSeq (sExpr (eFn 2 S_check_few_two (aCons (eVar 0) (aCons (eVar 1) (aNil))))) (sRet (eOp fIs (eFn 2 S_first_telling (aCons (eVar 0) (aCons (eVar 1) (aNil)))) (eC .none)))
def S_is_drier : FSem := runB N_is_drier.length false g_is_drier
theorem u_is_drier (Φ : List CSem) (x0 x1 : EV) (w : List Int) : S_is_drier Φ [x0, x1] w = (g_is_drier Φ [some x0, some x1] w).fin := run1
/-! telling_lot -/
abbrev N_telling_lot : List Str := ["floor", "floor2"]
abbrev P_telling_lot : List Str := ["floor", "floor2"]
def g_telling_lot (_ : List CSem) : Sx := sSeq (sExpr (eFn 2 S_check_few_two (aCons (eVar 0) (aCons (eVar 1) (aNil))))) (sRet (eFn 2 S_first_telling (aCons (eVar 0) (aCons (eVar 1) (aNil)))))
def S_telling_lot : FSem := runB N_telling_lot.length false g_telling_lot
theorem u_telling_lot (Φ : List CSem) (x0 x1 : EV) (w : List Int) : S_telling_lot Φ [x0, x1] w = (g_telling_lot Φ [some x0, some x1] w).fin := run1
/-! _law_pail -/
abbrev N__law_pail : List Str := ["script", "turn", "mixed", "cell", "own"]
abbrev P__law_pail : List Str := ["script", "turn"]
def g__law_pail (_ : List CSem) : Sx := sSeq (sAsg (eOp fAdd (eC (.int 55001)) (eOp fMul (eC (.int 9203)) (eVar 1))) (gNm 2)) (sSeq (sFor (iSeq (eSl (eVar 0) (bNo) (bSo (eC (.int 12))))) (gNm 3) (sAsg (eOp fMod (eCall fInt (aCons (eOp fAdd (eOp fAdd (eOp fMul (eVar 2) (eC (.int 50021))) (eOp fMul (eOp fMod (eCall fInt (aCons (eVar 3) (aNil))) (eC (.int 2147483489))) (eC (.int 13)))) (eC (.int 7))) (aNil))) (eC (.int 2147483489))) (gNm 2))) (sSeq (sAsg (eIf (asB (eOp fLt (eVar 1) (eCall fLen (aCons (eVar 0) (aNil))))) (eCall fInt (aCons (eOp fIxA (eVar 0) (eVar 1)) (aNil))) (eC (.int 0))) (gNm 4)) (sSeq (sAsg (eOp fMod (eCall fInt (aCons (eOp fAdd (eOp fAdd (eOp fMul (eVar 2) (eC (.int 89))) (eOp fMul (eOp fMod (eVar 4) (eC (.int 2147483489))) (eC (.int 60017)))) (eC (.int 11))) (aNil))) (eC (.int 2147483489))) (gNm 2)) (sRet (eLst (aCons (eIf (tOr' (asB (eOp fLt (eVar 4) (eC (.int 0)))) (asB (eOp fGe (eVar 4) (eOp fPow (eC (.int 10)) (eC (.int 15)))))) (eCall fAbs (aCons (eVar 4) (aNil))) (eC (.int 0))) (aCons (eVar 2) (aCons (eC (.int 0)) (aNil)))))))))
def S__law_pail : FSem := runB N__law_pail.length false g__law_pail
theorem u__law_pail (Φ : List CSem) (x0 x1 : EV) (w : List Int) : S__law_pail Φ [x0, x1] w = (g__law_pail Φ [some x0, some x1, none, none, none] w).fin := run1
/-! _law_deal -/
abbrev N__law_deal : List Str := ["pail", "top", "figure", "mixed"]
abbrev P__law_deal : List Str := ["pail", "top"]
def g__law_deal (_ : List CSem) : Sx := sSeq (sIf (asB (eOp fGt (eStG 0) (eC (.int 0)))) (sSeq (sStT 0 2 (eCall fDivmod (aCons (eStG 0) (aCons (eVar 1) (aNil))))) (sRet (eVar 2))) (sNo)) (sSeq (sStS 2 (eOp fAdd (eStG 2) (eC (.int 1)))) (sSeq (sAsg (eOp fMod (eCall fInt (aCons (eOp fAdd (eOp fMul (eStG 1) (eC (.int 25523))) (eOp fMul (eC (.int 10007)) (eStG 2))) (aNil))) (eC (.int 2147483489))) (gNm 3)) (sSeq (sStS 1 (eOp fMod (eCall fInt (aCons (eOp fAdd (eOp fMul (eVar 3) (eOp fAdd (eOp fMod (eCall fInt (aCons (eVar 3) (aNil))) (eC (.int 5077))) (eC (.int 30011)))) (eOp fMul (eC (.int 31)) (eStG 2))) (aNil))) (eC (.int 2147483489)))) (sRet (eOp fMod (eCall fInt (aCons (eOp fDiv (eStG 1) (eC (.int 409))) (aNil))) (eVar 1))))))
def S__law_deal : FSem := runB N__law_deal.length true g__law_deal
theorem u__law_deal (Φ : List CSem) (x0 : EV) (w : List Int) : S__law_deal Φ [x0] w = (g__law_deal Φ [none, some x0, none, none] w).fin := run1
/-! _law_any -/
abbrev N__law_any : List Str := ["pail", "some"]
abbrev P__law_any : List Str := ["pail", "some"]
def g__law_any (_ : List CSem) : Sx := sRet (eOp fIxA (eVar 1) (eFnS 2 S__law_deal (aCons (eCall fLen (aCons (eVar 1) (aNil))) (aNil))))
def S__law_any : FSem := runB N__law_any.length true g__law_any
theorem u__law_any (Φ : List CSem) (x0 : EV) (w : List Int) : S__law_any Φ [x0] w = (g__law_any Φ [none, some x0] w).fin := run1
/-! _law_floor -/
abbrev N__law_floor : List Str := ["pail", "high", "wide", "many", "rows", "places", "turn", "most", "found", "k", "j"]
abbrev P__law_floor : List Str := ["pail", "high", "wide", "many"]
def g__law_floor (_ : List CSem) : Sx := sSeq (sPar2 4 5 (aCons (eOp fAdd (eC (.int 1)) (eFnS 2 S__law_deal (aCons (eVar 1) (aNil)))) (aCons (eOp fAdd (eC (.int 1)) (eFnS 2 S__law_deal (aCons (eVar 2) (aNil)))) (aNil)))) (sSeq (sFor (iRg1 (aCons (eC (.int 6)) (aNil))) (gNm 6) (sIf (asB (eOp fGt (eOp fMul (eVar 4) (eVar 5)) (eVar 3))) (sPar2 4 5 (aCons (eCall fMax (aCons (eC (.int 1)) (aCons (eOp fSub (eVar 4) (eC (.int 1))) (aNil)))) (aCons (eCall fMax (aCons (eC (.int 1)) (aCons (eOp fSub (eVar 5) (eC (.int 1))) (aNil)))) (aNil)))) (sNo))) (sSeq (sAsg (eFnS 2 S__law_any (aCons (eLst (aCons (eC (.int 2)) (aCons (eC (.int 3)) (aCons (eC (.int 4)) (aCons (eC (.int 6)) (aNil)))))) (aNil))) (gNm 7)) (sSeq (sSet 8 (eLst (aNil))) (sSeq (sFor (iRg1 (aCons (eVar 4) (aNil))) (gNm 9) (sApp 8 (eCall fTuple (aCons (eLc [10] (iRg1 (aCons (eVar 5) (aNil))) (gNm 10) (tTrue) (eCall fMin (aCons (eC (.int 5)) (aCons (eFnS 2 S__law_deal (aCons (eVar 7) (aNil))) (aNil))))) (aNil))))) (sFrz 8 (sRet (eCall fTuple (aCons (eVar 8) (aNil)))))))))
def S__law_floor : FSem := runB N__law_floor.length true g__law_floor
theorem u__law_floor (Φ : List CSem) (x0 x1 x2 : EV) (w : List Int) : S__law_floor Φ [x0, x1, x2] w = (g__law_floor Φ [none, some x0, some x1, some x2, none, none, none, none, none, none, none] w).fin := run1
/-! _law_tiles -/
abbrev N__law_tiles : List Str := ["floor", "found", "k", "j"]
abbrev P__law_tiles : List Str := ["floor"]
def g__law_tiles (_ : List CSem) : Sx := sSeq (sAsg (eLst (aNil)) (gNm 1)) (sSeq (sFor (iRg1 (aCons (eCall fLen (aCons (eVar 0) (aNil))) (aNil))) (gNm 2) (sAsg (eOp fAdd (eVar 1) (eLc [3] (iRg1 (aCons (eCall fLen (aCons (eOp fIxA (eVar 0) (eVar 2)) (aNil))) (aNil))) (gNm 3) (tTrue) (eTup (aCons (eVar 2) (aCons (eVar 3) (aNil)))))) (gNm 1))) (sRet (eVar 1)))
def S__law_tiles : FSem := runB N__law_tiles.length false g__law_tiles
theorem u__law_tiles (Φ : List CSem) (x0 : EV) (w : List Int) : S__law_tiles Φ [x0] w = (g__law_tiles Φ [some x0, none, none, none] w).fin := run1
/-! _law_beside -/
abbrev N__law_beside : List Str := ["floor", "tile", "k", "j", "some", "a", "b"]
abbrev P__law_beside : List Str := ["floor", "tile"]
def g__law_beside (_ : List CSem) : Sx := sSeq (sAsg (eVar 1) (gTu 2 (gCn (gNm 2) (gCn (gNm 3) (gNl))))) (sSeq (sAsg (eLst (aCons (eTup (aCons (eOp fSub (eVar 2) (eC (.int 1))) (aCons (eVar 3) (aNil)))) (aCons (eTup (aCons (eVar 2) (aCons (eOp fSub (eVar 3) (eC (.int 1))) (aNil)))) (aCons (eTup (aCons (eVar 2) (aCons (eOp fAdd (eVar 3) (eC (.int 1))) (aNil)))) (aCons (eTup (aCons (eOp fAdd (eVar 2) (eC (.int 1))) (aCons (eVar 3) (aNil)))) (aNil)))))) (gNm 4)) (sRet (eLc [5, 6] (iSeq (eVar 4)) (gTu 2 (gCn (gNm 5) (gCn (gNm 6) (gNl)))) (tAnd' (asB (eChain fLe fLt (eC (.int 0)) (eVar 5) (eCall fLen (aCons (eVar 0) (aNil))))) (asB (eChain fLe fLt (eC (.int 0)) (eVar 6) (eCall fLen (aCons (eOp fIxA (eVar 0) (eC (.int 0))) (aNil)))))) (eTup (aCons (eVar 5) (aCons (eVar 6) (aNil)))))))
def S__law_beside : FSem := runB N__law_beside.length false g__law_beside
theorem u__law_beside (Φ : List CSem) (x0 x1 : EV) (w : List Int) : S__law_beside Φ [x0, x1] w = (g__law_beside Φ [some x0, some x1, none, none, none, none, none] w).fin := run1
/-! _law_all_lots -/
abbrev N__law_all_lots : List Str := ["tiles", "found", "tile", "lot"]
abbrev P__law_all_lots : List Str := ["tiles"]
def g__law_all_lots (_ : List CSem) : Sx := sSeq (sAsg (eLst (aCons (eTup (aNil)) (aNil))) (gNm 1)) (sSeq (sFor (iSeq (eVar 0)) (gNm 2) (sAsg (eOp fAdd (eVar 1) (eLc [3] (iSeq (eVar 1)) (gNm 3) (tTrue) (eOp fAdd (eVar 3) (eTup (aCons (eVar 2) (aNil)))))) (gNm 1))) (sRet (eSortK (eVar 1))))
def S__law_all_lots : FSem := runB N__law_all_lots.length false g__law_all_lots
theorem u__law_all_lots (Φ : List CSem) (x0 : EV) (w : List Int) : S__law_all_lots Φ [x0] w = (g__law_all_lots Φ [some x0, none, none, none] w).fin := run1
/-! _law_is_snug -/
abbrev N__law_is_snug : List Str := ["floor", "lot", "k", "j", "two"]
abbrev P__law_is_snug : List Str := ["floor", "lot"]
def g__law_is_snug (_ : List CSem) : Sx := sSeq (sFor (iSeq (eVar 1)) (gTu 2 (gCn (gNm 2) (gCn (gNm 3) (gNl)))) (sIf (asB (eOp fGe (eCall fLen (aCons (eLc [4] (iSeq (eFn 2 S__law_beside (aCons (eVar 0) (aCons (eTup (aCons (eVar 2) (aCons (eVar 3) (aNil)))) (aNil))))) (gNm 4) (asB (eOp fNotInA (eVar 4) (eVar 1))) (eVar 4)) (aNil))) (eOp fIxA (eOp fIxA (eVar 0) (eVar 2)) (eVar 3)))) (sRet (eC (.bool false))) (sNo))) (sRet (eOp fNe (eVar 1) (eTup (aNil))))
def S__law_is_snug : FSem := runB N__law_is_snug.length false g__law_is_snug
theorem u__law_is_snug (Φ : List CSem) (x0 x1 : EV) (w : List Int) : S__law_is_snug Φ [x0, x1] w = (g__law_is_snug Φ [some x0, some x1, none, none, none] w).fin := run1
/-! _law_snugs -/
abbrev N__law_snugs : List Str := ["floor", "lot"]
abbrev P__law_snugs : List Str := ["floor"]
def g__law_snugs (_ : List CSem) : Sx := sRet (eLc [1] (iSeq (eFn 1 S__law_all_lots (aCons (eFn 1 S__law_tiles (aCons (eVar 0) (aNil))) (aNil)))) (gNm 1) (asB (eFn 2 S__law_is_snug (aCons (eVar 0) (aCons (eVar 1) (aNil))))) (eVar 1))
def S__law_snugs : FSem := runB N__law_snugs.length false g__law_snugs
theorem u__law_snugs (Φ : List CSem) (x0 : EV) (w : List Int) : S__law_snugs Φ [x0] w = (g__law_snugs Φ [some x0, none] w).fin := run1
/-! _law_near -/
abbrev N__law_near : List Str := ["pail", "floor", "found", "row", "line", "need", "step"]
abbrev P__law_near : List Str := ["pail", "floor"]
def g__law_near (_ : List CSem) : Sx := sSeq (sSet 2 (eLst (aNil))) (sSeq (sFor (iSeq (eVar 1)) (gNm 3) (sSeq (sSet 4 (eLst (aNil))) (sSeq (sFor (iSeq (eVar 3)) (gNm 5) (sSeq (sAsg (eFnS 2 S__law_any (aCons (eLst (aCons (eC (.int 0)) (aCons (eC (.int 0)) (aCons (eC (.int 0)) (aCons (eC (.int 1)) (aCons (eUn fNeg (eC (.int 1))) (aCons (eOp fSub (eFnS 2 S__law_deal (aCons (eC (.int 6)) (aNil))) (eVar 5)) (aNil)))))))) (aNil))) (gNm 6)) (sApp 4 (eCall fMin (aCons (eC (.int 5)) (aCons (eCall fMax (aCons (eC (.int 0)) (aCons (eOp fAdd (eVar 5) (eVar 6)) (aNil)))) (aNil))))))) (sFrz 4 (sApp 2 (eCall fTuple (aCons (eVar 4) (aNil)))))))) (sFrz 2 (sRet (eCall fTuple (aCons (eVar 2) (aNil))))))
def S__law_near : FSem := runB N__law_near.length true g__law_near
theorem u__law_near (Φ : List CSem) (x0 : EV) (w : List Int) : S__law_near Φ [x0] w = (g__law_near Φ [none, some x0, none, none, none, none, none] w).fin := run1
/-! _law_right -/
abbrev N__law_right : List Str := ["pail", "lap", "floor", "other", "bad", "due", "told", "more", "lot"]
abbrev P__law_right : List Str := ["pail"]
def g__law_right (_ : List CSem) : Sx := sSeq (sFor (iRg1 (aCons (eC (.int 8)) (aNil))) (gNm 1) (sSeq (sAsg (eFnS 4 S__law_floor (aCons (eC (.int 3)) (aCons (eC (.int 3)) (aCons (eC (.int 9)) (aNil))))) (gNm 2)) (sSeq (sAsg (eFnS 2 S__law_near (aCons (eVar 2) (aNil))) (gNm 3)) (sSeq (sAsg (eLc [8] (iSeq (eFn 1 S__law_snugs (aCons (eVar 3) (aNil)))) (gNm 8) (tNot' (asB (eFn 2 S__law_is_snug (aCons (eVar 2) (aCons (eVar 8) (aNil)))))) (eVar 8)) (gNm 4)) (sSeq (sAsg (eLst (aCons (eOp fEq (eVar 4) (eLst (aNil))) (aCons (eIf (asB (eOp fNe (eVar 4) (eLst (aNil)))) (eOp fIxA (eVar 4) (eC (.int 0))) (eC .none)) (aNil)))) (gNm 5)) (sSeq (sAsg (eLst (aCons (eFn 2 S_is_drier (aCons (eVar 2) (aCons (eVar 3) (aNil)))) (aCons (eFn 2 S_telling_lot (aCons (eVar 2) (aCons (eVar 3) (aNil)))) (aNil)))) (gNm 6)) (sSeq (sAsg (eLst (aCons (eFnK 2 2 [1, 0] S_is_drier (aCons (eVar 3) (aCons (eVar 2) (aNil)))) (aCons (eFnK 2 2 [1, 0] S_telling_lot (aCons (eVar 3) (aCons (eVar 2) (aNil)))) (aNil)))) (gNm 7)) (sIf (asB (eOp fNe (eCall fRepr (aCons (eLst (aCons (eVar 6) (aCons (eVar 7) (aNil)))) (aNil))) (eCall fRepr (aCons (eLst (aCons (eVar 5) (aCons (eVar 5) (aNil)))) (aNil))))) (sRet (eC (.bool false))) (sNo))))))))) (sRet (eC (.bool true)))
def S__law_right : FSem := runB N__law_right.length true g__law_right
theorem u__law_right (Φ : List CSem) (w : List Int) : S__law_right Φ [] w = (g__law_right Φ [none, none, none, none, none, none, none, none, none] w).fin := run1
/-! law -/
abbrev N_law : List Str := ["script", "turn"]
abbrev P_law : List Str := ["script"]
def g_law (_ : List CSem) : Sx := sRet (eCall fAll (aCons (eLc [1] (iRg1 (aCons (eCall fMax (aCons (eC (.int 2)) (aCons (eCall fMin (aCons (eCall fLen (aCons (eVar 0) (aNil))) (aCons (eC (.int 3)) (aNil)))) (aNil)))) (aNil))) (gNm 1) (tTrue) (eFnF S__law_right (aCons (eFn 2 S__law_pail (aCons (eVar 0) (aCons (eVar 1) (aNil)))) (aNil)))) (aNil)))
def S_law : FSem := runB N_law.length false g_law
theorem u_law (Φ : List CSem) (x0 : EV) (w : List Int) : S_law Φ [x0] w = (g_law Φ [some x0, none] w).fin := run1
end Dk31
namespace Dk31
open PySem DL
theorem p_whole (i : Int) (w : List Int) : S_is_whole [] [.fz (.int i)] w = .ok (.fz (.bool true), w) := by rfl
theorem p_number (i a b : Int) (w : List Int) : S_is_number [] [.fz (.int i), .fz (.int a), .fz (.int b)] w = .ok (.fz (.bool (decide (a ≤ i ∧ i ≤ b))), w) := by
  rw [u_is_number]
  unfold g_is_number
  by_cases h : i < a
  · have e : ¬ (a ≤ i ∧ i ≤ b) := by omega
    simp only [k_op1, k_op2, k_un, k_call, k_b, k_and, k_or, k_not, k_eand, k_eor, k_enot, k_if, k_c1, k_c2, k_c3, k_cons1, k_cons2, k_tup, k_lst, k_fn, k_fnS, k_fnK, k_isi, k_sl1, k_sl2, k_sl3, k_i, o_sx, o_ret, o_if, o_set, o_asg, o_par2, o_par3, o_stS, o_stT, o_for, k_seq, k_rg1, k_rg2, e_rg1, e_rg2, rg1_1, rg2_1, k_lc, k_lt, k_le, k_lc2, k_fnF, e_fnF, run1, e_seq, seq_nx, seq_rt, seq_ct, seq_bk, fin_nx, fin_rt, given_fz, given_ow, given_bw, e_var, e_op, e_un, e_call, e_c, lift1, e_asB, toB1, e_tand, e_tor, e_tnot, e_and, e_or, e_not, e_if, e_chain, chn1, e_nil, e_cons, e_tup, e_lst, e_fn, e_fnS, e_fnK, e_isi, isiR1, outR1, outS1, e_stG, e_sl, b_no, b_so, toI1, e_no, e_sx, e_ret, e_retN, e_sif, put_fz, put_ow, nxO1, e_set, asg_fz, asg_ow, e_asg, g_nm, g_nl, g_cn, obind1, g_tuT, g_tuL, e_par2, e_par3, stO1, e_stS, e_stT, bind1, ofR1, d_fz, d_ow, d_bw, frz_fz, frz_ow, frz_bw, nb_nil, nb_fz, nb_ow, nb_bw, v_add, v_sub, v_neg, v_lt, v_gt, v_le, v_ge, v_is, v_isNot, v_eqS, v_neS, v_eq, v_ne, v_eqB, v_neB, v_ixT, v_ixL, at0, at1, at2, at3, at4, at5, map1, v_lenL, v_lenT, v_abs, v_int, v_intB, v_max2, v_min2, v_max3, v_min3, v_tupL, v_tupT, v_lstL, v_lstT, k_int_none, k_int_bool, k_int_int, k_int_str, k_int_list, k_int_tuple, k_bool_none, k_bool_bool, k_bool_int, k_bool_str, k_bool_list, k_bool_tuple, k_str_none, k_str_bool, k_str_int, k_str_str, k_str_list, k_str_tuple, k_list_none, k_list_bool, k_list_int, k_list_str, k_list_list, k_list_tuple, k_tuple_none, k_tuple_bool, k_tuple_int, k_tuple_str, k_tuple_list, k_tuple_tuple, k_dict_none, k_dict_bool, k_dict_int, k_dict_str, k_dict_list, k_dict_tuple, Int.cast_ofNat_Int, Nat.reduceAdd, Nat.reduceLeDiff, e_lc, e_iseq, seqI_fl, seqI_ft, seqI_ol, seqI_ot, lc_step, lc_nil, lcS1, lcN1, val_fz, val_ow, t_true, wipe0, wipe1, mkL1, noX1, loop_step, loop_nil, loopS1, loop_nx, loop_ct, loop_bk, loop_rt, loop_exc, e_for, v_allD, v_anyD, bools_map, ints_map, bools0, bools1, ints0, ints1, size_eq, decide_true, decide_false, true_or, or_true, eq_self, and_true, true_and, List.all_cons, List.all_nil, List.any_cons, List.any_nil, id_eq, isN, List.map_cons, List.map_nil, List.length_cons, List.length_nil, List.getElem?_cons_zero, List.getElem?_cons_succ, List.set_cons_zero, List.set_cons_succ, decide_eq_true_eq, if_true, Bool.or_true, Bool.true_or, Bool.and_true, Bool.true_and, Bool.false_eq_true, if_false, Bool.not_true, Bool.not_false, Bool.or_false, Bool.false_or, Bool.and_false, Bool.false_and, BEq.rfl, e_sortK, k_sortK, e_lc2, k_lc2c, mkD1, e_dc, k_dc, e_dc0, e_stD, stD1, o_stD1f, o_stD1o, o_stD2, e_slk, lk1, e_elk, lke1, unlO_nx, unlO_bk, unlO_ct, unlO_rt, unl_nil, unl_cons, unl1_no, unl1_fz, unl1_ow, unl1_lk, e_items, items1, e_keysD, keysD1, e_en, k_enL, k_enT, k_enO, e_zp, k_zp, e_fnL, k_fnL, e_fnL0, e_fnC, e_fnC0, callC1, k_C, outC1, v_ixTA, v_ixLA, bind_some, boolsM, all_mapI, any_mapI, allT, e_app, app1, o_appf, o_appo, e_frz, frzo1, frzo2, p_whole, h, e]
  · have e : (a ≤ i ∧ i ≤ b) = (i ≤ b) := propext ⟨fun h => h.2, fun h2 => ⟨by omega, h2⟩⟩
    simp only [k_op1, k_op2, k_un, k_call, k_b, k_and, k_or, k_not, k_eand, k_eor, k_enot, k_if, k_c1, k_c2, k_c3, k_cons1, k_cons2, k_tup, k_lst, k_fn, k_fnS, k_fnK, k_isi, k_sl1, k_sl2, k_sl3, k_i, o_sx, o_ret, o_if, o_set, o_asg, o_par2, o_par3, o_stS, o_stT, o_for, k_seq, k_rg1, k_rg2, e_rg1, e_rg2, rg1_1, rg2_1, k_lc, k_lt, k_le, k_lc2, k_fnF, e_fnF, run1, e_seq, seq_nx, seq_rt, seq_ct, seq_bk, fin_nx, fin_rt, given_fz, given_ow, given_bw, e_var, e_op, e_un, e_call, e_c, lift1, e_asB, toB1, e_tand, e_tor, e_tnot, e_and, e_or, e_not, e_if, e_chain, chn1, e_nil, e_cons, e_tup, e_lst, e_fn, e_fnS, e_fnK, e_isi, isiR1, outR1, outS1, e_stG, e_sl, b_no, b_so, toI1, e_no, e_sx, e_ret, e_retN, e_sif, put_fz, put_ow, nxO1, e_set, asg_fz, asg_ow, e_asg, g_nm, g_nl, g_cn, obind1, g_tuT, g_tuL, e_par2, e_par3, stO1, e_stS, e_stT, bind1, ofR1, d_fz, d_ow, d_bw, frz_fz, frz_ow, frz_bw, nb_nil, nb_fz, nb_ow, nb_bw, v_add, v_sub, v_neg, v_lt, v_gt, v_le, v_ge, v_is, v_isNot, v_eqS, v_neS, v_eq, v_ne, v_eqB, v_neB, v_ixT, v_ixL, at0, at1, at2, at3, at4, at5, map1, v_lenL, v_lenT, v_abs, v_int, v_intB, v_max2, v_min2, v_max3, v_min3, v_tupL, v_tupT, v_lstL, v_lstT, k_int_none, k_int_bool, k_int_int, k_int_str, k_int_list, k_int_tuple, k_bool_none, k_bool_bool, k_bool_int, k_bool_str, k_bool_list, k_bool_tuple, k_str_none, k_str_bool, k_str_int, k_str_str, k_str_list, k_str_tuple, k_list_none, k_list_bool, k_list_int, k_list_str, k_list_list, k_list_tuple, k_tuple_none, k_tuple_bool, k_tuple_int, k_tuple_str, k_tuple_list, k_tuple_tuple, k_dict_none, k_dict_bool, k_dict_int, k_dict_str, k_dict_list, k_dict_tuple, Int.cast_ofNat_Int, Nat.reduceAdd, Nat.reduceLeDiff, e_lc, e_iseq, seqI_fl, seqI_ft, seqI_ol, seqI_ot, lc_step, lc_nil, lcS1, lcN1, val_fz, val_ow, t_true, wipe0, wipe1, mkL1, noX1, loop_step, loop_nil, loopS1, loop_nx, loop_ct, loop_bk, loop_rt, loop_exc, e_for, v_allD, v_anyD, bools_map, ints_map, bools0, bools1, ints0, ints1, size_eq, decide_true, decide_false, true_or, or_true, eq_self, and_true, true_and, List.all_cons, List.all_nil, List.any_cons, List.any_nil, id_eq, isN, List.map_cons, List.map_nil, List.length_cons, List.length_nil, List.getElem?_cons_zero, List.getElem?_cons_succ, List.set_cons_zero, List.set_cons_succ, decide_eq_true_eq, if_true, Bool.or_true, Bool.true_or, Bool.and_true, Bool.true_and, Bool.false_eq_true, if_false, Bool.not_true, Bool.not_false, Bool.or_false, Bool.false_or, Bool.and_false, Bool.false_and, BEq.rfl, e_sortK, k_sortK, e_lc2, k_lc2c, mkD1, e_dc, k_dc, e_dc0, e_stD, stD1, o_stD1f, o_stD1o, o_stD2, e_slk, lk1, e_elk, lke1, unlO_nx, unlO_bk, unlO_ct, unlO_rt, unl_nil, unl_cons, unl1_no, unl1_fz, unl1_ow, unl1_lk, e_items, items1, e_keysD, keysD1, e_en, k_enL, k_enT, k_enO, e_zp, k_zp, e_fnL, k_fnL, e_fnL0, e_fnC, e_fnC0, callC1, k_C, outC1, v_ixTA, v_ixLA, bind_some, boolsM, all_mapI, any_mapI, allT, e_app, app1, o_appf, o_appo, e_frz, frzo1, frzo2, p_whole, h, e]
theorem p_tuple (ds : List D) (n : Int) (w : List Int) : S_is_tuple_of [] [.fz (.tuple ds), .fz (.int n)] w = .ok (.fz (.bool (decide ((ds.length : Int) = n))), w) := by
  rw [u_is_tuple_of]
  unfold g_is_tuple_of
  simp only [k_op1, k_op2, k_un, k_call, k_b, k_and, k_or, k_not, k_eand, k_eor, k_enot, k_if, k_c1, k_c2, k_c3, k_cons1, k_cons2, k_tup, k_lst, k_fn, k_fnS, k_fnK, k_isi, k_sl1, k_sl2, k_sl3, k_i, o_sx, o_ret, o_if, o_set, o_asg, o_par2, o_par3, o_stS, o_stT, o_for, k_seq, k_rg1, k_rg2, e_rg1, e_rg2, rg1_1, rg2_1, k_lc, k_lt, k_le, k_lc2, k_fnF, e_fnF, run1, e_seq, seq_nx, seq_rt, seq_ct, seq_bk, fin_nx, fin_rt, given_fz, given_ow, given_bw, e_var, e_op, e_un, e_call, e_c, lift1, e_asB, toB1, e_tand, e_tor, e_tnot, e_and, e_or, e_not, e_if, e_chain, chn1, e_nil, e_cons, e_tup, e_lst, e_fn, e_fnS, e_fnK, e_isi, isiR1, outR1, outS1, e_stG, e_sl, b_no, b_so, toI1, e_no, e_sx, e_ret, e_retN, e_sif, put_fz, put_ow, nxO1, e_set, asg_fz, asg_ow, e_asg, g_nm, g_nl, g_cn, obind1, g_tuT, g_tuL, e_par2, e_par3, stO1, e_stS, e_stT, bind1, ofR1, d_fz, d_ow, d_bw, frz_fz, frz_ow, frz_bw, nb_nil, nb_fz, nb_ow, nb_bw, v_add, v_sub, v_neg, v_lt, v_gt, v_le, v_ge, v_is, v_isNot, v_eqS, v_neS, v_eq, v_ne, v_eqB, v_neB, v_ixT, v_ixL, at0, at1, at2, at3, at4, at5, map1, v_lenL, v_lenT, v_abs, v_int, v_intB, v_max2, v_min2, v_max3, v_min3, v_tupL, v_tupT, v_lstL, v_lstT, k_int_none, k_int_bool, k_int_int, k_int_str, k_int_list, k_int_tuple, k_bool_none, k_bool_bool, k_bool_int, k_bool_str, k_bool_list, k_bool_tuple, k_str_none, k_str_bool, k_str_int, k_str_str, k_str_list, k_str_tuple, k_list_none, k_list_bool, k_list_int, k_list_str, k_list_list, k_list_tuple, k_tuple_none, k_tuple_bool, k_tuple_int, k_tuple_str, k_tuple_list, k_tuple_tuple, k_dict_none, k_dict_bool, k_dict_int, k_dict_str, k_dict_list, k_dict_tuple, Int.cast_ofNat_Int, Nat.reduceAdd, Nat.reduceLeDiff, e_lc, e_iseq, seqI_fl, seqI_ft, seqI_ol, seqI_ot, lc_step, lc_nil, lcS1, lcN1, val_fz, val_ow, t_true, wipe0, wipe1, mkL1, noX1, loop_step, loop_nil, loopS1, loop_nx, loop_ct, loop_bk, loop_rt, loop_exc, e_for, v_allD, v_anyD, bools_map, ints_map, bools0, bools1, ints0, ints1, size_eq, decide_true, decide_false, true_or, or_true, eq_self, and_true, true_and, List.all_cons, List.all_nil, List.any_cons, List.any_nil, id_eq, isN, List.map_cons, List.map_nil, List.length_cons, List.length_nil, List.getElem?_cons_zero, List.getElem?_cons_succ, List.set_cons_zero, List.set_cons_succ, decide_eq_true_eq, if_true, Bool.or_true, Bool.true_or, Bool.and_true, Bool.true_and, Bool.false_eq_true, if_false, Bool.not_true, Bool.not_false, Bool.or_false, Bool.false_or, Bool.and_false, Bool.false_and, BEq.rfl, e_sortK, k_sortK, e_lc2, k_lc2c, mkD1, e_dc, k_dc, e_dc0, e_stD, stD1, o_stD1f, o_stD1o, o_stD2, e_slk, lk1, e_elk, lke1, unlO_nx, unlO_bk, unlO_ct, unlO_rt, unl_nil, unl_cons, unl1_no, unl1_fz, unl1_ow, unl1_lk, e_items, items1, e_keysD, keysD1, e_en, k_enL, k_enT, k_enO, e_zp, k_zp, e_fnL, k_fnL, e_fnL0, e_fnC, e_fnC0, callC1, k_C, outC1, v_ixTA, v_ixLA, bind_some, boolsM, all_mapI, any_mapI, allT, e_app, app1, o_appf, o_appo, e_frz, frzo1, frzo2]
section
variable {F : List (List Int)} {n m : Nat}
theorem p_form (h : Fl F n m) (w : List Int) : S_is_floor_form [] [.fz (flD F)] w = .ok (.fz (.bool true), w) := by
  rw [u_is_floor_form]
  unfold g_is_floor_form
  have hn1 := h.n1
  have hn6 := h.n6
  have hm1 := h.m1
  have hm6 := h.m6
  have c1 : (1 : Int) ≤ n := by omega
  have c2 : (n : Int) ≤ 6 := by omega
  have c3 : (1 : Int) ≤ m := by omega
  have c4 : (m : Int) ≤ 6 := by omega
  have hl : n ≤ 16777216 := by omega
  have cap : ¬ (24 : Int) < (n : Int) * m := by have := h.cap; rw [← Int.natCast_mul]; omega
  have sm : smallB (m : Int) = true := small_nat (by omega)
  simp only [k_op1, k_op2, k_un, k_call, k_b, k_and, k_or, k_not, k_eand, k_eor, k_enot, k_if, k_c1, k_c2, k_c3, k_cons1, k_cons2, k_tup, k_lst, k_fn, k_fnS, k_fnK, k_isi, k_sl1, k_sl2, k_sl3, k_i, o_sx, o_ret, o_if, o_set, o_asg, o_par2, o_par3, o_stS, o_stT, o_for, k_seq, k_rg1, k_rg2, e_rg1, e_rg2, rg1_1, rg2_1, k_lc, k_lt, k_le, k_lc2, k_fnF, e_fnF, run1, e_seq, seq_nx, seq_rt, seq_ct, seq_bk, fin_nx, fin_rt, given_fz, given_ow, given_bw, e_var, e_op, e_un, e_call, e_c, lift1, e_asB, toB1, e_tand, e_tor, e_tnot, e_and, e_or, e_not, e_if, e_chain, chn1, e_nil, e_cons, e_tup, e_lst, e_fn, e_fnS, e_fnK, e_isi, isiR1, outR1, outS1, e_stG, e_sl, b_no, b_so, toI1, e_no, e_sx, e_ret, e_retN, e_sif, put_fz, put_ow, nxO1, e_set, asg_fz, asg_ow, e_asg, g_nm, g_nl, g_cn, obind1, g_tuT, g_tuL, e_par2, e_par3, stO1, e_stS, e_stT, bind1, ofR1, d_fz, d_ow, d_bw, frz_fz, frz_ow, frz_bw, nb_nil, nb_fz, nb_ow, nb_bw, v_add, v_sub, v_neg, v_lt, v_gt, v_le, v_ge, v_is, v_isNot, v_eqS, v_neS, v_eq, v_ne, v_eqB, v_neB, v_ixT, v_ixL, at0, at1, at2, at3, at4, at5, map1, v_lenL, v_lenT, v_abs, v_int, v_intB, v_max2, v_min2, v_max3, v_min3, v_tupL, v_tupT, v_lstL, v_lstT, k_int_none, k_int_bool, k_int_int, k_int_str, k_int_list, k_int_tuple, k_bool_none, k_bool_bool, k_bool_int, k_bool_str, k_bool_list, k_bool_tuple, k_str_none, k_str_bool, k_str_int, k_str_str, k_str_list, k_str_tuple, k_list_none, k_list_bool, k_list_int, k_list_str, k_list_list, k_list_tuple, k_tuple_none, k_tuple_bool, k_tuple_int, k_tuple_str, k_tuple_list, k_tuple_tuple, k_dict_none, k_dict_bool, k_dict_int, k_dict_str, k_dict_list, k_dict_tuple, Int.cast_ofNat_Int, Nat.reduceAdd, Nat.reduceLeDiff, e_lc, e_iseq, seqI_fl, seqI_ft, seqI_ol, seqI_ot, lc_step, lc_nil, lcS1, lcN1, val_fz, val_ow, t_true, wipe0, wipe1, mkL1, noX1, loop_step, loop_nil, loopS1, loop_nx, loop_ct, loop_bk, loop_rt, loop_exc, e_for, v_allD, v_anyD, bools_map, ints_map, bools0, bools1, ints0, ints1, size_eq, decide_true, decide_false, true_or, or_true, eq_self, and_true, true_and, List.all_cons, List.all_nil, List.any_cons, List.any_nil, id_eq, isN, List.map_cons, List.map_nil, List.length_cons, List.length_nil, List.getElem?_cons_zero, List.getElem?_cons_succ, List.set_cons_zero, List.set_cons_succ, decide_eq_true_eq, if_true, Bool.or_true, Bool.true_or, Bool.and_true, Bool.true_and, Bool.false_eq_true, if_false, Bool.not_true, Bool.not_false, Bool.or_false, Bool.false_or, Bool.and_false, Bool.false_and, BEq.rfl, e_sortK, k_sortK, e_lc2, k_lc2c, mkD1, e_dc, k_dc, e_dc0, e_stD, stD1, o_stD1f, o_stD1o, o_stD2, e_slk, lk1, e_elk, lke1, unlO_nx, unlO_bk, unlO_ct, unlO_rt, unl_nil, unl_cons, unl1_no, unl1_fz, unl1_ow, unl1_lk, e_items, items1, e_keysD, keysD1, e_en, k_enL, k_enT, k_enO, e_zp, k_zp, e_fnL, k_fnL, e_fnL0, e_fnC, e_fnC0, callC1, k_C, outC1, v_ixTA, v_ixLA, bind_some, boolsM, all_mapI, any_mapI, allT, e_app, app1, o_appf, o_appo, e_frz, frzo1, frzo2, List.length_map, h.len, c1, c2, h.row0, h.len0]
  rw [lc_mapE rowD (fun _ => .bool true)]
  · simp only [k_op1, k_op2, k_un, k_call, k_b, k_and, k_or, k_not, k_eand, k_eor, k_enot, k_if, k_c1, k_c2, k_c3, k_cons1, k_cons2, k_tup, k_lst, k_fn, k_fnS, k_fnK, k_isi, k_sl1, k_sl2, k_sl3, k_i, o_sx, o_ret, o_if, o_set, o_asg, o_par2, o_par3, o_stS, o_stT, o_for, k_seq, k_rg1, k_rg2, e_rg1, e_rg2, rg1_1, rg2_1, k_lc, k_lt, k_le, k_lc2, k_fnF, e_fnF, run1, e_seq, seq_nx, seq_rt, seq_ct, seq_bk, fin_nx, fin_rt, given_fz, given_ow, given_bw, e_var, e_op, e_un, e_call, e_c, lift1, e_asB, toB1, e_tand, e_tor, e_tnot, e_and, e_or, e_not, e_if, e_chain, chn1, e_nil, e_cons, e_tup, e_lst, e_fn, e_fnS, e_fnK, e_isi, isiR1, outR1, outS1, e_stG, e_sl, b_no, b_so, toI1, e_no, e_sx, e_ret, e_retN, e_sif, put_fz, put_ow, nxO1, e_set, asg_fz, asg_ow, e_asg, g_nm, g_nl, g_cn, obind1, g_tuT, g_tuL, e_par2, e_par3, stO1, e_stS, e_stT, bind1, ofR1, d_fz, d_ow, d_bw, frz_fz, frz_ow, frz_bw, nb_nil, nb_fz, nb_ow, nb_bw, v_add, v_sub, v_neg, v_lt, v_gt, v_le, v_ge, v_is, v_isNot, v_eqS, v_neS, v_eq, v_ne, v_eqB, v_neB, v_ixT, v_ixL, at0, at1, at2, at3, at4, at5, map1, v_lenL, v_lenT, v_abs, v_int, v_intB, v_max2, v_min2, v_max3, v_min3, v_tupL, v_tupT, v_lstL, v_lstT, k_int_none, k_int_bool, k_int_int, k_int_str, k_int_list, k_int_tuple, k_bool_none, k_bool_bool, k_bool_int, k_bool_str, k_bool_list, k_bool_tuple, k_str_none, k_str_bool, k_str_int, k_str_str, k_str_list, k_str_tuple, k_list_none, k_list_bool, k_list_int, k_list_str, k_list_list, k_list_tuple, k_tuple_none, k_tuple_bool, k_tuple_int, k_tuple_str, k_tuple_list, k_tuple_tuple, k_dict_none, k_dict_bool, k_dict_int, k_dict_str, k_dict_list, k_dict_tuple, Int.cast_ofNat_Int, Nat.reduceAdd, Nat.reduceLeDiff, e_lc, e_iseq, seqI_fl, seqI_ft, seqI_ol, seqI_ot, lc_step, lc_nil, lcS1, lcN1, val_fz, val_ow, t_true, wipe0, wipe1, mkL1, noX1, loop_step, loop_nil, loopS1, loop_nx, loop_ct, loop_bk, loop_rt, loop_exc, e_for, v_allD, v_anyD, bools_map, ints_map, bools0, bools1, ints0, ints1, size_eq, decide_true, decide_false, true_or, or_true, eq_self, and_true, true_and, List.all_cons, List.all_nil, List.any_cons, List.any_nil, id_eq, isN, List.map_cons, List.map_nil, List.length_cons, List.length_nil, List.getElem?_cons_zero, List.getElem?_cons_succ, List.set_cons_zero, List.set_cons_succ, decide_eq_true_eq, if_true, Bool.or_true, Bool.true_or, Bool.and_true, Bool.true_and, Bool.false_eq_true, if_false, Bool.not_true, Bool.not_false, Bool.or_false, Bool.false_or, Bool.and_false, Bool.false_and, BEq.rfl, e_sortK, k_sortK, e_lc2, k_lc2c, mkD1, e_dc, k_dc, e_dc0, e_stD, stD1, o_stD1f, o_stD1o, o_stD2, e_slk, lk1, e_elk, lke1, unlO_nx, unlO_bk, unlO_ct, unlO_rt, unl_nil, unl_cons, unl1_no, unl1_fz, unl1_ow, unl1_lk, e_items, items1, e_keysD, keysD1, e_en, k_enL, k_enT, k_enO, e_zp, k_zp, e_fnL, k_fnL, e_fnL0, e_fnC, e_fnC0, callC1, k_C, outC1, v_ixTA, v_ixLA, bind_some, boolsM, all_mapI, any_mapI, allT, e_app, app1, o_appf, o_appo, e_frz, frzo1, frzo2, List.length_map, h.len, hl, h.row0, h.len0]
    rw [lc_mapE rowD (fun _ => .bool true)]
    · simp only [k_op1, k_op2, k_un, k_call, k_b, k_and, k_or, k_not, k_eand, k_eor, k_enot, k_if, k_c1, k_c2, k_c3, k_cons1, k_cons2, k_tup, k_lst, k_fn, k_fnS, k_fnK, k_isi, k_sl1, k_sl2, k_sl3, k_i, o_sx, o_ret, o_if, o_set, o_asg, o_par2, o_par3, o_stS, o_stT, o_for, k_seq, k_rg1, k_rg2, e_rg1, e_rg2, rg1_1, rg2_1, k_lc, k_lt, k_le, k_lc2, k_fnF, e_fnF, run1, e_seq, seq_nx, seq_rt, seq_ct, seq_bk, fin_nx, fin_rt, given_fz, given_ow, given_bw, e_var, e_op, e_un, e_call, e_c, lift1, e_asB, toB1, e_tand, e_tor, e_tnot, e_and, e_or, e_not, e_if, e_chain, chn1, e_nil, e_cons, e_tup, e_lst, e_fn, e_fnS, e_fnK, e_isi, isiR1, outR1, outS1, e_stG, e_sl, b_no, b_so, toI1, e_no, e_sx, e_ret, e_retN, e_sif, put_fz, put_ow, nxO1, e_set, asg_fz, asg_ow, e_asg, g_nm, g_nl, g_cn, obind1, g_tuT, g_tuL, e_par2, e_par3, stO1, e_stS, e_stT, bind1, ofR1, d_fz, d_ow, d_bw, frz_fz, frz_ow, frz_bw, nb_nil, nb_fz, nb_ow, nb_bw, v_add, v_sub, v_neg, v_lt, v_gt, v_le, v_ge, v_is, v_isNot, v_eqS, v_neS, v_eq, v_ne, v_eqB, v_neB, v_ixT, v_ixL, at0, at1, at2, at3, at4, at5, map1, v_lenL, v_lenT, v_abs, v_int, v_intB, v_max2, v_min2, v_max3, v_min3, v_tupL, v_tupT, v_lstL, v_lstT, k_int_none, k_int_bool, k_int_int, k_int_str, k_int_list, k_int_tuple, k_bool_none, k_bool_bool, k_bool_int, k_bool_str, k_bool_list, k_bool_tuple, k_str_none, k_str_bool, k_str_int, k_str_str, k_str_list, k_str_tuple, k_list_none, k_list_bool, k_list_int, k_list_str, k_list_list, k_list_tuple, k_tuple_none, k_tuple_bool, k_tuple_int, k_tuple_str, k_tuple_list, k_tuple_tuple, k_dict_none, k_dict_bool, k_dict_int, k_dict_str, k_dict_list, k_dict_tuple, Int.cast_ofNat_Int, Nat.reduceAdd, Nat.reduceLeDiff, e_lc, e_iseq, seqI_fl, seqI_ft, seqI_ol, seqI_ot, lc_step, lc_nil, lcS1, lcN1, val_fz, val_ow, t_true, wipe0, wipe1, mkL1, noX1, loop_step, loop_nil, loopS1, loop_nx, loop_ct, loop_bk, loop_rt, loop_exc, e_for, v_allD, v_anyD, bools_map, ints_map, bools0, bools1, ints0, ints1, size_eq, decide_true, decide_false, true_or, or_true, eq_self, and_true, true_and, List.all_cons, List.all_nil, List.any_cons, List.any_nil, id_eq, isN, List.map_cons, List.map_nil, List.length_cons, List.length_nil, List.getElem?_cons_zero, List.getElem?_cons_succ, List.set_cons_zero, List.set_cons_succ, decide_eq_true_eq, if_true, Bool.or_true, Bool.true_or, Bool.and_true, Bool.true_and, Bool.false_eq_true, if_false, Bool.not_true, Bool.not_false, Bool.or_false, Bool.false_or, Bool.and_false, Bool.false_and, BEq.rfl, e_sortK, k_sortK, e_lc2, k_lc2c, mkD1, e_dc, k_dc, e_dc0, e_stD, stD1, o_stD1f, o_stD1o, o_stD2, e_slk, lk1, e_elk, lke1, unlO_nx, unlO_bk, unlO_ct, unlO_rt, unl_nil, unl_cons, unl1_no, unl1_fz, unl1_ow, unl1_lk, e_items, items1, e_keysD, keysD1, e_en, k_enL, k_enT, k_enO, e_zp, k_zp, e_fnL, k_fnL, e_fnL0, e_fnC, e_fnC0, callC1, k_C, outC1, v_ixTA, v_ixLA, bind_some, boolsM, all_mapI, any_mapI, allT, e_app, app1, o_appf, o_appo, e_frz, frzo1, frzo2, List.length_map, h.len, hl, h.row0, h.len0, v_mul, sm, cap]
      rw [lc2_mapE rowD PyData.int id (fun _ _ => .bool true) (fun _ _ => true) (ds1 := fun _ => [])]
      · have e : (F.flatMap fun x => ((id x).filter fun _ => true).map fun _ => PyData.bool true) = (F.flatMap id).map fun _ => PyData.bool true := by
          rw [← flatMap_mapm]
          simp only [filterT, id_eq]
        have hlen : (F.flatMap id).length ≤ 16777216 := by
          have go : ∀ l : List (List Int), (∀ r ∈ l, r.length = m) → (l.flatMap id).length = l.length * m := by
            intro l
            induction l with
            | nil => intro _; simp
            | cons a l ih =>
              intro hh
              rw [List.flatMap_cons, List.length_append, ih fun r hr => hh r (List.mem_cons_of_mem _ hr), List.length_cons, Nat.succ_mul]
              have := hh a List.mem_cons_self
              simp only [id_eq]
              omega
          rw [go F h.row, h.len]
          have := h.cap
          omega
        rw [e]
        simp only [k_op1, k_op2, k_un, k_call, k_b, k_and, k_or, k_not, k_eand, k_eor, k_enot, k_if, k_c1, k_c2, k_c3, k_cons1, k_cons2, k_tup, k_lst, k_fn, k_fnS, k_fnK, k_isi, k_sl1, k_sl2, k_sl3, k_i, o_sx, o_ret, o_if, o_set, o_asg, o_par2, o_par3, o_stS, o_stT, o_for, k_seq, k_rg1, k_rg2, e_rg1, e_rg2, rg1_1, rg2_1, k_lc, k_lt, k_le, k_lc2, k_fnF, e_fnF, run1, e_seq, seq_nx, seq_rt, seq_ct, seq_bk, fin_nx, fin_rt, given_fz, given_ow, given_bw, e_var, e_op, e_un, e_call, e_c, lift1, e_asB, toB1, e_tand, e_tor, e_tnot, e_and, e_or, e_not, e_if, e_chain, chn1, e_nil, e_cons, e_tup, e_lst, e_fn, e_fnS, e_fnK, e_isi, isiR1, outR1, outS1, e_stG, e_sl, b_no, b_so, toI1, e_no, e_sx, e_ret, e_retN, e_sif, put_fz, put_ow, nxO1, e_set, asg_fz, asg_ow, e_asg, g_nm, g_nl, g_cn, obind1, g_tuT, g_tuL, e_par2, e_par3, stO1, e_stS, e_stT, bind1, ofR1, d_fz, d_ow, d_bw, frz_fz, frz_ow, frz_bw, nb_nil, nb_fz, nb_ow, nb_bw, v_add, v_sub, v_neg, v_lt, v_gt, v_le, v_ge, v_is, v_isNot, v_eqS, v_neS, v_eq, v_ne, v_eqB, v_neB, v_ixT, v_ixL, at0, at1, at2, at3, at4, at5, map1, v_lenL, v_lenT, v_abs, v_int, v_intB, v_max2, v_min2, v_max3, v_min3, v_tupL, v_tupT, v_lstL, v_lstT, k_int_none, k_int_bool, k_int_int, k_int_str, k_int_list, k_int_tuple, k_bool_none, k_bool_bool, k_bool_int, k_bool_str, k_bool_list, k_bool_tuple, k_str_none, k_str_bool, k_str_int, k_str_str, k_str_list, k_str_tuple, k_list_none, k_list_bool, k_list_int, k_list_str, k_list_list, k_list_tuple, k_tuple_none, k_tuple_bool, k_tuple_int, k_tuple_str, k_tuple_list, k_tuple_tuple, k_dict_none, k_dict_bool, k_dict_int, k_dict_str, k_dict_list, k_dict_tuple, Int.cast_ofNat_Int, Nat.reduceAdd, Nat.reduceLeDiff, e_lc, e_iseq, seqI_fl, seqI_ft, seqI_ol, seqI_ot, lc_step, lc_nil, lcS1, lcN1, val_fz, val_ow, t_true, wipe0, wipe1, mkL1, noX1, loop_step, loop_nil, loopS1, loop_nx, loop_ct, loop_bk, loop_rt, loop_exc, e_for, v_allD, v_anyD, bools_map, ints_map, bools0, bools1, ints0, ints1, size_eq, decide_true, decide_false, true_or, or_true, eq_self, and_true, true_and, List.all_cons, List.all_nil, List.any_cons, List.any_nil, id_eq, isN, List.map_cons, List.map_nil, List.length_cons, List.length_nil, List.getElem?_cons_zero, List.getElem?_cons_succ, List.set_cons_zero, List.set_cons_succ, decide_eq_true_eq, if_true, Bool.or_true, Bool.true_or, Bool.and_true, Bool.true_and, Bool.false_eq_true, if_false, Bool.not_true, Bool.not_false, Bool.or_false, Bool.false_or, Bool.and_false, Bool.false_and, BEq.rfl, e_sortK, k_sortK, e_lc2, k_lc2c, mkD1, e_dc, k_dc, e_dc0, e_stD, stD1, o_stD1f, o_stD1o, o_stD2, e_slk, lk1, e_elk, lke1, unlO_nx, unlO_bk, unlO_ct, unlO_rt, unl_nil, unl_cons, unl1_no, unl1_fz, unl1_ow, unl1_lk, e_items, items1, e_keysD, keysD1, e_en, k_enL, k_enT, k_enO, e_zp, k_zp, e_fnL, k_fnL, e_fnL0, e_fnC, e_fnC0, callC1, k_C, outC1, v_ixTA, v_ixLA, bind_some, boolsM, all_mapI, any_mapI, allT, e_app, app1, o_appf, o_appo, e_frz, frzo1, frzo2, List.length_map, hlen]
      · intro r hr
        refine ⟨_, rfl, rfl, rfl, fun y hy => ⟨_, rfl, rfl, fun _ => ⟨.fz (.bool true), ?_, rfl⟩⟩⟩
        have := h.val r hr y hy
        have c : (0 ≤ y ∧ y ≤ 5) := this
        simp only [k_op1, k_op2, k_un, k_call, k_b, k_and, k_or, k_not, k_eand, k_eor, k_enot, k_if, k_c1, k_c2, k_c3, k_cons1, k_cons2, k_tup, k_lst, k_fn, k_fnS, k_fnK, k_isi, k_sl1, k_sl2, k_sl3, k_i, o_sx, o_ret, o_if, o_set, o_asg, o_par2, o_par3, o_stS, o_stT, o_for, k_seq, k_rg1, k_rg2, e_rg1, e_rg2, rg1_1, rg2_1, k_lc, k_lt, k_le, k_lc2, k_fnF, e_fnF, run1, e_seq, seq_nx, seq_rt, seq_ct, seq_bk, fin_nx, fin_rt, given_fz, given_ow, given_bw, e_var, e_op, e_un, e_call, e_c, lift1, e_asB, toB1, e_tand, e_tor, e_tnot, e_and, e_or, e_not, e_if, e_chain, chn1, e_nil, e_cons, e_tup, e_lst, e_fn, e_fnS, e_fnK, e_isi, isiR1, outR1, outS1, e_stG, e_sl, b_no, b_so, toI1, e_no, e_sx, e_ret, e_retN, e_sif, put_fz, put_ow, nxO1, e_set, asg_fz, asg_ow, e_asg, g_nm, g_nl, g_cn, obind1, g_tuT, g_tuL, e_par2, e_par3, stO1, e_stS, e_stT, bind1, ofR1, d_fz, d_ow, d_bw, frz_fz, frz_ow, frz_bw, nb_nil, nb_fz, nb_ow, nb_bw, v_add, v_sub, v_neg, v_lt, v_gt, v_le, v_ge, v_is, v_isNot, v_eqS, v_neS, v_eq, v_ne, v_eqB, v_neB, v_ixT, v_ixL, at0, at1, at2, at3, at4, at5, map1, v_lenL, v_lenT, v_abs, v_int, v_intB, v_max2, v_min2, v_max3, v_min3, v_tupL, v_tupT, v_lstL, v_lstT, k_int_none, k_int_bool, k_int_int, k_int_str, k_int_list, k_int_tuple, k_bool_none, k_bool_bool, k_bool_int, k_bool_str, k_bool_list, k_bool_tuple, k_str_none, k_str_bool, k_str_int, k_str_str, k_str_list, k_str_tuple, k_list_none, k_list_bool, k_list_int, k_list_str, k_list_list, k_list_tuple, k_tuple_none, k_tuple_bool, k_tuple_int, k_tuple_str, k_tuple_list, k_tuple_tuple, k_dict_none, k_dict_bool, k_dict_int, k_dict_str, k_dict_list, k_dict_tuple, Int.cast_ofNat_Int, Nat.reduceAdd, Nat.reduceLeDiff, e_lc, e_iseq, seqI_fl, seqI_ft, seqI_ol, seqI_ot, lc_step, lc_nil, lcS1, lcN1, val_fz, val_ow, t_true, wipe0, wipe1, mkL1, noX1, loop_step, loop_nil, loopS1, loop_nx, loop_ct, loop_bk, loop_rt, loop_exc, e_for, v_allD, v_anyD, bools_map, ints_map, bools0, bools1, ints0, ints1, size_eq, decide_true, decide_false, true_or, or_true, eq_self, and_true, true_and, List.all_cons, List.all_nil, List.any_cons, List.any_nil, id_eq, isN, List.map_cons, List.map_nil, List.length_cons, List.length_nil, List.getElem?_cons_zero, List.getElem?_cons_succ, List.set_cons_zero, List.set_cons_succ, decide_eq_true_eq, if_true, Bool.or_true, Bool.true_or, Bool.and_true, Bool.true_and, Bool.false_eq_true, if_false, Bool.not_true, Bool.not_false, Bool.or_false, Bool.false_or, Bool.and_false, Bool.false_and, BEq.rfl, e_sortK, k_sortK, e_lc2, k_lc2c, mkD1, e_dc, k_dc, e_dc0, e_stD, stD1, o_stD1f, o_stD1o, o_stD2, e_slk, lk1, e_elk, lke1, unlO_nx, unlO_bk, unlO_ct, unlO_rt, unl_nil, unl_cons, unl1_no, unl1_fz, unl1_ow, unl1_lk, e_items, items1, e_keysD, keysD1, e_en, k_enL, k_enT, k_enO, e_zp, k_zp, e_fnL, k_fnL, e_fnL0, e_fnC, e_fnC0, callC1, k_C, outC1, v_ixTA, v_ixLA, bind_some, boolsM, all_mapI, any_mapI, allT, e_app, app1, o_appf, o_appo, e_frz, frzo1, frzo2, p_number, c, indep, pure?]
    · intro r hr
      exact ⟨_, .fz (.bool true), rfl, rfl, by simp only [k_op1, k_op2, k_un, k_call, k_b, k_and, k_or, k_not, k_eand, k_eor, k_enot, k_if, k_c1, k_c2, k_c3, k_cons1, k_cons2, k_tup, k_lst, k_fn, k_fnS, k_fnK, k_isi, k_sl1, k_sl2, k_sl3, k_i, o_sx, o_ret, o_if, o_set, o_asg, o_par2, o_par3, o_stS, o_stT, o_for, k_seq, k_rg1, k_rg2, e_rg1, e_rg2, rg1_1, rg2_1, k_lc, k_lt, k_le, k_lc2, k_fnF, e_fnF, run1, e_seq, seq_nx, seq_rt, seq_ct, seq_bk, fin_nx, fin_rt, given_fz, given_ow, given_bw, e_var, e_op, e_un, e_call, e_c, lift1, e_asB, toB1, e_tand, e_tor, e_tnot, e_and, e_or, e_not, e_if, e_chain, chn1, e_nil, e_cons, e_tup, e_lst, e_fn, e_fnS, e_fnK, e_isi, isiR1, outR1, outS1, e_stG, e_sl, b_no, b_so, toI1, e_no, e_sx, e_ret, e_retN, e_sif, put_fz, put_ow, nxO1, e_set, asg_fz, asg_ow, e_asg, g_nm, g_nl, g_cn, obind1, g_tuT, g_tuL, e_par2, e_par3, stO1, e_stS, e_stT, bind1, ofR1, d_fz, d_ow, d_bw, frz_fz, frz_ow, frz_bw, nb_nil, nb_fz, nb_ow, nb_bw, v_add, v_sub, v_neg, v_lt, v_gt, v_le, v_ge, v_is, v_isNot, v_eqS, v_neS, v_eq, v_ne, v_eqB, v_neB, v_ixT, v_ixL, at0, at1, at2, at3, at4, at5, map1, v_lenL, v_lenT, v_abs, v_int, v_intB, v_max2, v_min2, v_max3, v_min3, v_tupL, v_tupT, v_lstL, v_lstT, k_int_none, k_int_bool, k_int_int, k_int_str, k_int_list, k_int_tuple, k_bool_none, k_bool_bool, k_bool_int, k_bool_str, k_bool_list, k_bool_tuple, k_str_none, k_str_bool, k_str_int, k_str_str, k_str_list, k_str_tuple, k_list_none, k_list_bool, k_list_int, k_list_str, k_list_list, k_list_tuple, k_tuple_none, k_tuple_bool, k_tuple_int, k_tuple_str, k_tuple_list, k_tuple_tuple, k_dict_none, k_dict_bool, k_dict_int, k_dict_str, k_dict_list, k_dict_tuple, Int.cast_ofNat_Int, Nat.reduceAdd, Nat.reduceLeDiff, e_lc, e_iseq, seqI_fl, seqI_ft, seqI_ol, seqI_ot, lc_step, lc_nil, lcS1, lcN1, val_fz, val_ow, t_true, wipe0, wipe1, mkL1, noX1, loop_step, loop_nil, loopS1, loop_nx, loop_ct, loop_bk, loop_rt, loop_exc, e_for, v_allD, v_anyD, bools_map, ints_map, bools0, bools1, ints0, ints1, size_eq, decide_true, decide_false, true_or, or_true, eq_self, and_true, true_and, List.all_cons, List.all_nil, List.any_cons, List.any_nil, id_eq, isN, List.map_cons, List.map_nil, List.length_cons, List.length_nil, List.getElem?_cons_zero, List.getElem?_cons_succ, List.set_cons_zero, List.set_cons_succ, decide_eq_true_eq, if_true, Bool.or_true, Bool.true_or, Bool.and_true, Bool.true_and, Bool.false_eq_true, if_false, Bool.not_true, Bool.not_false, Bool.or_false, Bool.false_or, Bool.and_false, Bool.false_and, BEq.rfl, e_sortK, k_sortK, e_lc2, k_lc2c, mkD1, e_dc, k_dc, e_dc0, e_stD, stD1, o_stD1f, o_stD1o, o_stD2, e_slk, lk1, e_elk, lke1, unlO_nx, unlO_bk, unlO_ct, unlO_rt, unl_nil, unl_cons, unl1_no, unl1_fz, unl1_ow, unl1_lk, e_items, items1, e_keysD, keysD1, e_en, k_enL, k_enT, k_enO, e_zp, k_zp, e_fnL, k_fnL, e_fnL0, e_fnC, e_fnC0, callC1, k_C, outC1, v_ixTA, v_ixLA, bind_some, boolsM, all_mapI, any_mapI, allT, e_app, app1, o_appf, o_appo, e_frz, frzo1, frzo2, List.length_map, h.row r hr, h.row0, h.len0], rfl⟩
  · intro r hr
    exact ⟨_, .fz (.bool true), rfl, rfl, by simp only [k_op1, k_op2, k_un, k_call, k_b, k_and, k_or, k_not, k_eand, k_eor, k_enot, k_if, k_c1, k_c2, k_c3, k_cons1, k_cons2, k_tup, k_lst, k_fn, k_fnS, k_fnK, k_isi, k_sl1, k_sl2, k_sl3, k_i, o_sx, o_ret, o_if, o_set, o_asg, o_par2, o_par3, o_stS, o_stT, o_for, k_seq, k_rg1, k_rg2, e_rg1, e_rg2, rg1_1, rg2_1, k_lc, k_lt, k_le, k_lc2, k_fnF, e_fnF, run1, e_seq, seq_nx, seq_rt, seq_ct, seq_bk, fin_nx, fin_rt, given_fz, given_ow, given_bw, e_var, e_op, e_un, e_call, e_c, lift1, e_asB, toB1, e_tand, e_tor, e_tnot, e_and, e_or, e_not, e_if, e_chain, chn1, e_nil, e_cons, e_tup, e_lst, e_fn, e_fnS, e_fnK, e_isi, isiR1, outR1, outS1, e_stG, e_sl, b_no, b_so, toI1, e_no, e_sx, e_ret, e_retN, e_sif, put_fz, put_ow, nxO1, e_set, asg_fz, asg_ow, e_asg, g_nm, g_nl, g_cn, obind1, g_tuT, g_tuL, e_par2, e_par3, stO1, e_stS, e_stT, bind1, ofR1, d_fz, d_ow, d_bw, frz_fz, frz_ow, frz_bw, nb_nil, nb_fz, nb_ow, nb_bw, v_add, v_sub, v_neg, v_lt, v_gt, v_le, v_ge, v_is, v_isNot, v_eqS, v_neS, v_eq, v_ne, v_eqB, v_neB, v_ixT, v_ixL, at0, at1, at2, at3, at4, at5, map1, v_lenL, v_lenT, v_abs, v_int, v_intB, v_max2, v_min2, v_max3, v_min3, v_tupL, v_tupT, v_lstL, v_lstT, k_int_none, k_int_bool, k_int_int, k_int_str, k_int_list, k_int_tuple, k_bool_none, k_bool_bool, k_bool_int, k_bool_str, k_bool_list, k_bool_tuple, k_str_none, k_str_bool, k_str_int, k_str_str, k_str_list, k_str_tuple, k_list_none, k_list_bool, k_list_int, k_list_str, k_list_list, k_list_tuple, k_tuple_none, k_tuple_bool, k_tuple_int, k_tuple_str, k_tuple_list, k_tuple_tuple, k_dict_none, k_dict_bool, k_dict_int, k_dict_str, k_dict_list, k_dict_tuple, Int.cast_ofNat_Int, Nat.reduceAdd, Nat.reduceLeDiff, e_lc, e_iseq, seqI_fl, seqI_ft, seqI_ol, seqI_ot, lc_step, lc_nil, lcS1, lcN1, val_fz, val_ow, t_true, wipe0, wipe1, mkL1, noX1, loop_step, loop_nil, loopS1, loop_nx, loop_ct, loop_bk, loop_rt, loop_exc, e_for, v_allD, v_anyD, bools_map, ints_map, bools0, bools1, ints0, ints1, size_eq, decide_true, decide_false, true_or, or_true, eq_self, and_true, true_and, List.all_cons, List.all_nil, List.any_cons, List.any_nil, id_eq, isN, List.map_cons, List.map_nil, List.length_cons, List.length_nil, List.getElem?_cons_zero, List.getElem?_cons_succ, List.set_cons_zero, List.set_cons_succ, decide_eq_true_eq, if_true, Bool.or_true, Bool.true_or, Bool.and_true, Bool.true_and, Bool.false_eq_true, if_false, Bool.not_true, Bool.not_false, Bool.or_false, Bool.false_or, Bool.and_false, Bool.false_and, BEq.rfl, e_sortK, k_sortK, e_lc2, k_lc2c, mkD1, e_dc, k_dc, e_dc0, e_stD, stD1, o_stD1f, o_stD1o, o_stD2, e_slk, lk1, e_elk, lke1, unlO_nx, unlO_bk, unlO_ct, unlO_rt, unl_nil, unl_cons, unl1_no, unl1_fz, unl1_ow, unl1_lk, e_items, items1, e_keysD, keysD1, e_en, k_enL, k_enT, k_enO, e_zp, k_zp, e_fnL, k_fnL, e_fnL0, e_fnC, e_fnC0, callC1, k_C, outC1, v_ixTA, v_ixLA, bind_some, boolsM, all_mapI, any_mapI, allT, e_app, app1, o_appf, o_appo, e_frz, frzo1, frzo2, List.length_map, h.row r hr, c3, c4], rfl⟩
theorem p_tile (h : Fl F n m) (t : Tl) (w : List Int) : S_is_tile [] [.fz (flD F), .fz (pr t)] w = .ok (.fz (.bool (inB n m t)), w) := by
  have key : ∀ w, S_is_tile_of [] [.fz (.int n), .fz (.int m), .fz (pr t)] w = .ok (.fz (.bool (inB n m t)), w) := by
    intro w
    rw [u_is_tile_of]
    unfold g_is_tile_of
    have e : inB n m t = (decide (0 ≤ t.1 ∧ t.1 ≤ (n : Int) - 1) && decide (0 ≤ t.2 ∧ t.2 ≤ (m : Int) - 1)) := by
      unfold inB
      rw [← Bool.decide_and]
      refine decide_eq_decide.mpr ?_
      rw [mem_tiles]
      omega
    rw [e]
    have tu := p_tuple [.int t.1, .int t.2] 2
    by_cases c : 0 ≤ t.1 ∧ t.1 ≤ (n : Int) - 1
    · simp only [k_op1, k_op2, k_un, k_call, k_b, k_and, k_or, k_not, k_eand, k_eor, k_enot, k_if, k_c1, k_c2, k_c3, k_cons1, k_cons2, k_tup, k_lst, k_fn, k_fnS, k_fnK, k_isi, k_sl1, k_sl2, k_sl3, k_i, o_sx, o_ret, o_if, o_set, o_asg, o_par2, o_par3, o_stS, o_stT, o_for, k_seq, k_rg1, k_rg2, e_rg1, e_rg2, rg1_1, rg2_1, k_lc, k_lt, k_le, k_lc2, k_fnF, e_fnF, run1, e_seq, seq_nx, seq_rt, seq_ct, seq_bk, fin_nx, fin_rt, given_fz, given_ow, given_bw, e_var, e_op, e_un, e_call, e_c, lift1, e_asB, toB1, e_tand, e_tor, e_tnot, e_and, e_or, e_not, e_if, e_chain, chn1, e_nil, e_cons, e_tup, e_lst, e_fn, e_fnS, e_fnK, e_isi, isiR1, outR1, outS1, e_stG, e_sl, b_no, b_so, toI1, e_no, e_sx, e_ret, e_retN, e_sif, put_fz, put_ow, nxO1, e_set, asg_fz, asg_ow, e_asg, g_nm, g_nl, g_cn, obind1, g_tuT, g_tuL, e_par2, e_par3, stO1, e_stS, e_stT, bind1, ofR1, d_fz, d_ow, d_bw, frz_fz, frz_ow, frz_bw, nb_nil, nb_fz, nb_ow, nb_bw, v_add, v_sub, v_neg, v_lt, v_gt, v_le, v_ge, v_is, v_isNot, v_eqS, v_neS, v_eq, v_ne, v_eqB, v_neB, v_ixT, v_ixL, at0, at1, at2, at3, at4, at5, map1, v_lenL, v_lenT, v_abs, v_int, v_intB, v_max2, v_min2, v_max3, v_min3, v_tupL, v_tupT, v_lstL, v_lstT, k_int_none, k_int_bool, k_int_int, k_int_str, k_int_list, k_int_tuple, k_bool_none, k_bool_bool, k_bool_int, k_bool_str, k_bool_list, k_bool_tuple, k_str_none, k_str_bool, k_str_int, k_str_str, k_str_list, k_str_tuple, k_list_none, k_list_bool, k_list_int, k_list_str, k_list_list, k_list_tuple, k_tuple_none, k_tuple_bool, k_tuple_int, k_tuple_str, k_tuple_list, k_tuple_tuple, k_dict_none, k_dict_bool, k_dict_int, k_dict_str, k_dict_list, k_dict_tuple, Int.cast_ofNat_Int, Nat.reduceAdd, Nat.reduceLeDiff, e_lc, e_iseq, seqI_fl, seqI_ft, seqI_ol, seqI_ot, lc_step, lc_nil, lcS1, lcN1, val_fz, val_ow, t_true, wipe0, wipe1, mkL1, noX1, loop_step, loop_nil, loopS1, loop_nx, loop_ct, loop_bk, loop_rt, loop_exc, e_for, v_allD, v_anyD, bools_map, ints_map, bools0, bools1, ints0, ints1, size_eq, decide_true, decide_false, true_or, or_true, eq_self, and_true, true_and, List.all_cons, List.all_nil, List.any_cons, List.any_nil, id_eq, isN, List.map_cons, List.map_nil, List.length_cons, List.length_nil, List.getElem?_cons_zero, List.getElem?_cons_succ, List.set_cons_zero, List.set_cons_succ, decide_eq_true_eq, if_true, Bool.or_true, Bool.true_or, Bool.and_true, Bool.true_and, Bool.false_eq_true, if_false, Bool.not_true, Bool.not_false, Bool.or_false, Bool.false_or, Bool.and_false, Bool.false_and, BEq.rfl, e_sortK, k_sortK, e_lc2, k_lc2c, mkD1, e_dc, k_dc, e_dc0, e_stD, stD1, o_stD1f, o_stD1o, o_stD2, e_slk, lk1, e_elk, lke1, unlO_nx, unlO_bk, unlO_ct, unlO_rt, unl_nil, unl_cons, unl1_no, unl1_fz, unl1_ow, unl1_lk, e_items, items1, e_keysD, keysD1, e_en, k_enL, k_enT, k_enO, e_zp, k_zp, e_fnL, k_fnL, e_fnL0, e_fnC, e_fnC0, callC1, k_C, outC1, v_ixTA, v_ixLA, bind_some, boolsM, all_mapI, any_mapI, allT, e_app, app1, o_appf, o_appo, e_frz, frzo1, frzo2, tu, p_number, c, indep, pure?, List.length_cons, List.length_nil]
    · simp only [k_op1, k_op2, k_un, k_call, k_b, k_and, k_or, k_not, k_eand, k_eor, k_enot, k_if, k_c1, k_c2, k_c3, k_cons1, k_cons2, k_tup, k_lst, k_fn, k_fnS, k_fnK, k_isi, k_sl1, k_sl2, k_sl3, k_i, o_sx, o_ret, o_if, o_set, o_asg, o_par2, o_par3, o_stS, o_stT, o_for, k_seq, k_rg1, k_rg2, e_rg1, e_rg2, rg1_1, rg2_1, k_lc, k_lt, k_le, k_lc2, k_fnF, e_fnF, run1, e_seq, seq_nx, seq_rt, seq_ct, seq_bk, fin_nx, fin_rt, given_fz, given_ow, given_bw, e_var, e_op, e_un, e_call, e_c, lift1, e_asB, toB1, e_tand, e_tor, e_tnot, e_and, e_or, e_not, e_if, e_chain, chn1, e_nil, e_cons, e_tup, e_lst, e_fn, e_fnS, e_fnK, e_isi, isiR1, outR1, outS1, e_stG, e_sl, b_no, b_so, toI1, e_no, e_sx, e_ret, e_retN, e_sif, put_fz, put_ow, nxO1, e_set, asg_fz, asg_ow, e_asg, g_nm, g_nl, g_cn, obind1, g_tuT, g_tuL, e_par2, e_par3, stO1, e_stS, e_stT, bind1, ofR1, d_fz, d_ow, d_bw, frz_fz, frz_ow, frz_bw, nb_nil, nb_fz, nb_ow, nb_bw, v_add, v_sub, v_neg, v_lt, v_gt, v_le, v_ge, v_is, v_isNot, v_eqS, v_neS, v_eq, v_ne, v_eqB, v_neB, v_ixT, v_ixL, at0, at1, at2, at3, at4, at5, map1, v_lenL, v_lenT, v_abs, v_int, v_intB, v_max2, v_min2, v_max3, v_min3, v_tupL, v_tupT, v_lstL, v_lstT, k_int_none, k_int_bool, k_int_int, k_int_str, k_int_list, k_int_tuple, k_bool_none, k_bool_bool, k_bool_int, k_bool_str, k_bool_list, k_bool_tuple, k_str_none, k_str_bool, k_str_int, k_str_str, k_str_list, k_str_tuple, k_list_none, k_list_bool, k_list_int, k_list_str, k_list_list, k_list_tuple, k_tuple_none, k_tuple_bool, k_tuple_int, k_tuple_str, k_tuple_list, k_tuple_tuple, k_dict_none, k_dict_bool, k_dict_int, k_dict_str, k_dict_list, k_dict_tuple, Int.cast_ofNat_Int, Nat.reduceAdd, Nat.reduceLeDiff, e_lc, e_iseq, seqI_fl, seqI_ft, seqI_ol, seqI_ot, lc_step, lc_nil, lcS1, lcN1, val_fz, val_ow, t_true, wipe0, wipe1, mkL1, noX1, loop_step, loop_nil, loopS1, loop_nx, loop_ct, loop_bk, loop_rt, loop_exc, e_for, v_allD, v_anyD, bools_map, ints_map, bools0, bools1, ints0, ints1, size_eq, decide_true, decide_false, true_or, or_true, eq_self, and_true, true_and, List.all_cons, List.all_nil, List.any_cons, List.any_nil, id_eq, isN, List.map_cons, List.map_nil, List.length_cons, List.length_nil, List.getElem?_cons_zero, List.getElem?_cons_succ, List.set_cons_zero, List.set_cons_succ, decide_eq_true_eq, if_true, Bool.or_true, Bool.true_or, Bool.and_true, Bool.true_and, Bool.false_eq_true, if_false, Bool.not_true, Bool.not_false, Bool.or_false, Bool.false_or, Bool.and_false, Bool.false_and, BEq.rfl, e_sortK, k_sortK, e_lc2, k_lc2c, mkD1, e_dc, k_dc, e_dc0, e_stD, stD1, o_stD1f, o_stD1o, o_stD2, e_slk, lk1, e_elk, lke1, unlO_nx, unlO_bk, unlO_ct, unlO_rt, unl_nil, unl_cons, unl1_no, unl1_fz, unl1_ow, unl1_lk, e_items, items1, e_keysD, keysD1, e_en, k_enL, k_enT, k_enO, e_zp, k_zp, e_fnL, k_fnL, e_fnL0, e_fnC, e_fnC0, callC1, k_C, outC1, v_ixTA, v_ixLA, bind_some, boolsM, all_mapI, any_mapI, allT, e_app, app1, o_appf, o_appo, e_frz, frzo1, frzo2, tu, p_number, c, indep, pure?, List.length_cons, List.length_nil]
  rw [u_is_tile]
  unfold g_is_tile
  simp only [k_op1, k_op2, k_un, k_call, k_b, k_and, k_or, k_not, k_eand, k_eor, k_enot, k_if, k_c1, k_c2, k_c3, k_cons1, k_cons2, k_tup, k_lst, k_fn, k_fnS, k_fnK, k_isi, k_sl1, k_sl2, k_sl3, k_i, o_sx, o_ret, o_if, o_set, o_asg, o_par2, o_par3, o_stS, o_stT, o_for, k_seq, k_rg1, k_rg2, e_rg1, e_rg2, rg1_1, rg2_1, k_lc, k_lt, k_le, k_lc2, k_fnF, e_fnF, run1, e_seq, seq_nx, seq_rt, seq_ct, seq_bk, fin_nx, fin_rt, given_fz, given_ow, given_bw, e_var, e_op, e_un, e_call, e_c, lift1, e_asB, toB1, e_tand, e_tor, e_tnot, e_and, e_or, e_not, e_if, e_chain, chn1, e_nil, e_cons, e_tup, e_lst, e_fn, e_fnS, e_fnK, e_isi, isiR1, outR1, outS1, e_stG, e_sl, b_no, b_so, toI1, e_no, e_sx, e_ret, e_retN, e_sif, put_fz, put_ow, nxO1, e_set, asg_fz, asg_ow, e_asg, g_nm, g_nl, g_cn, obind1, g_tuT, g_tuL, e_par2, e_par3, stO1, e_stS, e_stT, bind1, ofR1, d_fz, d_ow, d_bw, frz_fz, frz_ow, frz_bw, nb_nil, nb_fz, nb_ow, nb_bw, v_add, v_sub, v_neg, v_lt, v_gt, v_le, v_ge, v_is, v_isNot, v_eqS, v_neS, v_eq, v_ne, v_eqB, v_neB, v_ixT, v_ixL, at0, at1, at2, at3, at4, at5, map1, v_lenL, v_lenT, v_abs, v_int, v_intB, v_max2, v_min2, v_max3, v_min3, v_tupL, v_tupT, v_lstL, v_lstT, k_int_none, k_int_bool, k_int_int, k_int_str, k_int_list, k_int_tuple, k_bool_none, k_bool_bool, k_bool_int, k_bool_str, k_bool_list, k_bool_tuple, k_str_none, k_str_bool, k_str_int, k_str_str, k_str_list, k_str_tuple, k_list_none, k_list_bool, k_list_int, k_list_str, k_list_list, k_list_tuple, k_tuple_none, k_tuple_bool, k_tuple_int, k_tuple_str, k_tuple_list, k_tuple_tuple, k_dict_none, k_dict_bool, k_dict_int, k_dict_str, k_dict_list, k_dict_tuple, Int.cast_ofNat_Int, Nat.reduceAdd, Nat.reduceLeDiff, e_lc, e_iseq, seqI_fl, seqI_ft, seqI_ol, seqI_ot, lc_step, lc_nil, lcS1, lcN1, val_fz, val_ow, t_true, wipe0, wipe1, mkL1, noX1, loop_step, loop_nil, loopS1, loop_nx, loop_ct, loop_bk, loop_rt, loop_exc, e_for, v_allD, v_anyD, bools_map, ints_map, bools0, bools1, ints0, ints1, size_eq, decide_true, decide_false, true_or, or_true, eq_self, and_true, true_and, List.all_cons, List.all_nil, List.any_cons, List.any_nil, id_eq, isN, List.map_cons, List.map_nil, List.length_cons, List.length_nil, List.getElem?_cons_zero, List.getElem?_cons_succ, List.set_cons_zero, List.set_cons_succ, decide_eq_true_eq, if_true, Bool.or_true, Bool.true_or, Bool.and_true, Bool.true_and, Bool.false_eq_true, if_false, Bool.not_true, Bool.not_false, Bool.or_false, Bool.false_or, Bool.and_false, Bool.false_and, BEq.rfl, e_sortK, k_sortK, e_lc2, k_lc2c, mkD1, e_dc, k_dc, e_dc0, e_stD, stD1, o_stD1f, o_stD1o, o_stD2, e_slk, lk1, e_elk, lke1, unlO_nx, unlO_bk, unlO_ct, unlO_rt, unl_nil, unl_cons, unl1_no, unl1_fz, unl1_ow, unl1_lk, e_items, items1, e_keysD, keysD1, e_en, k_enL, k_enT, k_enO, e_zp, k_zp, e_fnL, k_fnL, e_fnL0, e_fnC, e_fnC0, callC1, k_C, outC1, v_ixTA, v_ixLA, bind_some, boolsM, all_mapI, any_mapI, allT, e_app, app1, o_appf, o_appo, e_frz, frzo1, frzo2, List.length_map, h.len, h.row0, h.len0, key, indep, pure?]
theorem p_tiles (h : Fl F n m) (w : List Int) : S_tiles_of [] [.fz (flD F)] w = .ok (.fz (lotT (tiles n m)), w) := by
  rw [u_tiles_of]
  unfold g_tiles_of
  have r1 : rngOk (n : Int) = true := rng_nat (by have := h.n6; omega)
  have r2 : rngOk (m : Int) = true := rng_nat (by have := h.m6; omega)
  have hl := tiles_len n m
  have cap := h.cap
  simp only [k_op1, k_op2, k_un, k_call, k_b, k_and, k_or, k_not, k_eand, k_eor, k_enot, k_if, k_c1, k_c2, k_c3, k_cons1, k_cons2, k_tup, k_lst, k_fn, k_fnS, k_fnK, k_isi, k_sl1, k_sl2, k_sl3, k_i, o_sx, o_ret, o_if, o_set, o_asg, o_par2, o_par3, o_stS, o_stT, o_for, k_seq, k_rg1, k_rg2, e_rg1, e_rg2, rg1_1, rg2_1, k_lc, k_lt, k_le, k_lc2, k_fnF, e_fnF, run1, e_seq, seq_nx, seq_rt, seq_ct, seq_bk, fin_nx, fin_rt, given_fz, given_ow, given_bw, e_var, e_op, e_un, e_call, e_c, lift1, e_asB, toB1, e_tand, e_tor, e_tnot, e_and, e_or, e_not, e_if, e_chain, chn1, e_nil, e_cons, e_tup, e_lst, e_fn, e_fnS, e_fnK, e_isi, isiR1, outR1, outS1, e_stG, e_sl, b_no, b_so, toI1, e_no, e_sx, e_ret, e_retN, e_sif, put_fz, put_ow, nxO1, e_set, asg_fz, asg_ow, e_asg, g_nm, g_nl, g_cn, obind1, g_tuT, g_tuL, e_par2, e_par3, stO1, e_stS, e_stT, bind1, ofR1, d_fz, d_ow, d_bw, frz_fz, frz_ow, frz_bw, nb_nil, nb_fz, nb_ow, nb_bw, v_add, v_sub, v_neg, v_lt, v_gt, v_le, v_ge, v_is, v_isNot, v_eqS, v_neS, v_eq, v_ne, v_eqB, v_neB, v_ixT, v_ixL, at0, at1, at2, at3, at4, at5, map1, v_lenL, v_lenT, v_abs, v_int, v_intB, v_max2, v_min2, v_max3, v_min3, v_tupL, v_tupT, v_lstL, v_lstT, k_int_none, k_int_bool, k_int_int, k_int_str, k_int_list, k_int_tuple, k_bool_none, k_bool_bool, k_bool_int, k_bool_str, k_bool_list, k_bool_tuple, k_str_none, k_str_bool, k_str_int, k_str_str, k_str_list, k_str_tuple, k_list_none, k_list_bool, k_list_int, k_list_str, k_list_list, k_list_tuple, k_tuple_none, k_tuple_bool, k_tuple_int, k_tuple_str, k_tuple_list, k_tuple_tuple, k_dict_none, k_dict_bool, k_dict_int, k_dict_str, k_dict_list, k_dict_tuple, Int.cast_ofNat_Int, Nat.reduceAdd, Nat.reduceLeDiff, e_lc, e_iseq, seqI_fl, seqI_ft, seqI_ol, seqI_ot, lc_step, lc_nil, lcS1, lcN1, val_fz, val_ow, t_true, wipe0, wipe1, mkL1, noX1, loop_step, loop_nil, loopS1, loop_nx, loop_ct, loop_bk, loop_rt, loop_exc, e_for, v_allD, v_anyD, bools_map, ints_map, bools0, bools1, ints0, ints1, size_eq, decide_true, decide_false, true_or, or_true, eq_self, and_true, true_and, List.all_cons, List.all_nil, List.any_cons, List.any_nil, id_eq, isN, List.map_cons, List.map_nil, List.length_cons, List.length_nil, List.getElem?_cons_zero, List.getElem?_cons_succ, List.set_cons_zero, List.set_cons_succ, decide_eq_true_eq, if_true, Bool.or_true, Bool.true_or, Bool.and_true, Bool.true_and, Bool.false_eq_true, if_false, Bool.not_true, Bool.not_false, Bool.or_false, Bool.false_or, Bool.and_false, Bool.false_and, BEq.rfl, e_sortK, k_sortK, e_lc2, k_lc2c, mkD1, e_dc, k_dc, e_dc0, e_stD, stD1, o_stD1f, o_stD1o, o_stD2, e_slk, lk1, e_elk, lke1, unlO_nx, unlO_bk, unlO_ct, unlO_rt, unl_nil, unl_cons, unl1_no, unl1_fz, unl1_ow, unl1_lk, e_items, items1, e_keysD, keysD1, e_en, k_enL, k_enT, k_enO, e_zp, k_zp, e_fnL, k_fnL, e_fnL0, e_fnC, e_fnC0, callC1, k_C, outC1, v_ixTA, v_ixLA, bind_some, boolsM, all_mapI, any_mapI, allT, e_app, app1, o_appf, o_appo, e_frz, frzo1, frzo2, List.length_map, h.len, r1, toNat_nat, rngD_map]
  rw [lc2_mapE PyData.int PyData.int (fun _ => rngI 0 m) (fun i j => pr (i, j)) (fun _ _ => true) (ds1 := fun _ => [])]
  · have e : ((rngI 0 n).flatMap fun x => ((rngI 0 m).filter fun _ => true).map fun j => pr (x, j)) = (tiles n m).map pr := by
      unfold tiles
      rw [← flatMap_mapm]
      simp only [filterT, List.map_map]
      rfl
    rw [e]
    have c : n * m ≤ 16777216 := by omega
    simp only [k_op1, k_op2, k_un, k_call, k_b, k_and, k_or, k_not, k_eand, k_eor, k_enot, k_if, k_c1, k_c2, k_c3, k_cons1, k_cons2, k_tup, k_lst, k_fn, k_fnS, k_fnK, k_isi, k_sl1, k_sl2, k_sl3, k_i, o_sx, o_ret, o_if, o_set, o_asg, o_par2, o_par3, o_stS, o_stT, o_for, k_seq, k_rg1, k_rg2, e_rg1, e_rg2, rg1_1, rg2_1, k_lc, k_lt, k_le, k_lc2, k_fnF, e_fnF, run1, e_seq, seq_nx, seq_rt, seq_ct, seq_bk, fin_nx, fin_rt, given_fz, given_ow, given_bw, e_var, e_op, e_un, e_call, e_c, lift1, e_asB, toB1, e_tand, e_tor, e_tnot, e_and, e_or, e_not, e_if, e_chain, chn1, e_nil, e_cons, e_tup, e_lst, e_fn, e_fnS, e_fnK, e_isi, isiR1, outR1, outS1, e_stG, e_sl, b_no, b_so, toI1, e_no, e_sx, e_ret, e_retN, e_sif, put_fz, put_ow, nxO1, e_set, asg_fz, asg_ow, e_asg, g_nm, g_nl, g_cn, obind1, g_tuT, g_tuL, e_par2, e_par3, stO1, e_stS, e_stT, bind1, ofR1, d_fz, d_ow, d_bw, frz_fz, frz_ow, frz_bw, nb_nil, nb_fz, nb_ow, nb_bw, v_add, v_sub, v_neg, v_lt, v_gt, v_le, v_ge, v_is, v_isNot, v_eqS, v_neS, v_eq, v_ne, v_eqB, v_neB, v_ixT, v_ixL, at0, at1, at2, at3, at4, at5, map1, v_lenL, v_lenT, v_abs, v_int, v_intB, v_max2, v_min2, v_max3, v_min3, v_tupL, v_tupT, v_lstL, v_lstT, k_int_none, k_int_bool, k_int_int, k_int_str, k_int_list, k_int_tuple, k_bool_none, k_bool_bool, k_bool_int, k_bool_str, k_bool_list, k_bool_tuple, k_str_none, k_str_bool, k_str_int, k_str_str, k_str_list, k_str_tuple, k_list_none, k_list_bool, k_list_int, k_list_str, k_list_list, k_list_tuple, k_tuple_none, k_tuple_bool, k_tuple_int, k_tuple_str, k_tuple_list, k_tuple_tuple, k_dict_none, k_dict_bool, k_dict_int, k_dict_str, k_dict_list, k_dict_tuple, Int.cast_ofNat_Int, Nat.reduceAdd, Nat.reduceLeDiff, e_lc, e_iseq, seqI_fl, seqI_ft, seqI_ol, seqI_ot, lc_step, lc_nil, lcS1, lcN1, val_fz, val_ow, t_true, wipe0, wipe1, mkL1, noX1, loop_step, loop_nil, loopS1, loop_nx, loop_ct, loop_bk, loop_rt, loop_exc, e_for, v_allD, v_anyD, bools_map, ints_map, bools0, bools1, ints0, ints1, size_eq, decide_true, decide_false, true_or, or_true, eq_self, and_true, true_and, List.all_cons, List.all_nil, List.any_cons, List.any_nil, id_eq, isN, List.map_cons, List.map_nil, List.length_cons, List.length_nil, List.getElem?_cons_zero, List.getElem?_cons_succ, List.set_cons_zero, List.set_cons_succ, decide_eq_true_eq, if_true, Bool.or_true, Bool.true_or, Bool.and_true, Bool.true_and, Bool.false_eq_true, if_false, Bool.not_true, Bool.not_false, Bool.or_false, Bool.false_or, Bool.and_false, Bool.false_and, BEq.rfl, e_sortK, k_sortK, e_lc2, k_lc2c, mkD1, e_dc, k_dc, e_dc0, e_stD, stD1, o_stD1f, o_stD1o, o_stD2, e_slk, lk1, e_elk, lke1, unlO_nx, unlO_bk, unlO_ct, unlO_rt, unl_nil, unl_cons, unl1_no, unl1_fz, unl1_ow, unl1_lk, e_items, items1, e_keysD, keysD1, e_en, k_enL, k_enT, k_enO, e_zp, k_zp, e_fnL, k_fnL, e_fnL0, e_fnC, e_fnC0, callC1, k_C, outC1, v_ixTA, v_ixLA, bind_some, boolsM, all_mapI, any_mapI, allT, e_app, app1, o_appf, o_appo, e_frz, frzo1, frzo2, List.length_map, hl, c]
  · intro i hi
    refine ⟨_, rfl, rfl, ?_, fun y hy => ⟨_, rfl, rfl, fun _ => ⟨.fz (pr (i, y)), rfl, rfl⟩⟩⟩
    simp only [k_op1, k_op2, k_un, k_call, k_b, k_and, k_or, k_not, k_eand, k_eor, k_enot, k_if, k_c1, k_c2, k_c3, k_cons1, k_cons2, k_tup, k_lst, k_fn, k_fnS, k_fnK, k_isi, k_sl1, k_sl2, k_sl3, k_i, o_sx, o_ret, o_if, o_set, o_asg, o_par2, o_par3, o_stS, o_stT, o_for, k_seq, k_rg1, k_rg2, e_rg1, e_rg2, rg1_1, rg2_1, k_lc, k_lt, k_le, k_lc2, k_fnF, e_fnF, run1, e_seq, seq_nx, seq_rt, seq_ct, seq_bk, fin_nx, fin_rt, given_fz, given_ow, given_bw, e_var, e_op, e_un, e_call, e_c, lift1, e_asB, toB1, e_tand, e_tor, e_tnot, e_and, e_or, e_not, e_if, e_chain, chn1, e_nil, e_cons, e_tup, e_lst, e_fn, e_fnS, e_fnK, e_isi, isiR1, outR1, outS1, e_stG, e_sl, b_no, b_so, toI1, e_no, e_sx, e_ret, e_retN, e_sif, put_fz, put_ow, nxO1, e_set, asg_fz, asg_ow, e_asg, g_nm, g_nl, g_cn, obind1, g_tuT, g_tuL, e_par2, e_par3, stO1, e_stS, e_stT, bind1, ofR1, d_fz, d_ow, d_bw, frz_fz, frz_ow, frz_bw, nb_nil, nb_fz, nb_ow, nb_bw, v_add, v_sub, v_neg, v_lt, v_gt, v_le, v_ge, v_is, v_isNot, v_eqS, v_neS, v_eq, v_ne, v_eqB, v_neB, v_ixT, v_ixL, at0, at1, at2, at3, at4, at5, map1, v_lenL, v_lenT, v_abs, v_int, v_intB, v_max2, v_min2, v_max3, v_min3, v_tupL, v_tupT, v_lstL, v_lstT, k_int_none, k_int_bool, k_int_int, k_int_str, k_int_list, k_int_tuple, k_bool_none, k_bool_bool, k_bool_int, k_bool_str, k_bool_list, k_bool_tuple, k_str_none, k_str_bool, k_str_int, k_str_str, k_str_list, k_str_tuple, k_list_none, k_list_bool, k_list_int, k_list_str, k_list_list, k_list_tuple, k_tuple_none, k_tuple_bool, k_tuple_int, k_tuple_str, k_tuple_list, k_tuple_tuple, k_dict_none, k_dict_bool, k_dict_int, k_dict_str, k_dict_list, k_dict_tuple, Int.cast_ofNat_Int, Nat.reduceAdd, Nat.reduceLeDiff, e_lc, e_iseq, seqI_fl, seqI_ft, seqI_ol, seqI_ot, lc_step, lc_nil, lcS1, lcN1, val_fz, val_ow, t_true, wipe0, wipe1, mkL1, noX1, loop_step, loop_nil, loopS1, loop_nx, loop_ct, loop_bk, loop_rt, loop_exc, e_for, v_allD, v_anyD, bools_map, ints_map, bools0, bools1, ints0, ints1, size_eq, decide_true, decide_false, true_or, or_true, eq_self, and_true, true_and, List.all_cons, List.all_nil, List.any_cons, List.any_nil, id_eq, isN, List.map_cons, List.map_nil, List.length_cons, List.length_nil, List.getElem?_cons_zero, List.getElem?_cons_succ, List.set_cons_zero, List.set_cons_succ, decide_eq_true_eq, if_true, Bool.or_true, Bool.true_or, Bool.and_true, Bool.true_and, Bool.false_eq_true, if_false, Bool.not_true, Bool.not_false, Bool.or_false, Bool.false_or, Bool.and_false, Bool.false_and, BEq.rfl, e_sortK, k_sortK, e_lc2, k_lc2c, mkD1, e_dc, k_dc, e_dc0, e_stD, stD1, o_stD1f, o_stD1o, o_stD2, e_slk, lk1, e_elk, lke1, unlO_nx, unlO_bk, unlO_ct, unlO_rt, unl_nil, unl_cons, unl1_no, unl1_fz, unl1_ow, unl1_lk, e_items, items1, e_keysD, keysD1, e_en, k_enL, k_enT, k_enO, e_zp, k_zp, e_fnL, k_fnL, e_fnL0, e_fnC, e_fnC0, callC1, k_C, outC1, v_ixTA, v_ixLA, bind_some, boolsM, all_mapI, any_mapI, allT, e_app, app1, o_appf, o_appo, e_frz, frzo1, frzo2, List.length_map, h.row0, h.len0, r2, toNat_nat, rngD_map]
theorem p_need (h : Fl F n m) {t : Tl} (ht : t ∈ tiles n m) (w : List Int) : S_need_in [] [.fz (flD F), .fz (pr t)] w = .ok (.fz (.int (need F t)), w) := by
  rw [u_need_in]
  unfold g_need_in
  have hm := mem_tiles.mp ht
  have e1 := (h.rowAt hm.1.1 hm.1.2).2
  have e2 := (h.needAt ht).1
  simp only [k_op1, k_op2, k_un, k_call, k_b, k_and, k_or, k_not, k_eand, k_eor, k_enot, k_if, k_c1, k_c2, k_c3, k_cons1, k_cons2, k_tup, k_lst, k_fn, k_fnS, k_fnK, k_isi, k_sl1, k_sl2, k_sl3, k_i, o_sx, o_ret, o_if, o_set, o_asg, o_par2, o_par3, o_stS, o_stT, o_for, k_seq, k_rg1, k_rg2, e_rg1, e_rg2, rg1_1, rg2_1, k_lc, k_lt, k_le, k_lc2, k_fnF, e_fnF, run1, e_seq, seq_nx, seq_rt, seq_ct, seq_bk, fin_nx, fin_rt, given_fz, given_ow, given_bw, e_var, e_op, e_un, e_call, e_c, lift1, e_asB, toB1, e_tand, e_tor, e_tnot, e_and, e_or, e_not, e_if, e_chain, chn1, e_nil, e_cons, e_tup, e_lst, e_fn, e_fnS, e_fnK, e_isi, isiR1, outR1, outS1, e_stG, e_sl, b_no, b_so, toI1, e_no, e_sx, e_ret, e_retN, e_sif, put_fz, put_ow, nxO1, e_set, asg_fz, asg_ow, e_asg, g_nm, g_nl, g_cn, obind1, g_tuT, g_tuL, e_par2, e_par3, stO1, e_stS, e_stT, bind1, ofR1, d_fz, d_ow, d_bw, frz_fz, frz_ow, frz_bw, nb_nil, nb_fz, nb_ow, nb_bw, v_add, v_sub, v_neg, v_lt, v_gt, v_le, v_ge, v_is, v_isNot, v_eqS, v_neS, v_eq, v_ne, v_eqB, v_neB, v_ixT, v_ixL, at0, at1, at2, at3, at4, at5, map1, v_lenL, v_lenT, v_abs, v_int, v_intB, v_max2, v_min2, v_max3, v_min3, v_tupL, v_tupT, v_lstL, v_lstT, k_int_none, k_int_bool, k_int_int, k_int_str, k_int_list, k_int_tuple, k_bool_none, k_bool_bool, k_bool_int, k_bool_str, k_bool_list, k_bool_tuple, k_str_none, k_str_bool, k_str_int, k_str_str, k_str_list, k_str_tuple, k_list_none, k_list_bool, k_list_int, k_list_str, k_list_list, k_list_tuple, k_tuple_none, k_tuple_bool, k_tuple_int, k_tuple_str, k_tuple_list, k_tuple_tuple, k_dict_none, k_dict_bool, k_dict_int, k_dict_str, k_dict_list, k_dict_tuple, Int.cast_ofNat_Int, Nat.reduceAdd, Nat.reduceLeDiff, e_lc, e_iseq, seqI_fl, seqI_ft, seqI_ol, seqI_ot, lc_step, lc_nil, lcS1, lcN1, val_fz, val_ow, t_true, wipe0, wipe1, mkL1, noX1, loop_step, loop_nil, loopS1, loop_nx, loop_ct, loop_bk, loop_rt, loop_exc, e_for, v_allD, v_anyD, bools_map, ints_map, bools0, bools1, ints0, ints1, size_eq, decide_true, decide_false, true_or, or_true, eq_self, and_true, true_and, List.all_cons, List.all_nil, List.any_cons, List.any_nil, id_eq, isN, List.map_cons, List.map_nil, List.length_cons, List.length_nil, List.getElem?_cons_zero, List.getElem?_cons_succ, List.set_cons_zero, List.set_cons_succ, decide_eq_true_eq, if_true, Bool.or_true, Bool.true_or, Bool.and_true, Bool.true_and, Bool.false_eq_true, if_false, Bool.not_true, Bool.not_false, Bool.or_false, Bool.false_or, Bool.and_false, Bool.false_and, BEq.rfl, e_sortK, k_sortK, e_lc2, k_lc2c, mkD1, e_dc, k_dc, e_dc0, e_stD, stD1, o_stD1f, o_stD1o, o_stD2, e_slk, lk1, e_elk, lke1, unlO_nx, unlO_bk, unlO_ct, unlO_rt, unl_nil, unl_cons, unl1_no, unl1_fz, unl1_ow, unl1_lk, e_items, items1, e_keysD, keysD1, e_en, k_enL, k_enT, k_enO, e_zp, k_zp, e_fnL, k_fnL, e_fnL0, e_fnC, e_fnC0, callC1, k_C, outC1, v_ixTA, v_ixLA, bind_some, boolsM, all_mapI, any_mapI, allT, e_app, app1, o_appf, o_appo, e_frz, frzo1, frzo2, e1, e2]
theorem nb_filter (h : Fl F n m) {ρ : DEnv} {w : List Int} {b : Gx} {t : Tx} {e : Ex} {x : Tl} (hh : ∀ u ∈ nbr x, ∃ ρ', b (pr u) ρ = some ρ' ∧ t ρ' w = .ok (inB n m u, w) ∧ (inB n m u = true → ∃ r, e ρ' w = .ok (r, w) ∧ valD r = some (pr u))) : lcL b t e ((nbr x).map pr) ρ w = .ok ((nb n m x).map pr, w) :=
  lc_filterE pr (inB n m) pr hh
theorem p_beside (h : Fl F n m) (t : Tl) (w : List Int) : S_beside_of [] [.fz (flD F), .fz (pr t)] w = .ok (.ow (lotL (nb n m t)), w) := by
  rw [u_beside_of]
  unfold g_beside_of
  have c : (nb n m t).length ≤ 16777216 := by have := nb_len n m t; omega
  simp only [k_op1, k_op2, k_un, k_call, k_b, k_and, k_or, k_not, k_eand, k_eor, k_enot, k_if, k_c1, k_c2, k_c3, k_cons1, k_cons2, k_tup, k_lst, k_fn, k_fnS, k_fnK, k_isi, k_sl1, k_sl2, k_sl3, k_i, o_sx, o_ret, o_if, o_set, o_asg, o_par2, o_par3, o_stS, o_stT, o_for, k_seq, k_rg1, k_rg2, e_rg1, e_rg2, rg1_1, rg2_1, k_lc, k_lt, k_le, k_lc2, k_fnF, e_fnF, run1, e_seq, seq_nx, seq_rt, seq_ct, seq_bk, fin_nx, fin_rt, given_fz, given_ow, given_bw, e_var, e_op, e_un, e_call, e_c, lift1, e_asB, toB1, e_tand, e_tor, e_tnot, e_and, e_or, e_not, e_if, e_chain, chn1, e_nil, e_cons, e_tup, e_lst, e_fn, e_fnS, e_fnK, e_isi, isiR1, outR1, outS1, e_stG, e_sl, b_no, b_so, toI1, e_no, e_sx, e_ret, e_retN, e_sif, put_fz, put_ow, nxO1, e_set, asg_fz, asg_ow, e_asg, g_nm, g_nl, g_cn, obind1, g_tuT, g_tuL, e_par2, e_par3, stO1, e_stS, e_stT, bind1, ofR1, d_fz, d_ow, d_bw, frz_fz, frz_ow, frz_bw, nb_nil, nb_fz, nb_ow, nb_bw, v_add, v_sub, v_neg, v_lt, v_gt, v_le, v_ge, v_is, v_isNot, v_eqS, v_neS, v_eq, v_ne, v_eqB, v_neB, v_ixT, v_ixL, at0, at1, at2, at3, at4, at5, map1, v_lenL, v_lenT, v_abs, v_int, v_intB, v_max2, v_min2, v_max3, v_min3, v_tupL, v_tupT, v_lstL, v_lstT, k_int_none, k_int_bool, k_int_int, k_int_str, k_int_list, k_int_tuple, k_bool_none, k_bool_bool, k_bool_int, k_bool_str, k_bool_list, k_bool_tuple, k_str_none, k_str_bool, k_str_int, k_str_str, k_str_list, k_str_tuple, k_list_none, k_list_bool, k_list_int, k_list_str, k_list_list, k_list_tuple, k_tuple_none, k_tuple_bool, k_tuple_int, k_tuple_str, k_tuple_list, k_tuple_tuple, k_dict_none, k_dict_bool, k_dict_int, k_dict_str, k_dict_list, k_dict_tuple, Int.cast_ofNat_Int, Nat.reduceAdd, Nat.reduceLeDiff, e_lc, e_iseq, seqI_fl, seqI_ft, seqI_ol, seqI_ot, lcS1, lcN1, val_fz, val_ow, t_true, wipe0, wipe1, mkL1, noX1, loopS1, loop_nx, loop_ct, loop_bk, loop_rt, loop_exc, e_for, v_allD, v_anyD, bools_map, ints_map, bools0, bools1, ints0, ints1, size_eq, decide_true, decide_false, true_or, or_true, eq_self, and_true, true_and, List.all_cons, List.all_nil, List.any_cons, List.any_nil, id_eq, isN, List.map_cons, List.map_nil, List.length_cons, List.length_nil, List.getElem?_cons_zero, List.getElem?_cons_succ, List.set_cons_zero, List.set_cons_succ, decide_eq_true_eq, if_true, Bool.or_true, Bool.true_or, Bool.and_true, Bool.true_and, Bool.false_eq_true, if_false, Bool.not_true, Bool.not_false, Bool.or_false, Bool.false_or, Bool.and_false, Bool.false_and, BEq.rfl, e_sortK, k_sortK, e_lc2, k_lc2c, mkD1, e_dc, k_dc, e_dc0, e_stD, stD1, o_stD1f, o_stD1o, o_stD2, e_slk, lk1, e_elk, lke1, unlO_nx, unlO_bk, unlO_ct, unlO_rt, unl_nil, unl_cons, unl1_no, unl1_fz, unl1_ow, unl1_lk, e_items, items1, e_keysD, keysD1, e_en, k_enL, k_enT, k_enO, e_zp, k_zp, e_fnL, k_fnL, e_fnL0, e_fnC, e_fnC0, callC1, k_C, outC1, v_ixTA, v_ixLA, bind_some, boolsM, all_mapI, any_mapI, allT, e_app, app1, o_appf, o_appo, e_frz, frzo1, frzo2]
  have e : ([PyData.tuple [.int (t.1 - 1), .int t.2], .tuple [.int t.1, .int (t.2 - 1)], .tuple [.int t.1, .int (t.2 + 1)], .tuple [.int (t.1 + 1), .int t.2]] : List D) = (nbr t).map pr := rfl
  rw [e, nb_filter h]
  · simp only [k_op1, k_op2, k_un, k_call, k_b, k_and, k_or, k_not, k_eand, k_eor, k_enot, k_if, k_c1, k_c2, k_c3, k_cons1, k_cons2, k_tup, k_lst, k_fn, k_fnS, k_fnK, k_isi, k_sl1, k_sl2, k_sl3, k_i, o_sx, o_ret, o_if, o_set, o_asg, o_par2, o_par3, o_stS, o_stT, o_for, k_seq, k_rg1, k_rg2, e_rg1, e_rg2, rg1_1, rg2_1, k_lc, k_lt, k_le, k_lc2, k_fnF, e_fnF, run1, e_seq, seq_nx, seq_rt, seq_ct, seq_bk, fin_nx, fin_rt, given_fz, given_ow, given_bw, e_var, e_op, e_un, e_call, e_c, lift1, e_asB, toB1, e_tand, e_tor, e_tnot, e_and, e_or, e_not, e_if, e_chain, chn1, e_nil, e_cons, e_tup, e_lst, e_fn, e_fnS, e_fnK, e_isi, isiR1, outR1, outS1, e_stG, e_sl, b_no, b_so, toI1, e_no, e_sx, e_ret, e_retN, e_sif, put_fz, put_ow, nxO1, e_set, asg_fz, asg_ow, e_asg, g_nm, g_nl, g_cn, obind1, g_tuT, g_tuL, e_par2, e_par3, stO1, e_stS, e_stT, bind1, ofR1, d_fz, d_ow, d_bw, frz_fz, frz_ow, frz_bw, nb_nil, nb_fz, nb_ow, nb_bw, v_add, v_sub, v_neg, v_lt, v_gt, v_le, v_ge, v_is, v_isNot, v_eqS, v_neS, v_eq, v_ne, v_eqB, v_neB, v_ixT, v_ixL, at0, at1, at2, at3, at4, at5, map1, v_lenL, v_lenT, v_abs, v_int, v_intB, v_max2, v_min2, v_max3, v_min3, v_tupL, v_tupT, v_lstL, v_lstT, k_int_none, k_int_bool, k_int_int, k_int_str, k_int_list, k_int_tuple, k_bool_none, k_bool_bool, k_bool_int, k_bool_str, k_bool_list, k_bool_tuple, k_str_none, k_str_bool, k_str_int, k_str_str, k_str_list, k_str_tuple, k_list_none, k_list_bool, k_list_int, k_list_str, k_list_list, k_list_tuple, k_tuple_none, k_tuple_bool, k_tuple_int, k_tuple_str, k_tuple_list, k_tuple_tuple, k_dict_none, k_dict_bool, k_dict_int, k_dict_str, k_dict_list, k_dict_tuple, Int.cast_ofNat_Int, Nat.reduceAdd, Nat.reduceLeDiff, e_lc, e_iseq, seqI_fl, seqI_ft, seqI_ol, seqI_ot, lc_step, lc_nil, lcS1, lcN1, val_fz, val_ow, t_true, wipe0, wipe1, mkL1, noX1, loop_step, loop_nil, loopS1, loop_nx, loop_ct, loop_bk, loop_rt, loop_exc, e_for, v_allD, v_anyD, bools_map, ints_map, bools0, bools1, ints0, ints1, size_eq, decide_true, decide_false, true_or, or_true, eq_self, and_true, true_and, List.all_cons, List.all_nil, List.any_cons, List.any_nil, id_eq, isN, List.map_cons, List.map_nil, List.length_cons, List.length_nil, List.getElem?_cons_zero, List.getElem?_cons_succ, List.set_cons_zero, List.set_cons_succ, decide_eq_true_eq, if_true, Bool.or_true, Bool.true_or, Bool.and_true, Bool.true_and, Bool.false_eq_true, if_false, Bool.not_true, Bool.not_false, Bool.or_false, Bool.false_or, Bool.and_false, Bool.false_and, BEq.rfl, e_sortK, k_sortK, e_lc2, k_lc2c, mkD1, e_dc, k_dc, e_dc0, e_stD, stD1, o_stD1f, o_stD1o, o_stD2, e_slk, lk1, e_elk, lke1, unlO_nx, unlO_bk, unlO_ct, unlO_rt, unl_nil, unl_cons, unl1_no, unl1_fz, unl1_ow, unl1_lk, e_items, items1, e_keysD, keysD1, e_en, k_enL, k_enT, k_enO, e_zp, k_zp, e_fnL, k_fnL, e_fnL0, e_fnC, e_fnC0, callC1, k_C, outC1, v_ixTA, v_ixLA, bind_some, boolsM, all_mapI, any_mapI, allT, e_app, app1, o_appf, o_appo, e_frz, frzo1, frzo2, List.length_map, c]
  · intro u _
    refine ⟨_, rfl, ?_, fun _ => ⟨.fz (pr u), rfl, rfl⟩⟩
    simp only [k_op1, k_op2, k_un, k_call, k_b, k_and, k_or, k_not, k_eand, k_eor, k_enot, k_if, k_c1, k_c2, k_c3, k_cons1, k_cons2, k_tup, k_lst, k_fn, k_fnS, k_fnK, k_isi, k_sl1, k_sl2, k_sl3, k_i, o_sx, o_ret, o_if, o_set, o_asg, o_par2, o_par3, o_stS, o_stT, o_for, k_seq, k_rg1, k_rg2, e_rg1, e_rg2, rg1_1, rg2_1, k_lc, k_lt, k_le, k_lc2, k_fnF, e_fnF, run1, e_seq, seq_nx, seq_rt, seq_ct, seq_bk, fin_nx, fin_rt, given_fz, given_ow, given_bw, e_var, e_op, e_un, e_call, e_c, lift1, e_asB, toB1, e_tand, e_tor, e_tnot, e_and, e_or, e_not, e_if, e_chain, chn1, e_nil, e_cons, e_tup, e_lst, e_fn, e_fnS, e_fnK, e_isi, isiR1, outR1, outS1, e_stG, e_sl, b_no, b_so, toI1, e_no, e_sx, e_ret, e_retN, e_sif, put_fz, put_ow, nxO1, e_set, asg_fz, asg_ow, e_asg, g_nm, g_nl, g_cn, obind1, g_tuT, g_tuL, e_par2, e_par3, stO1, e_stS, e_stT, bind1, ofR1, d_fz, d_ow, d_bw, frz_fz, frz_ow, frz_bw, nb_nil, nb_fz, nb_ow, nb_bw, v_add, v_sub, v_neg, v_lt, v_gt, v_le, v_ge, v_is, v_isNot, v_eqS, v_neS, v_eq, v_ne, v_eqB, v_neB, v_ixT, v_ixL, at0, at1, at2, at3, at4, at5, map1, v_lenL, v_lenT, v_abs, v_int, v_intB, v_max2, v_min2, v_max3, v_min3, v_tupL, v_tupT, v_lstL, v_lstT, k_int_none, k_int_bool, k_int_int, k_int_str, k_int_list, k_int_tuple, k_bool_none, k_bool_bool, k_bool_int, k_bool_str, k_bool_list, k_bool_tuple, k_str_none, k_str_bool, k_str_int, k_str_str, k_str_list, k_str_tuple, k_list_none, k_list_bool, k_list_int, k_list_str, k_list_list, k_list_tuple, k_tuple_none, k_tuple_bool, k_tuple_int, k_tuple_str, k_tuple_list, k_tuple_tuple, k_dict_none, k_dict_bool, k_dict_int, k_dict_str, k_dict_list, k_dict_tuple, Int.cast_ofNat_Int, Nat.reduceAdd, Nat.reduceLeDiff, e_lc, e_iseq, seqI_fl, seqI_ft, seqI_ol, seqI_ot, lc_step, lc_nil, lcS1, lcN1, val_fz, val_ow, t_true, wipe0, wipe1, mkL1, noX1, loop_step, loop_nil, loopS1, loop_nx, loop_ct, loop_bk, loop_rt, loop_exc, e_for, v_allD, v_anyD, bools_map, ints_map, bools0, bools1, ints0, ints1, size_eq, decide_true, decide_false, true_or, or_true, eq_self, and_true, true_and, List.all_cons, List.all_nil, List.any_cons, List.any_nil, id_eq, isN, List.map_cons, List.map_nil, List.length_cons, List.length_nil, List.getElem?_cons_zero, List.getElem?_cons_succ, List.set_cons_zero, List.set_cons_succ, decide_eq_true_eq, if_true, Bool.or_true, Bool.true_or, Bool.and_true, Bool.true_and, Bool.false_eq_true, if_false, Bool.not_true, Bool.not_false, Bool.or_false, Bool.false_or, Bool.and_false, Bool.false_and, BEq.rfl, e_sortK, k_sortK, e_lc2, k_lc2c, mkD1, e_dc, k_dc, e_dc0, e_stD, stD1, o_stD1f, o_stD1o, o_stD2, e_slk, lk1, e_elk, lke1, unlO_nx, unlO_bk, unlO_ct, unlO_rt, unl_nil, unl_cons, unl1_no, unl1_fz, unl1_ow, unl1_lk, e_items, items1, e_keysD, keysD1, e_en, k_enL, k_enT, k_enO, e_zp, k_zp, e_fnL, k_fnL, e_fnL0, e_fnC, e_fnC0, callC1, k_C, outC1, v_ixTA, v_ixLA, bind_some, boolsM, all_mapI, any_mapI, allT, e_app, app1, o_appf, o_appo, e_frz, frzo1, frzo2, p_tile h, indep, pure?]
theorem p_web (h : Fl F n m) (w : List Int) : S_web_of [] [.fz (flD F)] w = .ok (.ow (.dict (web F n m)), w) := by
  rw [u_web_of]
  unfold g_web_of
  simp only [k_op1, k_op2, k_un, k_call, k_b, k_and, k_or, k_not, k_eand, k_eor, k_enot, k_if, k_c1, k_c2, k_c3, k_cons1, k_cons2, k_tup, k_lst, k_fn, k_fnS, k_fnK, k_isi, k_sl1, k_sl2, k_sl3, k_i, o_sx, o_ret, o_if, o_set, o_asg, o_par2, o_par3, o_stS, o_stT, o_for, k_seq, k_rg1, k_rg2, e_rg1, e_rg2, rg1_1, rg2_1, k_lc, k_lt, k_le, k_lc2, k_fnF, e_fnF, run1, e_seq, seq_nx, seq_rt, seq_ct, seq_bk, fin_nx, fin_rt, given_fz, given_ow, given_bw, e_var, e_op, e_un, e_call, e_c, lift1, e_asB, toB1, e_tand, e_tor, e_tnot, e_and, e_or, e_not, e_if, e_chain, chn1, e_nil, e_cons, e_tup, e_lst, e_fn, e_fnS, e_fnK, e_isi, isiR1, outR1, outS1, e_stG, e_sl, b_no, b_so, toI1, e_no, e_sx, e_ret, e_retN, e_sif, put_fz, put_ow, nxO1, e_set, asg_fz, asg_ow, e_asg, g_nm, g_nl, g_cn, obind1, g_tuT, g_tuL, e_par2, e_par3, stO1, e_stS, e_stT, bind1, ofR1, d_fz, d_ow, d_bw, frz_fz, frz_ow, frz_bw, nb_nil, nb_fz, nb_ow, nb_bw, v_add, v_sub, v_neg, v_lt, v_gt, v_le, v_ge, v_is, v_isNot, v_eqS, v_neS, v_eq, v_ne, v_eqB, v_neB, v_ixT, v_ixL, at0, at1, at2, at3, at4, at5, map1, v_lenL, v_lenT, v_abs, v_int, v_intB, v_max2, v_min2, v_max3, v_min3, v_tupL, v_tupT, v_lstL, v_lstT, k_int_none, k_int_bool, k_int_int, k_int_str, k_int_list, k_int_tuple, k_bool_none, k_bool_bool, k_bool_int, k_bool_str, k_bool_list, k_bool_tuple, k_str_none, k_str_bool, k_str_int, k_str_str, k_str_list, k_str_tuple, k_list_none, k_list_bool, k_list_int, k_list_str, k_list_list, k_list_tuple, k_tuple_none, k_tuple_bool, k_tuple_int, k_tuple_str, k_tuple_list, k_tuple_tuple, k_dict_none, k_dict_bool, k_dict_int, k_dict_str, k_dict_list, k_dict_tuple, Int.cast_ofNat_Int, Nat.reduceAdd, Nat.reduceLeDiff, e_lc, e_iseq, seqI_fl, seqI_ft, seqI_ol, seqI_ot, lc_step, lc_nil, lcS1, lcN1, val_fz, val_ow, t_true, wipe0, wipe1, mkL1, noX1, loop_step, loop_nil, loopS1, loop_nx, loop_ct, loop_bk, loop_rt, loop_exc, e_for, v_allD, v_anyD, bools_map, ints_map, bools0, bools1, ints0, ints1, size_eq, decide_true, decide_false, true_or, or_true, eq_self, and_true, true_and, List.all_cons, List.all_nil, List.any_cons, List.any_nil, id_eq, isN, List.map_cons, List.map_nil, List.length_cons, List.length_nil, List.getElem?_cons_zero, List.getElem?_cons_succ, List.set_cons_zero, List.set_cons_succ, decide_eq_true_eq, if_true, Bool.or_true, Bool.true_or, Bool.and_true, Bool.true_and, Bool.false_eq_true, if_false, Bool.not_true, Bool.not_false, Bool.or_false, Bool.false_or, Bool.and_false, Bool.false_and, BEq.rfl, e_sortK, k_sortK, e_lc2, k_lc2c, mkD1, e_dc, k_dc, e_dc0, e_stD, stD1, o_stD1f, o_stD1o, o_stD2, e_slk, lk1, e_elk, lke1, unlO_nx, unlO_bk, unlO_ct, unlO_rt, unl_nil, unl_cons, unl1_no, unl1_fz, unl1_ow, unl1_lk, e_items, items1, e_keysD, keysD1, e_en, k_enL, k_enT, k_enO, e_zp, k_zp, e_fnL, k_fnL, e_fnL0, e_fnC, e_fnC0, callC1, k_C, outC1, v_ixTA, v_ixLA, bind_some, boolsM, all_mapI, any_mapI, allT, e_app, app1, o_appf, o_appo, e_frz, frzo1, frzo2, p_tiles h, indep, pure?]
  have nd : ([] ++ (tiles n m).map id).Nodup := by simpa using up_nodup (tiles_up n m)
  have hl : ([] ++ (tiles n m).map id).length ≤ 1000000 := by simp [tiles_len]; have := h.cap; omega
  have d := dc_tiles (b := gNm 1) (t := tTrue) (ek := eVar 1) (ev := eTup (aCons (eFn 2 S_need_in (aCons (eVar 0) (aCons (eVar 1) aNil))) (aCons (eFn 2 S_beside_of (aCons (eVar 0) (aCons (eVar 1) aNil))) aNil))) (ρ := [some (.fz (flD F)), none]) (w := w) pr id (webF F n m) (xs := tiles n m) nd hl (fun t ht => ⟨[some (.fz (flD F)), some (.fz (pr t))], .fz (webF F n m t), rfl, rfl, rfl, by simp only [k_op1, k_op2, k_un, k_call, k_b, k_and, k_or, k_not, k_eand, k_eor, k_enot, k_if, k_c1, k_c2, k_c3, k_cons1, k_cons2, k_tup, k_lst, k_fn, k_fnS, k_fnK, k_isi, k_sl1, k_sl2, k_sl3, k_i, o_sx, o_ret, o_if, o_set, o_asg, o_par2, o_par3, o_stS, o_stT, o_for, k_seq, k_rg1, k_rg2, e_rg1, e_rg2, rg1_1, rg2_1, k_lc, k_lt, k_le, k_lc2, k_fnF, e_fnF, run1, e_seq, seq_nx, seq_rt, seq_ct, seq_bk, fin_nx, fin_rt, given_fz, given_ow, given_bw, e_var, e_op, e_un, e_call, e_c, lift1, e_asB, toB1, e_tand, e_tor, e_tnot, e_and, e_or, e_not, e_if, e_chain, chn1, e_nil, e_cons, e_tup, e_lst, e_fn, e_fnS, e_fnK, e_isi, isiR1, outR1, outS1, e_stG, e_sl, b_no, b_so, toI1, e_no, e_sx, e_ret, e_retN, e_sif, put_fz, put_ow, nxO1, e_set, asg_fz, asg_ow, e_asg, g_nm, g_nl, g_cn, obind1, g_tuT, g_tuL, e_par2, e_par3, stO1, e_stS, e_stT, bind1, ofR1, d_fz, d_ow, d_bw, frz_fz, frz_ow, frz_bw, nb_nil, nb_fz, nb_ow, nb_bw, v_add, v_sub, v_neg, v_lt, v_gt, v_le, v_ge, v_is, v_isNot, v_eqS, v_neS, v_eq, v_ne, v_eqB, v_neB, v_ixT, v_ixL, at0, at1, at2, at3, at4, at5, map1, v_lenL, v_lenT, v_abs, v_int, v_intB, v_max2, v_min2, v_max3, v_min3, v_tupL, v_tupT, v_lstL, v_lstT, k_int_none, k_int_bool, k_int_int, k_int_str, k_int_list, k_int_tuple, k_bool_none, k_bool_bool, k_bool_int, k_bool_str, k_bool_list, k_bool_tuple, k_str_none, k_str_bool, k_str_int, k_str_str, k_str_list, k_str_tuple, k_list_none, k_list_bool, k_list_int, k_list_str, k_list_list, k_list_tuple, k_tuple_none, k_tuple_bool, k_tuple_int, k_tuple_str, k_tuple_list, k_tuple_tuple, k_dict_none, k_dict_bool, k_dict_int, k_dict_str, k_dict_list, k_dict_tuple, Int.cast_ofNat_Int, Nat.reduceAdd, Nat.reduceLeDiff, e_lc, e_iseq, seqI_fl, seqI_ft, seqI_ol, seqI_ot, lc_step, lc_nil, lcS1, lcN1, val_fz, val_ow, t_true, wipe0, wipe1, mkL1, noX1, loop_step, loop_nil, loopS1, loop_nx, loop_ct, loop_bk, loop_rt, loop_exc, e_for, v_allD, v_anyD, bools_map, ints_map, bools0, bools1, ints0, ints1, size_eq, decide_true, decide_false, true_or, or_true, eq_self, and_true, true_and, List.all_cons, List.all_nil, List.any_cons, List.any_nil, id_eq, isN, List.map_cons, List.map_nil, List.length_cons, List.length_nil, List.getElem?_cons_zero, List.getElem?_cons_succ, List.set_cons_zero, List.set_cons_succ, decide_eq_true_eq, if_true, Bool.or_true, Bool.true_or, Bool.and_true, Bool.true_and, Bool.false_eq_true, if_false, Bool.not_true, Bool.not_false, Bool.or_false, Bool.false_or, Bool.and_false, Bool.false_and, BEq.rfl, e_sortK, k_sortK, e_lc2, k_lc2c, mkD1, e_dc, k_dc, e_dc0, e_stD, stD1, o_stD1f, o_stD1o, o_stD2, e_slk, lk1, e_elk, lke1, unlO_nx, unlO_bk, unlO_ct, unlO_rt, unl_nil, unl_cons, unl1_no, unl1_fz, unl1_ow, unl1_lk, e_items, items1, e_keysD, keysD1, e_en, k_enL, k_enT, k_enO, e_zp, k_zp, e_fnL, k_fnL, e_fnL0, e_fnC, e_fnC0, callC1, k_C, outC1, v_ixTA, v_ixLA, bind_some, boolsM, all_mapI, any_mapI, allT, e_app, app1, o_appf, o_appo, e_frz, frzo1, frzo2, p_need h ht, p_beside h, indep, pure?]; rfl, rfl⟩)
  rw [dct_nil] at d
  rw [d]
  simp only [k_op1, k_op2, k_un, k_call, k_b, k_and, k_or, k_not, k_eand, k_eor, k_enot, k_if, k_c1, k_c2, k_c3, k_cons1, k_cons2, k_tup, k_lst, k_fn, k_fnS, k_fnK, k_isi, k_sl1, k_sl2, k_sl3, k_i, o_sx, o_ret, o_if, o_set, o_asg, o_par2, o_par3, o_stS, o_stT, o_for, k_seq, k_rg1, k_rg2, e_rg1, e_rg2, rg1_1, rg2_1, k_lc, k_lt, k_le, k_lc2, k_fnF, e_fnF, run1, e_seq, seq_nx, seq_rt, seq_ct, seq_bk, fin_nx, fin_rt, given_fz, given_ow, given_bw, e_var, e_op, e_un, e_call, e_c, lift1, e_asB, toB1, e_tand, e_tor, e_tnot, e_and, e_or, e_not, e_if, e_chain, chn1, e_nil, e_cons, e_tup, e_lst, e_fn, e_fnS, e_fnK, e_isi, isiR1, outR1, outS1, e_stG, e_sl, b_no, b_so, toI1, e_no, e_sx, e_ret, e_retN, e_sif, put_fz, put_ow, nxO1, e_set, asg_fz, asg_ow, e_asg, g_nm, g_nl, g_cn, obind1, g_tuT, g_tuL, e_par2, e_par3, stO1, e_stS, e_stT, bind1, ofR1, d_fz, d_ow, d_bw, frz_fz, frz_ow, frz_bw, nb_nil, nb_fz, nb_ow, nb_bw, v_add, v_sub, v_neg, v_lt, v_gt, v_le, v_ge, v_is, v_isNot, v_eqS, v_neS, v_eq, v_ne, v_eqB, v_neB, v_ixT, v_ixL, at0, at1, at2, at3, at4, at5, map1, v_lenL, v_lenT, v_abs, v_int, v_intB, v_max2, v_min2, v_max3, v_min3, v_tupL, v_tupT, v_lstL, v_lstT, k_int_none, k_int_bool, k_int_int, k_int_str, k_int_list, k_int_tuple, k_bool_none, k_bool_bool, k_bool_int, k_bool_str, k_bool_list, k_bool_tuple, k_str_none, k_str_bool, k_str_int, k_str_str, k_str_list, k_str_tuple, k_list_none, k_list_bool, k_list_int, k_list_str, k_list_list, k_list_tuple, k_tuple_none, k_tuple_bool, k_tuple_int, k_tuple_str, k_tuple_list, k_tuple_tuple, k_dict_none, k_dict_bool, k_dict_int, k_dict_str, k_dict_list, k_dict_tuple, Int.cast_ofNat_Int, Nat.reduceAdd, Nat.reduceLeDiff, e_lc, e_iseq, seqI_fl, seqI_ft, seqI_ol, seqI_ot, lc_step, lc_nil, lcS1, lcN1, val_fz, val_ow, t_true, wipe0, wipe1, mkL1, noX1, loop_step, loop_nil, loopS1, loop_nx, loop_ct, loop_bk, loop_rt, loop_exc, e_for, v_allD, v_anyD, bools_map, ints_map, bools0, bools1, ints0, ints1, size_eq, decide_true, decide_false, true_or, or_true, eq_self, and_true, true_and, List.all_cons, List.all_nil, List.any_cons, List.any_nil, id_eq, isN, List.map_cons, List.map_nil, List.length_cons, List.length_nil, List.getElem?_cons_zero, List.getElem?_cons_succ, List.set_cons_zero, List.set_cons_succ, decide_eq_true_eq, if_true, Bool.or_true, Bool.true_or, Bool.and_true, Bool.true_and, Bool.false_eq_true, if_false, Bool.not_true, Bool.not_false, Bool.or_false, Bool.false_or, Bool.and_false, Bool.false_and, BEq.rfl, e_sortK, k_sortK, e_lc2, k_lc2c, mkD1, e_dc, k_dc, e_dc0, e_stD, stD1, o_stD1f, o_stD1o, o_stD2, e_slk, lk1, e_elk, lke1, unlO_nx, unlO_bk, unlO_ct, unlO_rt, unl_nil, unl_cons, unl1_no, unl1_fz, unl1_ow, unl1_lk, e_items, items1, e_keysD, keysD1, e_en, k_enL, k_enT, k_enO, e_zp, k_zp, e_fnL, k_fnL, e_fnL0, e_fnC, e_fnC0, callC1, k_C, outC1, v_ixTA, v_ixLA, bind_some, boolsM, all_mapI, any_mapI, allT, e_app, app1, o_appf, o_appo, e_frz, frzo1, frzo2, List.nil_append, List.map_id]
  rfl
theorem p_check_floor (h : Fl F n m) (w : List Int) : S_check_floor [] [.fz (flD F)] w = .ok (.fz .none, w) := by
  rw [u_check_floor]
  unfold g_check_floor
  simp only [k_op1, k_op2, k_un, k_call, k_b, k_and, k_or, k_not, k_eand, k_eor, k_enot, k_if, k_c1, k_c2, k_c3, k_cons1, k_cons2, k_tup, k_lst, k_fn, k_fnS, k_fnK, k_isi, k_sl1, k_sl2, k_sl3, k_i, o_sx, o_ret, o_if, o_set, o_asg, o_par2, o_par3, o_stS, o_stT, o_for, k_seq, k_rg1, k_rg2, e_rg1, e_rg2, rg1_1, rg2_1, k_lc, k_lt, k_le, k_lc2, k_fnF, e_fnF, run1, e_seq, seq_nx, seq_rt, seq_ct, seq_bk, fin_nx, fin_rt, given_fz, given_ow, given_bw, e_var, e_op, e_un, e_call, e_c, lift1, e_asB, toB1, e_tand, e_tor, e_tnot, e_and, e_or, e_not, e_if, e_chain, chn1, e_nil, e_cons, e_tup, e_lst, e_fn, e_fnS, e_fnK, e_isi, isiR1, outR1, outS1, e_stG, e_sl, b_no, b_so, toI1, e_no, e_sx, e_ret, e_retN, e_sif, put_fz, put_ow, nxO1, e_set, asg_fz, asg_ow, e_asg, g_nm, g_nl, g_cn, obind1, g_tuT, g_tuL, e_par2, e_par3, stO1, e_stS, e_stT, bind1, ofR1, d_fz, d_ow, d_bw, frz_fz, frz_ow, frz_bw, nb_nil, nb_fz, nb_ow, nb_bw, v_add, v_sub, v_neg, v_lt, v_gt, v_le, v_ge, v_is, v_isNot, v_eqS, v_neS, v_eq, v_ne, v_eqB, v_neB, v_ixT, v_ixL, at0, at1, at2, at3, at4, at5, map1, v_lenL, v_lenT, v_abs, v_int, v_intB, v_max2, v_min2, v_max3, v_min3, v_tupL, v_tupT, v_lstL, v_lstT, k_int_none, k_int_bool, k_int_int, k_int_str, k_int_list, k_int_tuple, k_bool_none, k_bool_bool, k_bool_int, k_bool_str, k_bool_list, k_bool_tuple, k_str_none, k_str_bool, k_str_int, k_str_str, k_str_list, k_str_tuple, k_list_none, k_list_bool, k_list_int, k_list_str, k_list_list, k_list_tuple, k_tuple_none, k_tuple_bool, k_tuple_int, k_tuple_str, k_tuple_list, k_tuple_tuple, k_dict_none, k_dict_bool, k_dict_int, k_dict_str, k_dict_list, k_dict_tuple, Int.cast_ofNat_Int, Nat.reduceAdd, Nat.reduceLeDiff, e_lc, e_iseq, seqI_fl, seqI_ft, seqI_ol, seqI_ot, lc_step, lc_nil, lcS1, lcN1, val_fz, val_ow, t_true, wipe0, wipe1, mkL1, noX1, loop_step, loop_nil, loopS1, loop_nx, loop_ct, loop_bk, loop_rt, loop_exc, e_for, v_allD, v_anyD, bools_map, ints_map, bools0, bools1, ints0, ints1, size_eq, decide_true, decide_false, true_or, or_true, eq_self, and_true, true_and, List.all_cons, List.all_nil, List.any_cons, List.any_nil, id_eq, isN, List.map_cons, List.map_nil, List.length_cons, List.length_nil, List.getElem?_cons_zero, List.getElem?_cons_succ, List.set_cons_zero, List.set_cons_succ, decide_eq_true_eq, if_true, Bool.or_true, Bool.true_or, Bool.and_true, Bool.true_and, Bool.false_eq_true, if_false, Bool.not_true, Bool.not_false, Bool.or_false, Bool.false_or, Bool.and_false, Bool.false_and, BEq.rfl, e_sortK, k_sortK, e_lc2, k_lc2c, mkD1, e_dc, k_dc, e_dc0, e_stD, stD1, o_stD1f, o_stD1o, o_stD2, e_slk, lk1, e_elk, lke1, unlO_nx, unlO_bk, unlO_ct, unlO_rt, unl_nil, unl_cons, unl1_no, unl1_fz, unl1_ow, unl1_lk, e_items, items1, e_keysD, keysD1, e_en, k_enL, k_enT, k_enO, e_zp, k_zp, e_fnL, k_fnL, e_fnL0, e_fnC, e_fnC0, callC1, k_C, outC1, v_ixTA, v_ixLA, bind_some, boolsM, all_mapI, any_mapI, allT, e_app, app1, o_appf, o_appo, e_frz, frzo1, frzo2, p_form h, indep, pure?]
theorem p_check_few (h : Fl F n m) (c : n * m ≤ 12) (w : List Int) : S_check_few [] [.fz (flD F)] w = .ok (.fz .none, w) := by
  rw [u_check_few]
  unfold g_check_few
  have cap : ¬ (12 : Int) < (n : Int) * m := by rw [← Int.natCast_mul]; omega
  have sm : smallB (m : Int) = true := small_nat (by have := h.m6; omega)
  simp only [k_op1, k_op2, k_un, k_call, k_b, k_and, k_or, k_not, k_eand, k_eor, k_enot, k_if, k_c1, k_c2, k_c3, k_cons1, k_cons2, k_tup, k_lst, k_fn, k_fnS, k_fnK, k_isi, k_sl1, k_sl2, k_sl3, k_i, o_sx, o_ret, o_if, o_set, o_asg, o_par2, o_par3, o_stS, o_stT, o_for, k_seq, k_rg1, k_rg2, e_rg1, e_rg2, rg1_1, rg2_1, k_lc, k_lt, k_le, k_lc2, k_fnF, e_fnF, run1, e_seq, seq_nx, seq_rt, seq_ct, seq_bk, fin_nx, fin_rt, given_fz, given_ow, given_bw, e_var, e_op, e_un, e_call, e_c, lift1, e_asB, toB1, e_tand, e_tor, e_tnot, e_and, e_or, e_not, e_if, e_chain, chn1, e_nil, e_cons, e_tup, e_lst, e_fn, e_fnS, e_fnK, e_isi, isiR1, outR1, outS1, e_stG, e_sl, b_no, b_so, toI1, e_no, e_sx, e_ret, e_retN, e_sif, put_fz, put_ow, nxO1, e_set, asg_fz, asg_ow, e_asg, g_nm, g_nl, g_cn, obind1, g_tuT, g_tuL, e_par2, e_par3, stO1, e_stS, e_stT, bind1, ofR1, d_fz, d_ow, d_bw, frz_fz, frz_ow, frz_bw, nb_nil, nb_fz, nb_ow, nb_bw, v_add, v_sub, v_neg, v_lt, v_gt, v_le, v_ge, v_is, v_isNot, v_eqS, v_neS, v_eq, v_ne, v_eqB, v_neB, v_ixT, v_ixL, at0, at1, at2, at3, at4, at5, map1, v_lenL, v_lenT, v_abs, v_int, v_intB, v_max2, v_min2, v_max3, v_min3, v_tupL, v_tupT, v_lstL, v_lstT, k_int_none, k_int_bool, k_int_int, k_int_str, k_int_list, k_int_tuple, k_bool_none, k_bool_bool, k_bool_int, k_bool_str, k_bool_list, k_bool_tuple, k_str_none, k_str_bool, k_str_int, k_str_str, k_str_list, k_str_tuple, k_list_none, k_list_bool, k_list_int, k_list_str, k_list_list, k_list_tuple, k_tuple_none, k_tuple_bool, k_tuple_int, k_tuple_str, k_tuple_list, k_tuple_tuple, k_dict_none, k_dict_bool, k_dict_int, k_dict_str, k_dict_list, k_dict_tuple, Int.cast_ofNat_Int, Nat.reduceAdd, Nat.reduceLeDiff, e_lc, e_iseq, seqI_fl, seqI_ft, seqI_ol, seqI_ot, lc_step, lc_nil, lcS1, lcN1, val_fz, val_ow, t_true, wipe0, wipe1, mkL1, noX1, loop_step, loop_nil, loopS1, loop_nx, loop_ct, loop_bk, loop_rt, loop_exc, e_for, v_allD, v_anyD, bools_map, ints_map, bools0, bools1, ints0, ints1, size_eq, decide_true, decide_false, true_or, or_true, eq_self, and_true, true_and, List.all_cons, List.all_nil, List.any_cons, List.any_nil, id_eq, isN, List.map_cons, List.map_nil, List.length_cons, List.length_nil, List.getElem?_cons_zero, List.getElem?_cons_succ, List.set_cons_zero, List.set_cons_succ, decide_eq_true_eq, if_true, Bool.or_true, Bool.true_or, Bool.and_true, Bool.true_and, Bool.false_eq_true, if_false, Bool.not_true, Bool.not_false, Bool.or_false, Bool.false_or, Bool.and_false, Bool.false_and, BEq.rfl, e_sortK, k_sortK, e_lc2, k_lc2c, mkD1, e_dc, k_dc, e_dc0, e_stD, stD1, o_stD1f, o_stD1o, o_stD2, e_slk, lk1, e_elk, lke1, unlO_nx, unlO_bk, unlO_ct, unlO_rt, unl_nil, unl_cons, unl1_no, unl1_fz, unl1_ow, unl1_lk, e_items, items1, e_keysD, keysD1, e_en, k_enL, k_enT, k_enO, e_zp, k_zp, e_fnL, k_fnL, e_fnL0, e_fnC, e_fnC0, callC1, k_C, outC1, v_ixTA, v_ixLA, bind_some, boolsM, all_mapI, any_mapI, allT, e_app, app1, o_appf, o_appo, e_frz, frzo1, frzo2, List.length_map, h.len, h.row0, h.len0, v_mul, sm, cap]
theorem p_size (h : Fl F n m) (w : List Int) : S_size_of [] [.fz (flD F)] w = .ok (.fz (pr ((n : Int), (m : Int))), w) := by
  rw [u_size_of]
  unfold g_size_of
  simp only [k_op1, k_op2, k_un, k_call, k_b, k_and, k_or, k_not, k_eand, k_eor, k_enot, k_if, k_c1, k_c2, k_c3, k_cons1, k_cons2, k_tup, k_lst, k_fn, k_fnS, k_fnK, k_isi, k_sl1, k_sl2, k_sl3, k_i, o_sx, o_ret, o_if, o_set, o_asg, o_par2, o_par3, o_stS, o_stT, o_for, k_seq, k_rg1, k_rg2, e_rg1, e_rg2, rg1_1, rg2_1, k_lc, k_lt, k_le, k_lc2, k_fnF, e_fnF, run1, e_seq, seq_nx, seq_rt, seq_ct, seq_bk, fin_nx, fin_rt, given_fz, given_ow, given_bw, e_var, e_op, e_un, e_call, e_c, lift1, e_asB, toB1, e_tand, e_tor, e_tnot, e_and, e_or, e_not, e_if, e_chain, chn1, e_nil, e_cons, e_tup, e_lst, e_fn, e_fnS, e_fnK, e_isi, isiR1, outR1, outS1, e_stG, e_sl, b_no, b_so, toI1, e_no, e_sx, e_ret, e_retN, e_sif, put_fz, put_ow, nxO1, e_set, asg_fz, asg_ow, e_asg, g_nm, g_nl, g_cn, obind1, g_tuT, g_tuL, e_par2, e_par3, stO1, e_stS, e_stT, bind1, ofR1, d_fz, d_ow, d_bw, frz_fz, frz_ow, frz_bw, nb_nil, nb_fz, nb_ow, nb_bw, v_add, v_sub, v_neg, v_lt, v_gt, v_le, v_ge, v_is, v_isNot, v_eqS, v_neS, v_eq, v_ne, v_eqB, v_neB, v_ixT, v_ixL, at0, at1, at2, at3, at4, at5, map1, v_lenL, v_lenT, v_abs, v_int, v_intB, v_max2, v_min2, v_max3, v_min3, v_tupL, v_tupT, v_lstL, v_lstT, k_int_none, k_int_bool, k_int_int, k_int_str, k_int_list, k_int_tuple, k_bool_none, k_bool_bool, k_bool_int, k_bool_str, k_bool_list, k_bool_tuple, k_str_none, k_str_bool, k_str_int, k_str_str, k_str_list, k_str_tuple, k_list_none, k_list_bool, k_list_int, k_list_str, k_list_list, k_list_tuple, k_tuple_none, k_tuple_bool, k_tuple_int, k_tuple_str, k_tuple_list, k_tuple_tuple, k_dict_none, k_dict_bool, k_dict_int, k_dict_str, k_dict_list, k_dict_tuple, Int.cast_ofNat_Int, Nat.reduceAdd, Nat.reduceLeDiff, e_lc, e_iseq, seqI_fl, seqI_ft, seqI_ol, seqI_ot, lc_step, lc_nil, lcS1, lcN1, val_fz, val_ow, t_true, wipe0, wipe1, mkL1, noX1, loop_step, loop_nil, loopS1, loop_nx, loop_ct, loop_bk, loop_rt, loop_exc, e_for, v_allD, v_anyD, bools_map, ints_map, bools0, bools1, ints0, ints1, size_eq, decide_true, decide_false, true_or, or_true, eq_self, and_true, true_and, List.all_cons, List.all_nil, List.any_cons, List.any_nil, id_eq, isN, List.map_cons, List.map_nil, List.length_cons, List.length_nil, List.getElem?_cons_zero, List.getElem?_cons_succ, List.set_cons_zero, List.set_cons_succ, decide_eq_true_eq, if_true, Bool.or_true, Bool.true_or, Bool.and_true, Bool.true_and, Bool.false_eq_true, if_false, Bool.not_true, Bool.not_false, Bool.or_false, Bool.false_or, Bool.and_false, Bool.false_and, BEq.rfl, e_sortK, k_sortK, e_lc2, k_lc2c, mkD1, e_dc, k_dc, e_dc0, e_stD, stD1, o_stD1f, o_stD1o, o_stD2, e_slk, lk1, e_elk, lke1, unlO_nx, unlO_bk, unlO_ct, unlO_rt, unl_nil, unl_cons, unl1_no, unl1_fz, unl1_ow, unl1_lk, e_items, items1, e_keysD, keysD1, e_en, k_enL, k_enT, k_enO, e_zp, k_zp, e_fnL, k_fnL, e_fnL0, e_fnC, e_fnC0, callC1, k_C, outC1, v_ixTA, v_ixLA, bind_some, boolsM, all_mapI, any_mapI, allT, e_app, app1, o_appf, o_appo, e_frz, frzo1, frzo2, List.length_map, h.len, h.row0, h.len0]
theorem p_by_many (L : List (List Tl)) (w : List Int) : S_by_many [] [.fz (.list (L.map lotT))] w = .ok (.ow (.list ((sortM L).map lotT)), w) := by
  rw [u_by_many]
  unfold g_by_many
  simp only [k_op1, k_op2, k_un, k_call, k_b, k_and, k_or, k_not, k_eand, k_eor, k_enot, k_if, k_c1, k_c2, k_c3, k_cons1, k_cons2, k_tup, k_lst, k_fn, k_fnS, k_fnK, k_isi, k_sl1, k_sl2, k_sl3, k_i, o_sx, o_ret, o_if, o_set, o_asg, o_par2, o_par3, o_stS, o_stT, o_for, k_seq, k_rg1, k_rg2, e_rg1, e_rg2, rg1_1, rg2_1, k_lc, k_lt, k_le, k_lc2, k_fnF, e_fnF, run1, e_seq, seq_nx, seq_rt, seq_ct, seq_bk, fin_nx, fin_rt, given_fz, given_ow, given_bw, e_var, e_op, e_un, e_call, e_c, lift1, e_asB, toB1, e_tand, e_tor, e_tnot, e_and, e_or, e_not, e_if, e_chain, chn1, e_nil, e_cons, e_tup, e_lst, e_fn, e_fnS, e_fnK, e_isi, isiR1, outR1, outS1, e_stG, e_sl, b_no, b_so, toI1, e_no, e_sx, e_ret, e_retN, e_sif, put_fz, put_ow, nxO1, e_set, asg_fz, asg_ow, e_asg, g_nm, g_nl, g_cn, obind1, g_tuT, g_tuL, e_par2, e_par3, stO1, e_stS, e_stT, bind1, ofR1, d_fz, d_ow, d_bw, frz_fz, frz_ow, frz_bw, nb_nil, nb_fz, nb_ow, nb_bw, v_add, v_sub, v_neg, v_lt, v_gt, v_le, v_ge, v_is, v_isNot, v_eqS, v_neS, v_eq, v_ne, v_eqB, v_neB, v_ixT, v_ixL, at0, at1, at2, at3, at4, at5, map1, v_lenL, v_lenT, v_abs, v_int, v_intB, v_max2, v_min2, v_max3, v_min3, v_tupL, v_tupT, v_lstL, v_lstT, k_int_none, k_int_bool, k_int_int, k_int_str, k_int_list, k_int_tuple, k_bool_none, k_bool_bool, k_bool_int, k_bool_str, k_bool_list, k_bool_tuple, k_str_none, k_str_bool, k_str_int, k_str_str, k_str_list, k_str_tuple, k_list_none, k_list_bool, k_list_int, k_list_str, k_list_list, k_list_tuple, k_tuple_none, k_tuple_bool, k_tuple_int, k_tuple_str, k_tuple_list, k_tuple_tuple, k_dict_none, k_dict_bool, k_dict_int, k_dict_str, k_dict_list, k_dict_tuple, Int.cast_ofNat_Int, Nat.reduceAdd, Nat.reduceLeDiff, e_lc, e_iseq, seqI_fl, seqI_ft, seqI_ol, seqI_ot, lc_step, lc_nil, lcS1, lcN1, val_fz, val_ow, t_true, wipe0, wipe1, mkL1, noX1, loop_step, loop_nil, loopS1, loop_nx, loop_ct, loop_bk, loop_rt, loop_exc, e_for, v_allD, v_anyD, bools_map, ints_map, bools0, bools1, ints0, ints1, size_eq, decide_true, decide_false, true_or, or_true, eq_self, and_true, true_and, List.all_cons, List.all_nil, List.any_cons, List.any_nil, id_eq, isN, List.map_cons, List.map_nil, List.length_cons, List.length_nil, List.getElem?_cons_zero, List.getElem?_cons_succ, List.set_cons_zero, List.set_cons_succ, decide_eq_true_eq, if_true, Bool.or_true, Bool.true_or, Bool.and_true, Bool.true_and, Bool.false_eq_true, if_false, Bool.not_true, Bool.not_false, Bool.or_false, Bool.false_or, Bool.and_false, Bool.false_and, BEq.rfl, e_sortK, k_sortK, e_lc2, k_lc2c, mkD1, e_dc, k_dc, e_dc0, e_stD, stD1, o_stD1f, o_stD1o, o_stD2, e_slk, lk1, e_elk, lke1, unlO_nx, unlO_bk, unlO_ct, unlO_rt, unl_nil, unl_cons, unl1_no, unl1_fz, unl1_ow, unl1_lk, e_items, items1, e_keysD, keysD1, e_en, k_enL, k_enT, k_enO, e_zp, k_zp, e_fnL, k_fnL, e_fnL0, e_fnC, e_fnC0, callC1, k_C, outC1, v_ixTA, v_ixLA, bind_some, boolsM, all_mapI, any_mapI, allT, e_app, app1, o_appf, o_appo, e_frz, frzo1, frzo2, v_sortM]
end
abbrev gGrow : Sx := sAsg (eOp fAdd (eVar 1) (eLc [3] (iSeq (eVar 1)) (gNm 3) (tTrue) (eOp fAdd (eVar 3) (eTup (aCons (eVar 2) (aNil)))))) (gNm 1)
theorem grow_loop (w : List Int) (e0 : Option EV) : ∀ (ts : List Tl) (L : List (List Tl)) (x2 : Option EV), L.length * 2 ^ ts.length ≤ 1000000 → (∀ l ∈ L, l.length + ts.length ≤ 1000) →
    ∃ x2', loopL (gNm 2) gGrow (ts.map pr) [e0, some (.fz (.list (L.map lotT))), x2, none] w = .nx [e0, some (.fz (.list ((ts.foldl grow L).map lotT))), x2', none] w
  | [], L, x2, _, _ => ⟨x2, rfl⟩
  | t :: ts, L, x2, h1, h2 => by
    have hp : L.length * 2 ^ (t :: ts).length = (L.length + L.length) * 2 ^ ts.length := by
      rw [List.length_cons, Nat.pow_succ, Nat.mul_comm (2 ^ ts.length) 2, ← Nat.mul_assoc, Nat.mul_two]
    have hb : L.length + L.length ≤ 1000000 := by
      rw [hp] at h1
      exact Nat.le_trans (Nat.le_mul_of_pos_right _ (Nat.pow_pos (by decide))) h1
    obtain ⟨x2', e⟩ := grow_loop w e0 ts (grow L t) (some (.fz (pr t))) (by
      unfold grow
      rw [List.length_append, List.length_map, ← hp]
      exact h1) (by
      intro l hl
      unfold grow at hl
      rcases List.mem_append.mp hl with h | h
      · have := h2 l h
        rw [List.length_cons] at this
        omega
      · obtain ⟨l', h', rfl⟩ := List.mem_map.mp h
        have := h2 l' h'
        rw [List.length_cons] at this
        rw [List.length_append, List.length_singleton]
        omega)
    refine ⟨x2', ?_⟩
    rw [List.map_cons]
    have step : gGrow [e0, some (.fz (.list (L.map lotT))), some (.fz (pr t)), none] w = .nx [e0, some (.fz (.list ((grow L t).map lotT))), some (.fz (pr t)), none] w := by
      simp only [k_op1, k_op2, k_un, k_call, k_b, k_and, k_or, k_not, k_eand, k_eor, k_enot, k_if, k_c1, k_c2, k_c3, k_cons1, k_cons2, k_tup, k_lst, k_fn, k_fnS, k_fnK, k_isi, k_sl1, k_sl2, k_sl3, k_i, o_sx, o_ret, o_if, o_set, o_asg, o_par2, o_par3, o_stS, o_stT, o_for, k_seq, k_rg1, k_rg2, e_rg1, e_rg2, rg1_1, rg2_1, k_lc, k_lt, k_le, k_lc2, k_fnF, e_fnF, run1, e_seq, seq_nx, seq_rt, seq_ct, seq_bk, fin_nx, fin_rt, given_fz, given_ow, given_bw, e_var, e_op, e_un, e_call, e_c, lift1, e_asB, toB1, e_tand, e_tor, e_tnot, e_and, e_or, e_not, e_if, e_chain, chn1, e_nil, e_cons, e_tup, e_lst, e_fn, e_fnS, e_fnK, e_isi, isiR1, outR1, outS1, e_stG, e_sl, b_no, b_so, toI1, e_no, e_sx, e_ret, e_retN, e_sif, put_fz, put_ow, nxO1, e_set, asg_fz, asg_ow, e_asg, g_nm, g_nl, g_cn, obind1, g_tuT, g_tuL, e_par2, e_par3, stO1, e_stS, e_stT, bind1, ofR1, d_fz, d_ow, d_bw, frz_fz, frz_ow, frz_bw, nb_nil, nb_fz, nb_ow, nb_bw, v_add, v_sub, v_neg, v_lt, v_gt, v_le, v_ge, v_is, v_isNot, v_eqS, v_neS, v_eq, v_ne, v_eqB, v_neB, v_ixT, v_ixL, at0, at1, at2, at3, at4, at5, map1, v_lenL, v_lenT, v_abs, v_int, v_intB, v_max2, v_min2, v_max3, v_min3, v_tupL, v_tupT, v_lstL, v_lstT, k_int_none, k_int_bool, k_int_int, k_int_str, k_int_list, k_int_tuple, k_bool_none, k_bool_bool, k_bool_int, k_bool_str, k_bool_list, k_bool_tuple, k_str_none, k_str_bool, k_str_int, k_str_str, k_str_list, k_str_tuple, k_list_none, k_list_bool, k_list_int, k_list_str, k_list_list, k_list_tuple, k_tuple_none, k_tuple_bool, k_tuple_int, k_tuple_str, k_tuple_list, k_tuple_tuple, k_dict_none, k_dict_bool, k_dict_int, k_dict_str, k_dict_list, k_dict_tuple, Int.cast_ofNat_Int, Nat.reduceAdd, Nat.reduceLeDiff, e_lc, e_iseq, seqI_fl, seqI_ft, seqI_ol, seqI_ot, lcS1, lcN1, val_fz, val_ow, t_true, wipe0, wipe1, mkL1, noX1, loopS1, loop_nx, loop_ct, loop_bk, loop_rt, loop_exc, e_for, v_allD, v_anyD, bools_map, ints_map, bools0, bools1, ints0, ints1, size_eq, decide_true, decide_false, true_or, or_true, eq_self, and_true, true_and, List.all_cons, List.all_nil, List.any_cons, List.any_nil, id_eq, isN, List.map_cons, List.map_nil, List.length_cons, List.length_nil, List.getElem?_cons_zero, List.getElem?_cons_succ, List.set_cons_zero, List.set_cons_succ, decide_eq_true_eq, if_true, Bool.or_true, Bool.true_or, Bool.and_true, Bool.true_and, Bool.false_eq_true, if_false, Bool.not_true, Bool.not_false, Bool.or_false, Bool.false_or, Bool.and_false, Bool.false_and, BEq.rfl, e_sortK, k_sortK, e_lc2, k_lc2c, mkD1, e_dc, k_dc, e_dc0, e_stD, stD1, o_stD1f, o_stD1o, o_stD2, e_slk, lk1, e_elk, lke1, unlO_nx, unlO_bk, unlO_ct, unlO_rt, unl_nil, unl_cons, unl1_no, unl1_fz, unl1_ow, unl1_lk, e_items, items1, e_keysD, keysD1, e_en, k_enL, k_enT, k_enO, e_zp, k_zp, e_fnL, k_fnL, e_fnL0, e_fnC, e_fnC0, callC1, k_C, outC1, v_ixTA, v_ixLA, bind_some, boolsM, all_mapI, any_mapI, allT, e_app, app1, o_appf, o_appo, e_frz, frzo1, frzo2]
      rw [lc_mapE lotT (fun l => lotT (l ++ [t]))]
      · have c1 : L.length ≤ 16777216 := by omega
        have c2 : (L.map lotT).length + (L.map fun l => lotT (l ++ [t])).length ≤ sizeLine := by
          rw [List.length_map, List.length_map, size_eq]
          omega
        simp only [k_op1, k_op2, k_un, k_call, k_b, k_and, k_or, k_not, k_eand, k_eor, k_enot, k_if, k_c1, k_c2, k_c3, k_cons1, k_cons2, k_tup, k_lst, k_fn, k_fnS, k_fnK, k_isi, k_sl1, k_sl2, k_sl3, k_i, o_sx, o_ret, o_if, o_set, o_asg, o_par2, o_par3, o_stS, o_stT, o_for, k_seq, k_rg1, k_rg2, e_rg1, e_rg2, rg1_1, rg2_1, k_lc, k_lt, k_le, k_lc2, k_fnF, e_fnF, run1, e_seq, seq_nx, seq_rt, seq_ct, seq_bk, fin_nx, fin_rt, given_fz, given_ow, given_bw, e_var, e_op, e_un, e_call, e_c, lift1, e_asB, toB1, e_tand, e_tor, e_tnot, e_and, e_or, e_not, e_if, e_chain, chn1, e_nil, e_cons, e_tup, e_lst, e_fn, e_fnS, e_fnK, e_isi, isiR1, outR1, outS1, e_stG, e_sl, b_no, b_so, toI1, e_no, e_sx, e_ret, e_retN, e_sif, put_fz, put_ow, nxO1, e_set, asg_fz, asg_ow, e_asg, g_nm, g_nl, g_cn, obind1, g_tuT, g_tuL, e_par2, e_par3, stO1, e_stS, e_stT, bind1, ofR1, d_fz, d_ow, d_bw, frz_fz, frz_ow, frz_bw, nb_nil, nb_fz, nb_ow, nb_bw, v_add, v_sub, v_neg, v_lt, v_gt, v_le, v_ge, v_is, v_isNot, v_eqS, v_neS, v_eq, v_ne, v_eqB, v_neB, v_ixT, v_ixL, at0, at1, at2, at3, at4, at5, map1, v_lenL, v_lenT, v_abs, v_int, v_intB, v_max2, v_min2, v_max3, v_min3, v_tupL, v_tupT, v_lstL, v_lstT, k_int_none, k_int_bool, k_int_int, k_int_str, k_int_list, k_int_tuple, k_bool_none, k_bool_bool, k_bool_int, k_bool_str, k_bool_list, k_bool_tuple, k_str_none, k_str_bool, k_str_int, k_str_str, k_str_list, k_str_tuple, k_list_none, k_list_bool, k_list_int, k_list_str, k_list_list, k_list_tuple, k_tuple_none, k_tuple_bool, k_tuple_int, k_tuple_str, k_tuple_list, k_tuple_tuple, k_dict_none, k_dict_bool, k_dict_int, k_dict_str, k_dict_list, k_dict_tuple, Int.cast_ofNat_Int, Nat.reduceAdd, Nat.reduceLeDiff, e_lc, e_iseq, seqI_fl, seqI_ft, seqI_ol, seqI_ot, lcS1, lcN1, val_fz, val_ow, t_true, wipe0, wipe1, mkL1, noX1, loopS1, loop_nx, loop_ct, loop_bk, loop_rt, loop_exc, e_for, v_allD, v_anyD, bools_map, ints_map, bools0, bools1, ints0, ints1, size_eq, decide_true, decide_false, true_or, or_true, eq_self, and_true, true_and, List.all_cons, List.all_nil, List.any_cons, List.any_nil, id_eq, isN, List.map_cons, List.map_nil, List.length_cons, List.length_nil, List.getElem?_cons_zero, List.getElem?_cons_succ, List.set_cons_zero, List.set_cons_succ, decide_eq_true_eq, if_true, Bool.or_true, Bool.true_or, Bool.and_true, Bool.true_and, Bool.false_eq_true, if_false, Bool.not_true, Bool.not_false, Bool.or_false, Bool.false_or, Bool.and_false, Bool.false_and, BEq.rfl, e_sortK, k_sortK, e_lc2, k_lc2c, mkD1, e_dc, k_dc, e_dc0, e_stD, stD1, o_stD1f, o_stD1o, o_stD2, e_slk, lk1, e_elk, lke1, unlO_nx, unlO_bk, unlO_ct, unlO_rt, unl_nil, unl_cons, unl1_no, unl1_fz, unl1_ow, unl1_lk, e_items, items1, e_keysD, keysD1, e_en, k_enL, k_enT, k_enO, e_zp, k_zp, e_fnL, k_fnL, e_fnL0, e_fnC, e_fnC0, callC1, k_C, outC1, v_ixTA, v_ixLA, bind_some, boolsM, all_mapI, any_mapI, allT, e_app, app1, o_appf, o_appo, e_frz, frzo1, frzo2, List.length_map, c1, v_addL c2]
        unfold grow
        rw [List.map_append, List.map_map]
        rfl
      · intro l hl
        refine ⟨_, .fz (lotT (l ++ [t])), rfl, rfl, ?_, rfl⟩
        have c3 : (l.map pr).length + [pr t].length ≤ sizeLine := by
          have := h2 l hl
          rw [List.length_cons] at this
          rw [List.length_map, List.length_singleton, size_eq]
          omega
        simp only [k_op1, k_op2, k_un, k_call, k_b, k_and, k_or, k_not, k_eand, k_eor, k_enot, k_if, k_c1, k_c2, k_c3, k_cons1, k_cons2, k_tup, k_lst, k_fn, k_fnS, k_fnK, k_isi, k_sl1, k_sl2, k_sl3, k_i, o_sx, o_ret, o_if, o_set, o_asg, o_par2, o_par3, o_stS, o_stT, o_for, k_seq, k_rg1, k_rg2, e_rg1, e_rg2, rg1_1, rg2_1, k_lc, k_lt, k_le, k_lc2, k_fnF, e_fnF, run1, e_seq, seq_nx, seq_rt, seq_ct, seq_bk, fin_nx, fin_rt, given_fz, given_ow, given_bw, e_var, e_op, e_un, e_call, e_c, lift1, e_asB, toB1, e_tand, e_tor, e_tnot, e_and, e_or, e_not, e_if, e_chain, chn1, e_nil, e_cons, e_tup, e_lst, e_fn, e_fnS, e_fnK, e_isi, isiR1, outR1, outS1, e_stG, e_sl, b_no, b_so, toI1, e_no, e_sx, e_ret, e_retN, e_sif, put_fz, put_ow, nxO1, e_set, asg_fz, asg_ow, e_asg, g_nm, g_nl, g_cn, obind1, g_tuT, g_tuL, e_par2, e_par3, stO1, e_stS, e_stT, bind1, ofR1, d_fz, d_ow, d_bw, frz_fz, frz_ow, frz_bw, nb_nil, nb_fz, nb_ow, nb_bw, v_add, v_sub, v_neg, v_lt, v_gt, v_le, v_ge, v_is, v_isNot, v_eqS, v_neS, v_eq, v_ne, v_eqB, v_neB, v_ixT, v_ixL, at0, at1, at2, at3, at4, at5, map1, v_lenL, v_lenT, v_abs, v_int, v_intB, v_max2, v_min2, v_max3, v_min3, v_tupL, v_tupT, v_lstL, v_lstT, k_int_none, k_int_bool, k_int_int, k_int_str, k_int_list, k_int_tuple, k_bool_none, k_bool_bool, k_bool_int, k_bool_str, k_bool_list, k_bool_tuple, k_str_none, k_str_bool, k_str_int, k_str_str, k_str_list, k_str_tuple, k_list_none, k_list_bool, k_list_int, k_list_str, k_list_list, k_list_tuple, k_tuple_none, k_tuple_bool, k_tuple_int, k_tuple_str, k_tuple_list, k_tuple_tuple, k_dict_none, k_dict_bool, k_dict_int, k_dict_str, k_dict_list, k_dict_tuple, Int.cast_ofNat_Int, Nat.reduceAdd, Nat.reduceLeDiff, e_lc, e_iseq, seqI_fl, seqI_ft, seqI_ol, seqI_ot, lcS1, lcN1, val_fz, val_ow, t_true, wipe0, wipe1, mkL1, noX1, loopS1, loop_nx, loop_ct, loop_bk, loop_rt, loop_exc, e_for, v_allD, v_anyD, bools_map, ints_map, bools0, bools1, ints0, ints1, size_eq, decide_true, decide_false, true_or, or_true, eq_self, and_true, true_and, List.all_cons, List.all_nil, List.any_cons, List.any_nil, id_eq, isN, List.map_cons, List.map_nil, List.length_cons, List.length_nil, List.getElem?_cons_zero, List.getElem?_cons_succ, List.set_cons_zero, List.set_cons_succ, decide_eq_true_eq, if_true, Bool.or_true, Bool.true_or, Bool.and_true, Bool.true_and, Bool.false_eq_true, if_false, Bool.not_true, Bool.not_false, Bool.or_false, Bool.false_or, Bool.and_false, Bool.false_and, BEq.rfl, e_sortK, k_sortK, e_lc2, k_lc2c, mkD1, e_dc, k_dc, e_dc0, e_stD, stD1, o_stD1f, o_stD1o, o_stD2, e_slk, lk1, e_elk, lke1, unlO_nx, unlO_bk, unlO_ct, unlO_rt, unl_nil, unl_cons, unl1_no, unl1_fz, unl1_ow, unl1_lk, e_items, items1, e_keysD, keysD1, e_en, k_enL, k_enT, k_enO, e_zp, k_zp, e_fnL, k_fnL, e_fnL0, e_fnC, e_fnC0, callC1, k_C, outC1, v_ixTA, v_ixLA, bind_some, boolsM, all_mapI, any_mapI, allT, e_app, app1, o_appf, o_appo, e_frz, frzo1, frzo2, v_addT c3]
        rw [show l.map pr ++ [pr t] = (l ++ [t]).map pr by simp]
    rw [loop_cons (ρ' := [e0, some (.fz (.list (L.map lotT))), some (.fz (pr t)), none]) rfl, step]
    exact e
theorem p_every (ts : List Tl) (h : ts.length ≤ 12) (w : List Int) : S_every_lot [] [.fz (lotT ts)] w = .ok (.ow (.list ((lots ts).map lotT)), w) := by
  rw [u_every_lot]
  unfold g_every_lot
  have hp : 2 ^ ts.length ≤ 2 ^ 12 := Nat.pow_le_pow_right (by decide) h
  obtain ⟨x2, e⟩ := grow_loop w (some (.fz (lotT ts))) ts [[]] none (by rw [List.length_singleton]; omega) (by intro l hl; rw [List.mem_singleton.mp hl, List.length_nil]; omega)
  have e1 : loopL (gNm 2) gGrow (ts.map pr) [some (.fz (lotT ts)), some (.fz (.list [.tuple []])), none, none] w = _ := e
  simp only [k_op1, k_op2, k_un, k_call, k_b, k_and, k_or, k_not, k_eand, k_eor, k_enot, k_if, k_c1, k_c2, k_c3, k_cons1, k_cons2, k_tup, k_lst, k_fn, k_fnS, k_fnK, k_isi, k_sl1, k_sl2, k_sl3, k_i, o_sx, o_ret, o_if, o_set, o_asg, o_par2, o_par3, o_stS, o_stT, o_for, k_seq, k_rg1, k_rg2, e_rg1, e_rg2, rg1_1, rg2_1, k_lc, k_lt, k_le, k_lc2, k_fnF, e_fnF, run1, e_seq, seq_nx, seq_rt, seq_ct, seq_bk, fin_nx, fin_rt, given_fz, given_ow, given_bw, e_var, e_op, e_un, e_call, e_c, lift1, e_asB, toB1, e_tand, e_tor, e_tnot, e_and, e_or, e_not, e_if, e_chain, chn1, e_nil, e_cons, e_tup, e_lst, e_fn, e_fnS, e_fnK, e_isi, isiR1, outR1, outS1, e_stG, e_sl, b_no, b_so, toI1, e_no, e_sx, e_ret, e_retN, e_sif, put_fz, put_ow, nxO1, e_set, asg_fz, asg_ow, e_asg, g_nm, g_nl, g_cn, obind1, g_tuT, g_tuL, e_par2, e_par3, stO1, e_stS, e_stT, bind1, ofR1, d_fz, d_ow, d_bw, frz_fz, frz_ow, frz_bw, nb_nil, nb_fz, nb_ow, nb_bw, v_add, v_sub, v_neg, v_lt, v_gt, v_le, v_ge, v_is, v_isNot, v_eqS, v_neS, v_eq, v_ne, v_eqB, v_neB, v_ixT, v_ixL, at0, at1, at2, at3, at4, at5, map1, v_lenL, v_lenT, v_abs, v_int, v_intB, v_max2, v_min2, v_max3, v_min3, v_tupL, v_tupT, v_lstL, v_lstT, k_int_none, k_int_bool, k_int_int, k_int_str, k_int_list, k_int_tuple, k_bool_none, k_bool_bool, k_bool_int, k_bool_str, k_bool_list, k_bool_tuple, k_str_none, k_str_bool, k_str_int, k_str_str, k_str_list, k_str_tuple, k_list_none, k_list_bool, k_list_int, k_list_str, k_list_list, k_list_tuple, k_tuple_none, k_tuple_bool, k_tuple_int, k_tuple_str, k_tuple_list, k_tuple_tuple, k_dict_none, k_dict_bool, k_dict_int, k_dict_str, k_dict_list, k_dict_tuple, Int.cast_ofNat_Int, Nat.reduceAdd, Nat.reduceLeDiff, e_lc, e_iseq, seqI_fl, seqI_ft, seqI_ol, seqI_ot, lcS1, lcN1, val_fz, val_ow, t_true, wipe0, wipe1, mkL1, noX1, loopS1, loop_nx, loop_ct, loop_bk, loop_rt, loop_exc, e_for, v_allD, v_anyD, bools_map, ints_map, bools0, bools1, ints0, ints1, size_eq, decide_true, decide_false, true_or, or_true, eq_self, and_true, true_and, List.all_cons, List.all_nil, List.any_cons, List.any_nil, id_eq, isN, List.map_cons, List.map_nil, List.length_cons, List.length_nil, List.getElem?_cons_zero, List.getElem?_cons_succ, List.set_cons_zero, List.set_cons_succ, decide_eq_true_eq, if_true, Bool.or_true, Bool.true_or, Bool.and_true, Bool.true_and, Bool.false_eq_true, if_false, Bool.not_true, Bool.not_false, Bool.or_false, Bool.false_or, Bool.and_false, Bool.false_and, BEq.rfl, e_sortK, k_sortK, e_lc2, k_lc2c, mkD1, e_dc, k_dc, e_dc0, e_stD, stD1, o_stD1f, o_stD1o, o_stD2, e_slk, lk1, e_elk, lke1, unlO_nx, unlO_bk, unlO_ct, unlO_rt, unl_nil, unl_cons, unl1_no, unl1_fz, unl1_ow, unl1_lk, e_items, items1, e_keysD, keysD1, e_en, k_enL, k_enT, k_enO, e_zp, k_zp, e_fnL, k_fnL, e_fnL0, e_fnC, e_fnC0, callC1, k_C, outC1, v_ixTA, v_ixLA, bind_some, boolsM, all_mapI, any_mapI, allT, e_app, app1, o_appf, o_appo, e_frz, frzo1, frzo2]
  rw [e1]
  simp only [k_op1, k_op2, k_un, k_call, k_b, k_and, k_or, k_not, k_eand, k_eor, k_enot, k_if, k_c1, k_c2, k_c3, k_cons1, k_cons2, k_tup, k_lst, k_fn, k_fnS, k_fnK, k_isi, k_sl1, k_sl2, k_sl3, k_i, o_sx, o_ret, o_if, o_set, o_asg, o_par2, o_par3, o_stS, o_stT, o_for, k_seq, k_rg1, k_rg2, e_rg1, e_rg2, rg1_1, rg2_1, k_lc, k_lt, k_le, k_lc2, k_fnF, e_fnF, run1, e_seq, seq_nx, seq_rt, seq_ct, seq_bk, fin_nx, fin_rt, given_fz, given_ow, given_bw, e_var, e_op, e_un, e_call, e_c, lift1, e_asB, toB1, e_tand, e_tor, e_tnot, e_and, e_or, e_not, e_if, e_chain, chn1, e_nil, e_cons, e_tup, e_lst, e_fn, e_fnS, e_fnK, e_isi, isiR1, outR1, outS1, e_stG, e_sl, b_no, b_so, toI1, e_no, e_sx, e_ret, e_retN, e_sif, put_fz, put_ow, nxO1, e_set, asg_fz, asg_ow, e_asg, g_nm, g_nl, g_cn, obind1, g_tuT, g_tuL, e_par2, e_par3, stO1, e_stS, e_stT, bind1, ofR1, d_fz, d_ow, d_bw, frz_fz, frz_ow, frz_bw, nb_nil, nb_fz, nb_ow, nb_bw, v_add, v_sub, v_neg, v_lt, v_gt, v_le, v_ge, v_is, v_isNot, v_eqS, v_neS, v_eq, v_ne, v_eqB, v_neB, v_ixT, v_ixL, at0, at1, at2, at3, at4, at5, map1, v_lenL, v_lenT, v_abs, v_int, v_intB, v_max2, v_min2, v_max3, v_min3, v_tupL, v_tupT, v_lstL, v_lstT, k_int_none, k_int_bool, k_int_int, k_int_str, k_int_list, k_int_tuple, k_bool_none, k_bool_bool, k_bool_int, k_bool_str, k_bool_list, k_bool_tuple, k_str_none, k_str_bool, k_str_int, k_str_str, k_str_list, k_str_tuple, k_list_none, k_list_bool, k_list_int, k_list_str, k_list_list, k_list_tuple, k_tuple_none, k_tuple_bool, k_tuple_int, k_tuple_str, k_tuple_list, k_tuple_tuple, k_dict_none, k_dict_bool, k_dict_int, k_dict_str, k_dict_list, k_dict_tuple, Int.cast_ofNat_Int, Nat.reduceAdd, Nat.reduceLeDiff, e_lc, e_iseq, seqI_fl, seqI_ft, seqI_ol, seqI_ot, lcS1, lcN1, val_fz, val_ow, t_true, wipe0, wipe1, mkL1, noX1, loopS1, loop_nx, loop_ct, loop_bk, loop_rt, loop_exc, e_for, v_allD, v_anyD, bools_map, ints_map, bools0, bools1, ints0, ints1, size_eq, decide_true, decide_false, true_or, or_true, eq_self, and_true, true_and, List.all_cons, List.all_nil, List.any_cons, List.any_nil, id_eq, isN, List.map_cons, List.map_nil, List.length_cons, List.length_nil, List.getElem?_cons_zero, List.getElem?_cons_succ, List.set_cons_zero, List.set_cons_succ, decide_eq_true_eq, if_true, Bool.or_true, Bool.true_or, Bool.and_true, Bool.true_and, Bool.false_eq_true, if_false, Bool.not_true, Bool.not_false, Bool.or_false, Bool.false_or, Bool.and_false, Bool.false_and, BEq.rfl, e_sortK, k_sortK, e_lc2, k_lc2c, mkD1, e_dc, k_dc, e_dc0, e_stD, stD1, o_stD1f, o_stD1o, o_stD2, e_slk, lk1, e_elk, lke1, unlO_nx, unlO_bk, unlO_ct, unlO_rt, unl_nil, unl_cons, unl1_no, unl1_fz, unl1_ow, unl1_lk, e_items, items1, e_keysD, keysD1, e_en, k_enL, k_enT, k_enO, e_zp, k_zp, e_fnL, k_fnL, e_fnL0, e_fnC, e_fnC0, callC1, k_C, outC1, v_ixTA, v_ixLA, bind_some, boolsM, all_mapI, any_mapI, allT, e_app, app1, o_appf, o_appo, e_frz, frzo1, frzo2, p_by_many]
  rfl
theorem p_all_lots (ts : List Tl) (h : ts.length ≤ 12) (w : List Int) : S__law_all_lots [] [.fz (lotL ts)] w = .ok (.ow (.list ((lots ts).map lotT)), w) := by
  rw [u__law_all_lots]
  unfold g__law_all_lots
  have hp : 2 ^ ts.length ≤ 2 ^ 12 := Nat.pow_le_pow_right (by decide) h
  obtain ⟨x2, e⟩ := grow_loop w (some (.fz (lotL ts))) ts [[]] none (by rw [List.length_singleton]; omega) (by intro l hl; rw [List.mem_singleton.mp hl, List.length_nil]; omega)
  have e1 : loopL (gNm 2) gGrow (ts.map pr) [some (.fz (lotL ts)), some (.fz (.list [.tuple []])), none, none] w = _ := e
  simp only [k_op1, k_op2, k_un, k_call, k_b, k_and, k_or, k_not, k_eand, k_eor, k_enot, k_if, k_c1, k_c2, k_c3, k_cons1, k_cons2, k_tup, k_lst, k_fn, k_fnS, k_fnK, k_isi, k_sl1, k_sl2, k_sl3, k_i, o_sx, o_ret, o_if, o_set, o_asg, o_par2, o_par3, o_stS, o_stT, o_for, k_seq, k_rg1, k_rg2, e_rg1, e_rg2, rg1_1, rg2_1, k_lc, k_lt, k_le, k_lc2, k_fnF, e_fnF, run1, e_seq, seq_nx, seq_rt, seq_ct, seq_bk, fin_nx, fin_rt, given_fz, given_ow, given_bw, e_var, e_op, e_un, e_call, e_c, lift1, e_asB, toB1, e_tand, e_tor, e_tnot, e_and, e_or, e_not, e_if, e_chain, chn1, e_nil, e_cons, e_tup, e_lst, e_fn, e_fnS, e_fnK, e_isi, isiR1, outR1, outS1, e_stG, e_sl, b_no, b_so, toI1, e_no, e_sx, e_ret, e_retN, e_sif, put_fz, put_ow, nxO1, e_set, asg_fz, asg_ow, e_asg, g_nm, g_nl, g_cn, obind1, g_tuT, g_tuL, e_par2, e_par3, stO1, e_stS, e_stT, bind1, ofR1, d_fz, d_ow, d_bw, frz_fz, frz_ow, frz_bw, nb_nil, nb_fz, nb_ow, nb_bw, v_add, v_sub, v_neg, v_lt, v_gt, v_le, v_ge, v_is, v_isNot, v_eqS, v_neS, v_eq, v_ne, v_eqB, v_neB, v_ixT, v_ixL, at0, at1, at2, at3, at4, at5, map1, v_lenL, v_lenT, v_abs, v_int, v_intB, v_max2, v_min2, v_max3, v_min3, v_tupL, v_tupT, v_lstL, v_lstT, k_int_none, k_int_bool, k_int_int, k_int_str, k_int_list, k_int_tuple, k_bool_none, k_bool_bool, k_bool_int, k_bool_str, k_bool_list, k_bool_tuple, k_str_none, k_str_bool, k_str_int, k_str_str, k_str_list, k_str_tuple, k_list_none, k_list_bool, k_list_int, k_list_str, k_list_list, k_list_tuple, k_tuple_none, k_tuple_bool, k_tuple_int, k_tuple_str, k_tuple_list, k_tuple_tuple, k_dict_none, k_dict_bool, k_dict_int, k_dict_str, k_dict_list, k_dict_tuple, Int.cast_ofNat_Int, Nat.reduceAdd, Nat.reduceLeDiff, e_lc, e_iseq, seqI_fl, seqI_ft, seqI_ol, seqI_ot, lcS1, lcN1, val_fz, val_ow, t_true, wipe0, wipe1, mkL1, noX1, loopS1, loop_nx, loop_ct, loop_bk, loop_rt, loop_exc, e_for, v_allD, v_anyD, bools_map, ints_map, bools0, bools1, ints0, ints1, size_eq, decide_true, decide_false, true_or, or_true, eq_self, and_true, true_and, List.all_cons, List.all_nil, List.any_cons, List.any_nil, id_eq, isN, List.map_cons, List.map_nil, List.length_cons, List.length_nil, List.getElem?_cons_zero, List.getElem?_cons_succ, List.set_cons_zero, List.set_cons_succ, decide_eq_true_eq, if_true, Bool.or_true, Bool.true_or, Bool.and_true, Bool.true_and, Bool.false_eq_true, if_false, Bool.not_true, Bool.not_false, Bool.or_false, Bool.false_or, Bool.and_false, Bool.false_and, BEq.rfl, e_sortK, k_sortK, e_lc2, k_lc2c, mkD1, e_dc, k_dc, e_dc0, e_stD, stD1, o_stD1f, o_stD1o, o_stD2, e_slk, lk1, e_elk, lke1, unlO_nx, unlO_bk, unlO_ct, unlO_rt, unl_nil, unl_cons, unl1_no, unl1_fz, unl1_ow, unl1_lk, e_items, items1, e_keysD, keysD1, e_en, k_enL, k_enT, k_enO, e_zp, k_zp, e_fnL, k_fnL, e_fnL0, e_fnC, e_fnC0, callC1, k_C, outC1, v_ixTA, v_ixLA, bind_some, boolsM, all_mapI, any_mapI, allT, e_app, app1, o_appf, o_appo, e_frz, frzo1, frzo2]
  rw [e1]
  simp only [k_op1, k_op2, k_un, k_call, k_b, k_and, k_or, k_not, k_eand, k_eor, k_enot, k_if, k_c1, k_c2, k_c3, k_cons1, k_cons2, k_tup, k_lst, k_fn, k_fnS, k_fnK, k_isi, k_sl1, k_sl2, k_sl3, k_i, o_sx, o_ret, o_if, o_set, o_asg, o_par2, o_par3, o_stS, o_stT, o_for, k_seq, k_rg1, k_rg2, e_rg1, e_rg2, rg1_1, rg2_1, k_lc, k_lt, k_le, k_lc2, k_fnF, e_fnF, run1, e_seq, seq_nx, seq_rt, seq_ct, seq_bk, fin_nx, fin_rt, given_fz, given_ow, given_bw, e_var, e_op, e_un, e_call, e_c, lift1, e_asB, toB1, e_tand, e_tor, e_tnot, e_and, e_or, e_not, e_if, e_chain, chn1, e_nil, e_cons, e_tup, e_lst, e_fn, e_fnS, e_fnK, e_isi, isiR1, outR1, outS1, e_stG, e_sl, b_no, b_so, toI1, e_no, e_sx, e_ret, e_retN, e_sif, put_fz, put_ow, nxO1, e_set, asg_fz, asg_ow, e_asg, g_nm, g_nl, g_cn, obind1, g_tuT, g_tuL, e_par2, e_par3, stO1, e_stS, e_stT, bind1, ofR1, d_fz, d_ow, d_bw, frz_fz, frz_ow, frz_bw, nb_nil, nb_fz, nb_ow, nb_bw, v_add, v_sub, v_neg, v_lt, v_gt, v_le, v_ge, v_is, v_isNot, v_eqS, v_neS, v_eq, v_ne, v_eqB, v_neB, v_ixT, v_ixL, at0, at1, at2, at3, at4, at5, map1, v_lenL, v_lenT, v_abs, v_int, v_intB, v_max2, v_min2, v_max3, v_min3, v_tupL, v_tupT, v_lstL, v_lstT, k_int_none, k_int_bool, k_int_int, k_int_str, k_int_list, k_int_tuple, k_bool_none, k_bool_bool, k_bool_int, k_bool_str, k_bool_list, k_bool_tuple, k_str_none, k_str_bool, k_str_int, k_str_str, k_str_list, k_str_tuple, k_list_none, k_list_bool, k_list_int, k_list_str, k_list_list, k_list_tuple, k_tuple_none, k_tuple_bool, k_tuple_int, k_tuple_str, k_tuple_list, k_tuple_tuple, k_dict_none, k_dict_bool, k_dict_int, k_dict_str, k_dict_list, k_dict_tuple, Int.cast_ofNat_Int, Nat.reduceAdd, Nat.reduceLeDiff, e_lc, e_iseq, seqI_fl, seqI_ft, seqI_ol, seqI_ot, lcS1, lcN1, val_fz, val_ow, t_true, wipe0, wipe1, mkL1, noX1, loopS1, loop_nx, loop_ct, loop_bk, loop_rt, loop_exc, e_for, v_allD, v_anyD, bools_map, ints_map, bools0, bools1, ints0, ints1, size_eq, decide_true, decide_false, true_or, or_true, eq_self, and_true, true_and, List.all_cons, List.all_nil, List.any_cons, List.any_nil, id_eq, isN, List.map_cons, List.map_nil, List.length_cons, List.length_nil, List.getElem?_cons_zero, List.getElem?_cons_succ, List.set_cons_zero, List.set_cons_succ, decide_eq_true_eq, if_true, Bool.or_true, Bool.true_or, Bool.and_true, Bool.true_and, Bool.false_eq_true, if_false, Bool.not_true, Bool.not_false, Bool.or_false, Bool.false_or, Bool.and_false, Bool.false_and, BEq.rfl, e_sortK, k_sortK, e_lc2, k_lc2c, mkD1, e_dc, k_dc, e_dc0, e_stD, stD1, o_stD1f, o_stD1o, o_stD2, e_slk, lk1, e_elk, lke1, unlO_nx, unlO_bk, unlO_ct, unlO_rt, unl_nil, unl_cons, unl1_no, unl1_fz, unl1_ow, unl1_lk, e_items, items1, e_keysD, keysD1, e_en, k_enL, k_enT, k_enO, e_zp, k_zp, e_fnL, k_fnL, e_fnL0, e_fnC, e_fnC0, callC1, k_C, outC1, v_ixTA, v_ixLA, bind_some, boolsM, all_mapI, any_mapI, allT, e_app, app1, o_appf, o_appo, e_frz, frzo1, frzo2, v_sortM]
  rfl
section
variable {F : List (List Int)} {n m : Nat}
theorem p_lots (h : Fl F n m) (c : n * m ≤ 12) (w : List Int) : S_lots_of [] [.fz (flD F)] w = .ok (.ow (.list ((lots (tiles n m)).map lotT)), w) := by
  rw [u_lots_of]
  unfold g_lots_of
  simp only [k_op1, k_op2, k_un, k_call, k_b, k_and, k_or, k_not, k_eand, k_eor, k_enot, k_if, k_c1, k_c2, k_c3, k_cons1, k_cons2, k_tup, k_lst, k_fn, k_fnS, k_fnK, k_isi, k_sl1, k_sl2, k_sl3, k_i, o_sx, o_ret, o_if, o_set, o_asg, o_par2, o_par3, o_stS, o_stT, o_for, k_seq, k_rg1, k_rg2, e_rg1, e_rg2, rg1_1, rg2_1, k_lc, k_lt, k_le, k_lc2, k_fnF, e_fnF, run1, e_seq, seq_nx, seq_rt, seq_ct, seq_bk, fin_nx, fin_rt, given_fz, given_ow, given_bw, e_var, e_op, e_un, e_call, e_c, lift1, e_asB, toB1, e_tand, e_tor, e_tnot, e_and, e_or, e_not, e_if, e_chain, chn1, e_nil, e_cons, e_tup, e_lst, e_fn, e_fnS, e_fnK, e_isi, isiR1, outR1, outS1, e_stG, e_sl, b_no, b_so, toI1, e_no, e_sx, e_ret, e_retN, e_sif, put_fz, put_ow, nxO1, e_set, asg_fz, asg_ow, e_asg, g_nm, g_nl, g_cn, obind1, g_tuT, g_tuL, e_par2, e_par3, stO1, e_stS, e_stT, bind1, ofR1, d_fz, d_ow, d_bw, frz_fz, frz_ow, frz_bw, nb_nil, nb_fz, nb_ow, nb_bw, v_add, v_sub, v_neg, v_lt, v_gt, v_le, v_ge, v_is, v_isNot, v_eqS, v_neS, v_eq, v_ne, v_eqB, v_neB, v_ixT, v_ixL, at0, at1, at2, at3, at4, at5, map1, v_lenL, v_lenT, v_abs, v_int, v_intB, v_max2, v_min2, v_max3, v_min3, v_tupL, v_tupT, v_lstL, v_lstT, k_int_none, k_int_bool, k_int_int, k_int_str, k_int_list, k_int_tuple, k_bool_none, k_bool_bool, k_bool_int, k_bool_str, k_bool_list, k_bool_tuple, k_str_none, k_str_bool, k_str_int, k_str_str, k_str_list, k_str_tuple, k_list_none, k_list_bool, k_list_int, k_list_str, k_list_list, k_list_tuple, k_tuple_none, k_tuple_bool, k_tuple_int, k_tuple_str, k_tuple_list, k_tuple_tuple, k_dict_none, k_dict_bool, k_dict_int, k_dict_str, k_dict_list, k_dict_tuple, Int.cast_ofNat_Int, Nat.reduceAdd, Nat.reduceLeDiff, e_lc, e_iseq, seqI_fl, seqI_ft, seqI_ol, seqI_ot, lcS1, lcN1, val_fz, val_ow, t_true, wipe0, wipe1, mkL1, noX1, loopS1, loop_nx, loop_ct, loop_bk, loop_rt, loop_exc, e_for, v_allD, v_anyD, bools_map, ints_map, bools0, bools1, ints0, ints1, size_eq, decide_true, decide_false, true_or, or_true, eq_self, and_true, true_and, List.all_cons, List.all_nil, List.any_cons, List.any_nil, id_eq, isN, List.map_cons, List.map_nil, List.length_cons, List.length_nil, List.getElem?_cons_zero, List.getElem?_cons_succ, List.set_cons_zero, List.set_cons_succ, decide_eq_true_eq, if_true, Bool.or_true, Bool.true_or, Bool.and_true, Bool.true_and, Bool.false_eq_true, if_false, Bool.not_true, Bool.not_false, Bool.or_false, Bool.false_or, Bool.and_false, Bool.false_and, BEq.rfl, e_sortK, k_sortK, e_lc2, k_lc2c, mkD1, e_dc, k_dc, e_dc0, e_stD, stD1, o_stD1f, o_stD1o, o_stD2, e_slk, lk1, e_elk, lke1, unlO_nx, unlO_bk, unlO_ct, unlO_rt, unl_nil, unl_cons, unl1_no, unl1_fz, unl1_ow, unl1_lk, e_items, items1, e_keysD, keysD1, e_en, k_enL, k_enT, k_enO, e_zp, k_zp, e_fnL, k_fnL, e_fnL0, e_fnC, e_fnC0, callC1, k_C, outC1, v_ixTA, v_ixLA, bind_some, boolsM, all_mapI, any_mapI, allT, e_app, app1, o_appf, o_appo, e_frz, frzo1, frzo2, p_tiles h, p_every _ (by rw [tiles_len]; exact c), indep, pure?]
theorem p_snug (h : Fl F n m) {l : List Tl} (hl : l.Sublist (tiles n m)) (w : List Int) : S_is_snug_by [] [.fz (.dict (web F n m)), .fz (lotT l)] w = .ok (.fz (.bool (snugB F n m l)), w) := by
  rw [u_is_snug_by]
  unfold g_is_snug_by
  obtain ⟨nd, sub, len⟩ := lot_ok hl (tiles_up n m)
  have cap := h.cap
  rw [tiles_len] at len
  simp only [k_op1, k_op2, k_un, k_call, k_b, k_and, k_or, k_not, k_eand, k_eor, k_enot, k_if, k_c1, k_c2, k_c3, k_cons1, k_cons2, k_tup, k_lst, k_fn, k_fnS, k_fnK, k_isi, k_sl1, k_sl2, k_sl3, k_i, o_sx, o_ret, o_if, o_set, o_asg, o_par2, o_par3, o_stS, o_stT, o_for, k_seq, k_rg1, k_rg2, e_rg1, e_rg2, rg1_1, rg2_1, k_lc, k_lt, k_le, k_lc2, k_fnF, e_fnF, run1, e_seq, seq_nx, seq_rt, seq_ct, seq_bk, fin_nx, fin_rt, given_fz, given_ow, given_bw, e_var, e_op, e_un, e_call, e_c, lift1, e_asB, toB1, e_tand, e_tor, e_tnot, e_and, e_or, e_not, e_if, e_chain, chn1, e_nil, e_cons, e_tup, e_lst, e_fn, e_fnS, e_fnK, e_isi, isiR1, outR1, outS1, e_stG, e_sl, b_no, b_so, toI1, e_no, e_sx, e_ret, e_retN, e_sif, put_fz, put_ow, nxO1, e_set, asg_fz, asg_ow, e_asg, g_nm, g_nl, g_cn, obind1, g_tuT, g_tuL, e_par2, e_par3, stO1, e_stS, e_stT, bind1, ofR1, d_fz, d_ow, d_bw, frz_fz, frz_ow, frz_bw, nb_nil, nb_fz, nb_ow, nb_bw, v_add, v_sub, v_neg, v_lt, v_gt, v_le, v_ge, v_is, v_isNot, v_eqS, v_neS, v_eq, v_ne, v_eqB, v_neB, v_ixT, v_ixL, at0, at1, at2, at3, at4, at5, map1, v_lenL, v_lenT, v_abs, v_int, v_intB, v_max2, v_min2, v_max3, v_min3, v_tupL, v_tupT, v_lstL, v_lstT, k_int_none, k_int_bool, k_int_int, k_int_str, k_int_list, k_int_tuple, k_bool_none, k_bool_bool, k_bool_int, k_bool_str, k_bool_list, k_bool_tuple, k_str_none, k_str_bool, k_str_int, k_str_str, k_str_list, k_str_tuple, k_list_none, k_list_bool, k_list_int, k_list_str, k_list_list, k_list_tuple, k_tuple_none, k_tuple_bool, k_tuple_int, k_tuple_str, k_tuple_list, k_tuple_tuple, k_dict_none, k_dict_bool, k_dict_int, k_dict_str, k_dict_list, k_dict_tuple, Int.cast_ofNat_Int, Nat.reduceAdd, Nat.reduceLeDiff, e_lc, e_iseq, seqI_fl, seqI_ft, seqI_ol, seqI_ot, lcS1, lcN1, val_fz, val_ow, t_true, wipe0, wipe1, mkL1, noX1, loopS1, loop_nx, loop_ct, loop_bk, loop_rt, loop_exc, e_for, v_allD, v_anyD, bools_map, ints_map, bools0, bools1, ints0, ints1, size_eq, decide_true, decide_false, true_or, or_true, eq_self, and_true, true_and, List.all_cons, List.all_nil, List.any_cons, List.any_nil, id_eq, isN, List.map_cons, List.map_nil, List.length_cons, List.length_nil, List.getElem?_cons_zero, List.getElem?_cons_succ, List.set_cons_zero, List.set_cons_succ, decide_eq_true_eq, if_true, Bool.or_true, Bool.true_or, Bool.and_true, Bool.true_and, Bool.false_eq_true, if_false, Bool.not_true, Bool.not_false, Bool.or_false, Bool.false_or, Bool.and_false, Bool.false_and, BEq.rfl, e_sortK, k_sortK, e_lc2, k_lc2c, mkD1, e_dc, k_dc, e_dc0, e_stD, stD1, o_stD1f, o_stD1o, o_stD2, e_slk, lk1, e_elk, lke1, unlO_nx, unlO_bk, unlO_ct, unlO_rt, unl_nil, unl_cons, unl1_no, unl1_fz, unl1_ow, unl1_lk, e_items, items1, e_keysD, keysD1, e_en, k_enL, k_enT, k_enO, e_zp, k_zp, e_fnL, k_fnL, e_fnL0, e_fnC, e_fnC0, callC1, k_C, outC1, v_ixTA, v_ixLA, bind_some, boolsM, all_mapI, any_mapI, allT, e_app, app1, o_appf, o_appo, e_frz, frzo1, frzo2]
  have d := dc_tiles (b := gNm 3) (t := tTrue) (ek := eVar 3) (ev := eC (.bool true)) (ρ := [some (.fz (.dict (web F n m))), some (.fz (lotT l)), none, none, none, none, none]) (w := w) pr id (fun _ => .bool true) (xs := l) (l := []) (by simpa using nd) (by simp; omega) (fun t ht => ⟨_, .fz (.bool true), rfl, rfl, rfl, rfl, rfl⟩)
  rw [dct_nil] at d
  rw [d]
  simp only [k_op1, k_op2, k_un, k_call, k_b, k_and, k_or, k_not, k_eand, k_eor, k_enot, k_if, k_c1, k_c2, k_c3, k_cons1, k_cons2, k_tup, k_lst, k_fn, k_fnS, k_fnK, k_isi, k_sl1, k_sl2, k_sl3, k_i, o_sx, o_ret, o_if, o_set, o_asg, o_par2, o_par3, o_stS, o_stT, o_for, k_seq, k_rg1, k_rg2, e_rg1, e_rg2, rg1_1, rg2_1, k_lc, k_lt, k_le, k_lc2, k_fnF, e_fnF, run1, e_seq, seq_nx, seq_rt, seq_ct, seq_bk, fin_nx, fin_rt, given_fz, given_ow, given_bw, e_var, e_op, e_un, e_call, e_c, lift1, e_asB, toB1, e_tand, e_tor, e_tnot, e_and, e_or, e_not, e_if, e_chain, chn1, e_nil, e_cons, e_tup, e_lst, e_fn, e_fnS, e_fnK, e_isi, isiR1, outR1, outS1, e_stG, e_sl, b_no, b_so, toI1, e_no, e_sx, e_ret, e_retN, e_sif, put_fz, put_ow, nxO1, e_set, asg_fz, asg_ow, e_asg, g_nm, g_nl, g_cn, obind1, g_tuT, g_tuL, e_par2, e_par3, stO1, e_stS, e_stT, bind1, ofR1, d_fz, d_ow, d_bw, frz_fz, frz_ow, frz_bw, nb_nil, nb_fz, nb_ow, nb_bw, v_add, v_sub, v_neg, v_lt, v_gt, v_le, v_ge, v_is, v_isNot, v_eqS, v_neS, v_eq, v_ne, v_eqB, v_neB, v_ixT, v_ixL, at0, at1, at2, at3, at4, at5, map1, v_lenL, v_lenT, v_abs, v_int, v_intB, v_max2, v_min2, v_max3, v_min3, v_tupL, v_tupT, v_lstL, v_lstT, k_int_none, k_int_bool, k_int_int, k_int_str, k_int_list, k_int_tuple, k_bool_none, k_bool_bool, k_bool_int, k_bool_str, k_bool_list, k_bool_tuple, k_str_none, k_str_bool, k_str_int, k_str_str, k_str_list, k_str_tuple, k_list_none, k_list_bool, k_list_int, k_list_str, k_list_list, k_list_tuple, k_tuple_none, k_tuple_bool, k_tuple_int, k_tuple_str, k_tuple_list, k_tuple_tuple, k_dict_none, k_dict_bool, k_dict_int, k_dict_str, k_dict_list, k_dict_tuple, Int.cast_ofNat_Int, Nat.reduceAdd, Nat.reduceLeDiff, e_lc, e_iseq, seqI_fl, seqI_ft, seqI_ol, seqI_ot, lcS1, lcN1, val_fz, val_ow, t_true, wipe0, wipe1, mkL1, noX1, loopS1, loop_nx, loop_ct, loop_bk, loop_rt, loop_exc, e_for, v_allD, v_anyD, bools_map, ints_map, bools0, bools1, ints0, ints1, size_eq, decide_true, decide_false, true_or, or_true, eq_self, and_true, true_and, List.all_cons, List.all_nil, List.any_cons, List.any_nil, id_eq, isN, List.map_cons, List.map_nil, List.length_cons, List.length_nil, List.getElem?_cons_zero, List.getElem?_cons_succ, List.set_cons_zero, List.set_cons_succ, decide_eq_true_eq, if_true, Bool.or_true, Bool.true_or, Bool.and_true, Bool.true_and, Bool.false_eq_true, if_false, Bool.not_true, Bool.not_false, Bool.or_false, Bool.false_or, Bool.and_false, Bool.false_and, BEq.rfl, e_sortK, k_sortK, e_lc2, k_lc2c, mkD1, e_dc, k_dc, e_dc0, e_stD, stD1, o_stD1f, o_stD1o, o_stD2, e_slk, lk1, e_elk, lke1, unlO_nx, unlO_bk, unlO_ct, unlO_rt, unl_nil, unl_cons, unl1_no, unl1_fz, unl1_ow, unl1_lk, e_items, items1, e_keysD, keysD1, e_en, k_enL, k_enT, k_enO, e_zp, k_zp, e_fnL, k_fnL, e_fnL0, e_fnC, e_fnC0, callC1, k_C, outC1, v_ixTA, v_ixLA, bind_some, boolsM, all_mapI, any_mapI, allT, e_app, app1, o_appf, o_appo, e_frz, frzo1, frzo2, List.nil_append, List.map_id]
  have hL := loop_find (b := gNm 3) (w := w) (g := sSeq (sAsg (eOp fIxA (eVar 0) (eVar 3)) (gTu 2 (gCn (gNm 4) (gCn (gNm 5) (gNl))))) (sIf (asB (eOp fGe (eCall fLen (aCons (eLc [6] (iSeq (eVar 5)) (gNm 6) (asB (eOp fNotInA (eVar 6) (eVar 2))) (eC (.int 1))) (aNil))) (eVar 4))) (sRet (eC (.bool false))) (sNo)))
    pr (fun t => !decide (((outs n m l t).length : Int) < need F t)) (fun _ => .fz (.bool false)) (fun ρ => ∃ x3 x4 x5, ρ = [some (.fz (.dict (web F n m))), some (.fz (lotT l)), some (.fz (.dict (dct l fun _ => .bool true))), x3, x4, x5, none]) (l := l)
    (ρ := [some (.fz (.dict (web F n m))), some (.fz (lotT l)), some (.fz (.dict (dct l fun _ => .bool true))), none, none, none, none]) (by
      rintro t ht _ ⟨x3, x4, x5, rfl⟩
      have c1 : ((nb n m t).filter fun u => !decide (u ∈ l)).length ≤ 16777216 := by
        have h1 := List.length_filter_le (fun u => !decide (u ∈ l)) (nb n m t)
        have h2 := nb_len n m t
        omega
      have st : sSeq (sAsg (eOp fIxA (eVar 0) (eVar 3)) (gTu 2 (gCn (gNm 4) (gCn (gNm 5) (gNl))))) (sIf (asB (eOp fGe (eCall fLen (aCons (eLc [6] (iSeq (eVar 5)) (gNm 6) (asB (eOp fNotInA (eVar 6) (eVar 2))) (eC (.int 1))) (aNil))) (eVar 4))) (sRet (eC (.bool false))) (sNo)) [some (.fz (.dict (web F n m))), some (.fz (lotT l)), some (.fz (.dict (dct l fun _ => .bool true))), some (.fz (pr t)), x4, x5, none] w =
          if need F t ≤ ((outs n m l t).length : Int) then .rt (.fz (.bool false)) w else .nx [some (.fz (.dict (web F n m))), some (.fz (lotT l)), some (.fz (.dict (dct l fun _ => .bool true))), some (.fz (pr t)), some (.fz (.int (need F t))), some (.fz (lotL (nb n m t))), none] w := by
        unfold web
        simp only [k_op1, k_op2, k_un, k_call, k_b, k_and, k_or, k_not, k_eand, k_eor, k_enot, k_if, k_c1, k_c2, k_c3, k_cons1, k_cons2, k_tup, k_lst, k_fn, k_fnS, k_fnK, k_isi, k_sl1, k_sl2, k_sl3, k_i, o_sx, o_ret, o_if, o_set, o_asg, o_par2, o_par3, o_stS, o_stT, o_for, k_seq, k_rg1, k_rg2, e_rg1, e_rg2, rg1_1, rg2_1, k_lc, k_lt, k_le, k_lc2, k_fnF, e_fnF, run1, e_seq, seq_nx, seq_rt, seq_ct, seq_bk, fin_nx, fin_rt, given_fz, given_ow, given_bw, e_var, e_op, e_un, e_call, e_c, lift1, e_asB, toB1, e_tand, e_tor, e_tnot, e_and, e_or, e_not, e_if, e_chain, chn1, e_nil, e_cons, e_tup, e_lst, e_fn, e_fnS, e_fnK, e_isi, isiR1, outR1, outS1, e_stG, e_sl, b_no, b_so, toI1, e_no, e_sx, e_ret, e_retN, e_sif, put_fz, put_ow, nxO1, e_set, asg_fz, asg_ow, e_asg, g_nm, g_nl, g_cn, obind1, g_tuT, g_tuL, e_par2, e_par3, stO1, e_stS, e_stT, bind1, ofR1, d_fz, d_ow, d_bw, frz_fz, frz_ow, frz_bw, nb_nil, nb_fz, nb_ow, nb_bw, v_add, v_sub, v_neg, v_lt, v_gt, v_le, v_ge, v_is, v_isNot, v_eqS, v_neS, v_eq, v_ne, v_eqB, v_neB, v_ixT, v_ixL, at0, at1, at2, at3, at4, at5, map1, v_lenL, v_lenT, v_abs, v_int, v_intB, v_max2, v_min2, v_max3, v_min3, v_tupL, v_tupT, v_lstL, v_lstT, k_int_none, k_int_bool, k_int_int, k_int_str, k_int_list, k_int_tuple, k_bool_none, k_bool_bool, k_bool_int, k_bool_str, k_bool_list, k_bool_tuple, k_str_none, k_str_bool, k_str_int, k_str_str, k_str_list, k_str_tuple, k_list_none, k_list_bool, k_list_int, k_list_str, k_list_list, k_list_tuple, k_tuple_none, k_tuple_bool, k_tuple_int, k_tuple_str, k_tuple_list, k_tuple_tuple, k_dict_none, k_dict_bool, k_dict_int, k_dict_str, k_dict_list, k_dict_tuple, Int.cast_ofNat_Int, Nat.reduceAdd, Nat.reduceLeDiff, e_lc, e_iseq, seqI_fl, seqI_ft, seqI_ol, seqI_ot, lcS1, lcN1, val_fz, val_ow, t_true, wipe0, wipe1, mkL1, noX1, loopS1, loop_nx, loop_ct, loop_bk, loop_rt, loop_exc, e_for, v_allD, v_anyD, bools_map, ints_map, bools0, bools1, ints0, ints1, size_eq, decide_true, decide_false, true_or, or_true, eq_self, and_true, true_and, List.all_cons, List.all_nil, List.any_cons, List.any_nil, id_eq, isN, List.map_cons, List.map_nil, List.length_cons, List.length_nil, List.getElem?_cons_zero, List.getElem?_cons_succ, List.set_cons_zero, List.set_cons_succ, decide_eq_true_eq, if_true, Bool.or_true, Bool.true_or, Bool.and_true, Bool.true_and, Bool.false_eq_true, if_false, Bool.not_true, Bool.not_false, Bool.or_false, Bool.false_or, Bool.and_false, Bool.false_and, BEq.rfl, e_sortK, k_sortK, e_lc2, k_lc2c, mkD1, e_dc, k_dc, e_dc0, e_stD, stD1, o_stD1f, o_stD1o, o_stD2, e_slk, lk1, e_elk, lke1, unlO_nx, unlO_bk, unlO_ct, unlO_rt, unl_nil, unl_cons, unl1_no, unl1_fz, unl1_ow, unl1_lk, e_items, items1, e_keysD, keysD1, e_en, k_enL, k_enT, k_enO, e_zp, k_zp, e_fnL, k_fnL, e_fnL0, e_fnC, e_fnC0, callC1, k_C, outC1, v_ixTA, v_ixLA, bind_some, boolsM, all_mapI, any_mapI, allT, e_app, app1, o_appf, o_appo, e_frz, frzo1, frzo2, v_ixP (sub t ht)]
        unfold webF
        simp only [k_op1, k_op2, k_un, k_call, k_b, k_and, k_or, k_not, k_eand, k_eor, k_enot, k_if, k_c1, k_c2, k_c3, k_cons1, k_cons2, k_tup, k_lst, k_fn, k_fnS, k_fnK, k_isi, k_sl1, k_sl2, k_sl3, k_i, o_sx, o_ret, o_if, o_set, o_asg, o_par2, o_par3, o_stS, o_stT, o_for, k_seq, k_rg1, k_rg2, e_rg1, e_rg2, rg1_1, rg2_1, k_lc, k_lt, k_le, k_lc2, k_fnF, e_fnF, run1, e_seq, seq_nx, seq_rt, seq_ct, seq_bk, fin_nx, fin_rt, given_fz, given_ow, given_bw, e_var, e_op, e_un, e_call, e_c, lift1, e_asB, toB1, e_tand, e_tor, e_tnot, e_and, e_or, e_not, e_if, e_chain, chn1, e_nil, e_cons, e_tup, e_lst, e_fn, e_fnS, e_fnK, e_isi, isiR1, outR1, outS1, e_stG, e_sl, b_no, b_so, toI1, e_no, e_sx, e_ret, e_retN, e_sif, put_fz, put_ow, nxO1, e_set, asg_fz, asg_ow, e_asg, g_nm, g_nl, g_cn, obind1, g_tuT, g_tuL, e_par2, e_par3, stO1, e_stS, e_stT, bind1, ofR1, d_fz, d_ow, d_bw, frz_fz, frz_ow, frz_bw, nb_nil, nb_fz, nb_ow, nb_bw, v_add, v_sub, v_neg, v_lt, v_gt, v_le, v_ge, v_is, v_isNot, v_eqS, v_neS, v_eq, v_ne, v_eqB, v_neB, v_ixT, v_ixL, at0, at1, at2, at3, at4, at5, map1, v_lenL, v_lenT, v_abs, v_int, v_intB, v_max2, v_min2, v_max3, v_min3, v_tupL, v_tupT, v_lstL, v_lstT, k_int_none, k_int_bool, k_int_int, k_int_str, k_int_list, k_int_tuple, k_bool_none, k_bool_bool, k_bool_int, k_bool_str, k_bool_list, k_bool_tuple, k_str_none, k_str_bool, k_str_int, k_str_str, k_str_list, k_str_tuple, k_list_none, k_list_bool, k_list_int, k_list_str, k_list_list, k_list_tuple, k_tuple_none, k_tuple_bool, k_tuple_int, k_tuple_str, k_tuple_list, k_tuple_tuple, k_dict_none, k_dict_bool, k_dict_int, k_dict_str, k_dict_list, k_dict_tuple, Int.cast_ofNat_Int, Nat.reduceAdd, Nat.reduceLeDiff, e_lc, e_iseq, seqI_fl, seqI_ft, seqI_ol, seqI_ot, lcS1, lcN1, val_fz, val_ow, t_true, wipe0, wipe1, mkL1, noX1, loopS1, loop_nx, loop_ct, loop_bk, loop_rt, loop_exc, e_for, v_allD, v_anyD, bools_map, ints_map, bools0, bools1, ints0, ints1, size_eq, decide_true, decide_false, true_or, or_true, eq_self, and_true, true_and, List.all_cons, List.all_nil, List.any_cons, List.any_nil, id_eq, isN, List.map_cons, List.map_nil, List.length_cons, List.length_nil, List.getElem?_cons_zero, List.getElem?_cons_succ, List.set_cons_zero, List.set_cons_succ, decide_eq_true_eq, if_true, Bool.or_true, Bool.true_or, Bool.and_true, Bool.true_and, Bool.false_eq_true, if_false, Bool.not_true, Bool.not_false, Bool.or_false, Bool.false_or, Bool.and_false, Bool.false_and, BEq.rfl, e_sortK, k_sortK, e_lc2, k_lc2c, mkD1, e_dc, k_dc, e_dc0, e_stD, stD1, o_stD1f, o_stD1o, o_stD2, e_slk, lk1, e_elk, lke1, unlO_nx, unlO_bk, unlO_ct, unlO_rt, unl_nil, unl_cons, unl1_no, unl1_fz, unl1_ow, unl1_lk, e_items, items1, e_keysD, keysD1, e_en, k_enL, k_enT, k_enO, e_zp, k_zp, e_fnL, k_fnL, e_fnL0, e_fnC, e_fnC0, callC1, k_C, outC1, v_ixTA, v_ixLA, bind_some, boolsM, all_mapI, any_mapI, allT, e_app, app1, o_appf, o_appo, e_frz, frzo1, frzo2]
        rw [lc_filterE pr (fun u => !decide (u ∈ l)) (fun _ => .int 1)]
        · simp only [k_op1, k_op2, k_un, k_call, k_b, k_and, k_or, k_not, k_eand, k_eor, k_enot, k_if, k_c1, k_c2, k_c3, k_cons1, k_cons2, k_tup, k_lst, k_fn, k_fnS, k_fnK, k_isi, k_sl1, k_sl2, k_sl3, k_i, o_sx, o_ret, o_if, o_set, o_asg, o_par2, o_par3, o_stS, o_stT, o_for, k_seq, k_rg1, k_rg2, e_rg1, e_rg2, rg1_1, rg2_1, k_lc, k_lt, k_le, k_lc2, k_fnF, e_fnF, run1, e_seq, seq_nx, seq_rt, seq_ct, seq_bk, fin_nx, fin_rt, given_fz, given_ow, given_bw, e_var, e_op, e_un, e_call, e_c, lift1, e_asB, toB1, e_tand, e_tor, e_tnot, e_and, e_or, e_not, e_if, e_chain, chn1, e_nil, e_cons, e_tup, e_lst, e_fn, e_fnS, e_fnK, e_isi, isiR1, outR1, outS1, e_stG, e_sl, b_no, b_so, toI1, e_no, e_sx, e_ret, e_retN, e_sif, put_fz, put_ow, nxO1, e_set, asg_fz, asg_ow, e_asg, g_nm, g_nl, g_cn, obind1, g_tuT, g_tuL, e_par2, e_par3, stO1, e_stS, e_stT, bind1, ofR1, d_fz, d_ow, d_bw, frz_fz, frz_ow, frz_bw, nb_nil, nb_fz, nb_ow, nb_bw, v_add, v_sub, v_neg, v_lt, v_gt, v_le, v_ge, v_is, v_isNot, v_eqS, v_neS, v_eq, v_ne, v_eqB, v_neB, v_ixT, v_ixL, at0, at1, at2, at3, at4, at5, map1, v_lenL, v_lenT, v_abs, v_int, v_intB, v_max2, v_min2, v_max3, v_min3, v_tupL, v_tupT, v_lstL, v_lstT, k_int_none, k_int_bool, k_int_int, k_int_str, k_int_list, k_int_tuple, k_bool_none, k_bool_bool, k_bool_int, k_bool_str, k_bool_list, k_bool_tuple, k_str_none, k_str_bool, k_str_int, k_str_str, k_str_list, k_str_tuple, k_list_none, k_list_bool, k_list_int, k_list_str, k_list_list, k_list_tuple, k_tuple_none, k_tuple_bool, k_tuple_int, k_tuple_str, k_tuple_list, k_tuple_tuple, k_dict_none, k_dict_bool, k_dict_int, k_dict_str, k_dict_list, k_dict_tuple, Int.cast_ofNat_Int, Nat.reduceAdd, Nat.reduceLeDiff, e_lc, e_iseq, seqI_fl, seqI_ft, seqI_ol, seqI_ot, lcS1, lcN1, val_fz, val_ow, t_true, wipe0, wipe1, mkL1, noX1, loopS1, loop_nx, loop_ct, loop_bk, loop_rt, loop_exc, e_for, v_allD, v_anyD, bools_map, ints_map, bools0, bools1, ints0, ints1, size_eq, decide_true, decide_false, true_or, or_true, eq_self, and_true, true_and, List.all_cons, List.all_nil, List.any_cons, List.any_nil, id_eq, isN, List.map_cons, List.map_nil, List.length_cons, List.length_nil, List.getElem?_cons_zero, List.getElem?_cons_succ, List.set_cons_zero, List.set_cons_succ, decide_eq_true_eq, if_true, Bool.or_true, Bool.true_or, Bool.and_true, Bool.true_and, Bool.false_eq_true, if_false, Bool.not_true, Bool.not_false, Bool.or_false, Bool.false_or, Bool.and_false, Bool.false_and, BEq.rfl, e_sortK, k_sortK, e_lc2, k_lc2c, mkD1, e_dc, k_dc, e_dc0, e_stD, stD1, o_stD1f, o_stD1o, o_stD2, e_slk, lk1, e_elk, lke1, unlO_nx, unlO_bk, unlO_ct, unlO_rt, unl_nil, unl_cons, unl1_no, unl1_fz, unl1_ow, unl1_lk, e_items, items1, e_keysD, keysD1, e_en, k_enL, k_enT, k_enO, e_zp, k_zp, e_fnL, k_fnL, e_fnL0, e_fnC, e_fnC0, callC1, k_C, outC1, v_ixTA, v_ixLA, bind_some, boolsM, all_mapI, any_mapI, allT, e_app, app1, o_appf, o_appo, e_frz, frzo1, frzo2, List.length_map, c1]
          rfl
        · intro u _
          refine ⟨_, rfl, ?_, fun _ => ⟨.fz (.int 1), rfl, rfl⟩⟩
          simp only [k_op1, k_op2, k_un, k_call, k_b, k_and, k_or, k_not, k_eand, k_eor, k_enot, k_if, k_c1, k_c2, k_c3, k_cons1, k_cons2, k_tup, k_lst, k_fn, k_fnS, k_fnK, k_isi, k_sl1, k_sl2, k_sl3, k_i, o_sx, o_ret, o_if, o_set, o_asg, o_par2, o_par3, o_stS, o_stT, o_for, k_seq, k_rg1, k_rg2, e_rg1, e_rg2, rg1_1, rg2_1, k_lc, k_lt, k_le, k_lc2, k_fnF, e_fnF, run1, e_seq, seq_nx, seq_rt, seq_ct, seq_bk, fin_nx, fin_rt, given_fz, given_ow, given_bw, e_var, e_op, e_un, e_call, e_c, lift1, e_asB, toB1, e_tand, e_tor, e_tnot, e_and, e_or, e_not, e_if, e_chain, chn1, e_nil, e_cons, e_tup, e_lst, e_fn, e_fnS, e_fnK, e_isi, isiR1, outR1, outS1, e_stG, e_sl, b_no, b_so, toI1, e_no, e_sx, e_ret, e_retN, e_sif, put_fz, put_ow, nxO1, e_set, asg_fz, asg_ow, e_asg, g_nm, g_nl, g_cn, obind1, g_tuT, g_tuL, e_par2, e_par3, stO1, e_stS, e_stT, bind1, ofR1, d_fz, d_ow, d_bw, frz_fz, frz_ow, frz_bw, nb_nil, nb_fz, nb_ow, nb_bw, v_add, v_sub, v_neg, v_lt, v_gt, v_le, v_ge, v_is, v_isNot, v_eqS, v_neS, v_eq, v_ne, v_eqB, v_neB, v_ixT, v_ixL, at0, at1, at2, at3, at4, at5, map1, v_lenL, v_lenT, v_abs, v_int, v_intB, v_max2, v_min2, v_max3, v_min3, v_tupL, v_tupT, v_lstL, v_lstT, k_int_none, k_int_bool, k_int_int, k_int_str, k_int_list, k_int_tuple, k_bool_none, k_bool_bool, k_bool_int, k_bool_str, k_bool_list, k_bool_tuple, k_str_none, k_str_bool, k_str_int, k_str_str, k_str_list, k_str_tuple, k_list_none, k_list_bool, k_list_int, k_list_str, k_list_list, k_list_tuple, k_tuple_none, k_tuple_bool, k_tuple_int, k_tuple_str, k_tuple_list, k_tuple_tuple, k_dict_none, k_dict_bool, k_dict_int, k_dict_str, k_dict_list, k_dict_tuple, Int.cast_ofNat_Int, Nat.reduceAdd, Nat.reduceLeDiff, e_lc, e_iseq, seqI_fl, seqI_ft, seqI_ol, seqI_ot, lcS1, lcN1, val_fz, val_ow, t_true, wipe0, wipe1, mkL1, noX1, loopS1, loop_nx, loop_ct, loop_bk, loop_rt, loop_exc, e_for, v_allD, v_anyD, bools_map, ints_map, bools0, bools1, ints0, ints1, size_eq, decide_true, decide_false, true_or, or_true, eq_self, and_true, true_and, List.all_cons, List.all_nil, List.any_cons, List.any_nil, id_eq, isN, List.map_cons, List.map_nil, List.length_cons, List.length_nil, List.getElem?_cons_zero, List.getElem?_cons_succ, List.set_cons_zero, List.set_cons_succ, decide_eq_true_eq, if_true, Bool.or_true, Bool.true_or, Bool.and_true, Bool.true_and, Bool.false_eq_true, if_false, Bool.not_true, Bool.not_false, Bool.or_false, Bool.false_or, Bool.and_false, Bool.false_and, BEq.rfl, e_sortK, k_sortK, e_lc2, k_lc2c, mkD1, e_dc, k_dc, e_dc0, e_stD, stD1, o_stD1f, o_stD1o, o_stD2, e_slk, lk1, e_elk, lke1, unlO_nx, unlO_bk, unlO_ct, unlO_rt, unl_nil, unl_cons, unl1_no, unl1_fz, unl1_ow, unl1_lk, e_items, items1, e_keysD, keysD1, e_en, k_enL, k_enT, k_enO, e_zp, k_zp, e_fnL, k_fnL, e_fnL0, e_fnC, e_fnC0, callC1, k_C, outC1, v_ixTA, v_ixLA, bind_some, boolsM, all_mapI, any_mapI, allT, e_app, app1, o_appf, o_appo, e_frz, frzo1, frzo2, v_notInP]
      refine ⟨_, rfl, fun hq => ?_, fun hq => ⟨_, st.trans (if_neg (by simp only [Bool.not_eq_false', decide_eq_true_eq] at hq; omega)), _, _, _, rfl⟩⟩
      exact st.trans (if_pos (by simp only [Bool.not_eq_true', decide_eq_false_iff_not] at hq; omega))) ⟨_, _, _, rfl⟩
  have es : snugB F n m l = (l.find? fun t => !decide (((outs n m l t).length : Int) < need F t)).isNone := by
    rw [find_all]
    simp only [Bool.not_not]
    rfl
  rcases hL with ⟨_, hn, e, x3, x4, x5, rfl⟩ | ⟨x, hx, e⟩
  · rw [e, es, hn]
    simp only [k_op1, k_op2, k_un, k_call, k_b, k_and, k_or, k_not, k_eand, k_eor, k_enot, k_if, k_c1, k_c2, k_c3, k_cons1, k_cons2, k_tup, k_lst, k_fn, k_fnS, k_fnK, k_isi, k_sl1, k_sl2, k_sl3, k_i, o_sx, o_ret, o_if, o_set, o_asg, o_par2, o_par3, o_stS, o_stT, o_for, k_seq, k_rg1, k_rg2, e_rg1, e_rg2, rg1_1, rg2_1, k_lc, k_lt, k_le, k_lc2, k_fnF, e_fnF, run1, e_seq, seq_nx, seq_rt, seq_ct, seq_bk, fin_nx, fin_rt, given_fz, given_ow, given_bw, e_var, e_op, e_un, e_call, e_c, lift1, e_asB, toB1, e_tand, e_tor, e_tnot, e_and, e_or, e_not, e_if, e_chain, chn1, e_nil, e_cons, e_tup, e_lst, e_fn, e_fnS, e_fnK, e_isi, isiR1, outR1, outS1, e_stG, e_sl, b_no, b_so, toI1, e_no, e_sx, e_ret, e_retN, e_sif, put_fz, put_ow, nxO1, e_set, asg_fz, asg_ow, e_asg, g_nm, g_nl, g_cn, obind1, g_tuT, g_tuL, e_par2, e_par3, stO1, e_stS, e_stT, bind1, ofR1, d_fz, d_ow, d_bw, frz_fz, frz_ow, frz_bw, nb_nil, nb_fz, nb_ow, nb_bw, v_add, v_sub, v_neg, v_lt, v_gt, v_le, v_ge, v_is, v_isNot, v_eqS, v_neS, v_eq, v_ne, v_eqB, v_neB, v_ixT, v_ixL, at0, at1, at2, at3, at4, at5, map1, v_lenL, v_lenT, v_abs, v_int, v_intB, v_max2, v_min2, v_max3, v_min3, v_tupL, v_tupT, v_lstL, v_lstT, k_int_none, k_int_bool, k_int_int, k_int_str, k_int_list, k_int_tuple, k_bool_none, k_bool_bool, k_bool_int, k_bool_str, k_bool_list, k_bool_tuple, k_str_none, k_str_bool, k_str_int, k_str_str, k_str_list, k_str_tuple, k_list_none, k_list_bool, k_list_int, k_list_str, k_list_list, k_list_tuple, k_tuple_none, k_tuple_bool, k_tuple_int, k_tuple_str, k_tuple_list, k_tuple_tuple, k_dict_none, k_dict_bool, k_dict_int, k_dict_str, k_dict_list, k_dict_tuple, Int.cast_ofNat_Int, Nat.reduceAdd, Nat.reduceLeDiff, e_lc, e_iseq, seqI_fl, seqI_ft, seqI_ol, seqI_ot, lcS1, lcN1, val_fz, val_ow, t_true, wipe0, wipe1, mkL1, noX1, loopS1, loop_nx, loop_ct, loop_bk, loop_rt, loop_exc, e_for, v_allD, v_anyD, bools_map, ints_map, bools0, bools1, ints0, ints1, size_eq, decide_true, decide_false, true_or, or_true, eq_self, and_true, true_and, List.all_cons, List.all_nil, List.any_cons, List.any_nil, id_eq, isN, List.map_cons, List.map_nil, List.length_cons, List.length_nil, List.getElem?_cons_zero, List.getElem?_cons_succ, List.set_cons_zero, List.set_cons_succ, decide_eq_true_eq, if_true, Bool.or_true, Bool.true_or, Bool.and_true, Bool.true_and, Bool.false_eq_true, if_false, Bool.not_true, Bool.not_false, Bool.or_false, Bool.false_or, Bool.and_false, Bool.false_and, BEq.rfl, e_sortK, k_sortK, e_lc2, k_lc2c, mkD1, e_dc, k_dc, e_dc0, e_stD, stD1, o_stD1f, o_stD1o, o_stD2, e_slk, lk1, e_elk, lke1, unlO_nx, unlO_bk, unlO_ct, unlO_rt, unl_nil, unl_cons, unl1_no, unl1_fz, unl1_ow, unl1_lk, e_items, items1, e_keysD, keysD1, e_en, k_enL, k_enT, k_enO, e_zp, k_zp, e_fnL, k_fnL, e_fnL0, e_fnC, e_fnC0, callC1, k_C, outC1, v_ixTA, v_ixLA, bind_some, boolsM, all_mapI, any_mapI, allT, e_app, app1, o_appf, o_appo, e_frz, frzo1, frzo2]
  · rw [e, es, hx]
    rfl
def telling (F F' : List (List Int)) (n m : Nat) : Option (List Tl) := (lots (tiles n m)).find? fun l => !l.isEmpty && (snugB F' n m l && !snugB F n m l)
def tellD : Option (List Tl) → D
  | some l => lotT l
  | none => .none
theorem p_first (h : Fl F n m) {F' : List (List Int)} (h' : Fl F' n m) (c : n * m ≤ 12) (w : List Int) : S_first_telling [] [.fz (flD F), .fz (flD F')] w = .ok (.fz (tellD (telling F F' n m)), w) := by
  rw [u_first_telling]
  unfold g_first_telling
  simp only [k_op1, k_op2, k_un, k_call, k_b, k_and, k_or, k_not, k_eand, k_eor, k_enot, k_if, k_c1, k_c2, k_c3, k_cons1, k_cons2, k_tup, k_lst, k_fn, k_fnS, k_fnK, k_isi, k_sl1, k_sl2, k_sl3, k_i, o_sx, o_ret, o_if, o_set, o_asg, o_par2, o_par3, o_stS, o_stT, o_for, k_seq, k_rg1, k_rg2, e_rg1, e_rg2, rg1_1, rg2_1, k_lc, k_lt, k_le, k_lc2, k_fnF, e_fnF, run1, e_seq, seq_nx, seq_rt, seq_ct, seq_bk, fin_nx, fin_rt, given_fz, given_ow, given_bw, e_var, e_op, e_un, e_call, e_c, lift1, e_asB, toB1, e_tand, e_tor, e_tnot, e_and, e_or, e_not, e_if, e_chain, chn1, e_nil, e_cons, e_tup, e_lst, e_fn, e_fnS, e_fnK, e_isi, isiR1, outR1, outS1, e_stG, e_sl, b_no, b_so, toI1, e_no, e_sx, e_ret, e_retN, e_sif, put_fz, put_ow, nxO1, e_set, asg_fz, asg_ow, e_asg, g_nm, g_nl, g_cn, obind1, g_tuT, g_tuL, e_par2, e_par3, stO1, e_stS, e_stT, bind1, ofR1, d_fz, d_ow, d_bw, frz_fz, frz_ow, frz_bw, nb_nil, nb_fz, nb_ow, nb_bw, v_add, v_sub, v_neg, v_lt, v_gt, v_le, v_ge, v_is, v_isNot, v_eqS, v_neS, v_eq, v_ne, v_eqB, v_neB, v_ixT, v_ixL, at0, at1, at2, at3, at4, at5, map1, v_lenL, v_lenT, v_abs, v_int, v_intB, v_max2, v_min2, v_max3, v_min3, v_tupL, v_tupT, v_lstL, v_lstT, k_int_none, k_int_bool, k_int_int, k_int_str, k_int_list, k_int_tuple, k_bool_none, k_bool_bool, k_bool_int, k_bool_str, k_bool_list, k_bool_tuple, k_str_none, k_str_bool, k_str_int, k_str_str, k_str_list, k_str_tuple, k_list_none, k_list_bool, k_list_int, k_list_str, k_list_list, k_list_tuple, k_tuple_none, k_tuple_bool, k_tuple_int, k_tuple_str, k_tuple_list, k_tuple_tuple, k_dict_none, k_dict_bool, k_dict_int, k_dict_str, k_dict_list, k_dict_tuple, Int.cast_ofNat_Int, Nat.reduceAdd, Nat.reduceLeDiff, e_lc, e_iseq, seqI_fl, seqI_ft, seqI_ol, seqI_ot, lcS1, lcN1, val_fz, val_ow, t_true, wipe0, wipe1, mkL1, noX1, loopS1, loop_nx, loop_ct, loop_bk, loop_rt, loop_exc, e_for, v_allD, v_anyD, bools_map, ints_map, bools0, bools1, ints0, ints1, size_eq, decide_true, decide_false, true_or, or_true, eq_self, and_true, true_and, List.all_cons, List.all_nil, List.any_cons, List.any_nil, id_eq, isN, List.map_cons, List.map_nil, List.length_cons, List.length_nil, List.getElem?_cons_zero, List.getElem?_cons_succ, List.set_cons_zero, List.set_cons_succ, decide_eq_true_eq, if_true, Bool.or_true, Bool.true_or, Bool.and_true, Bool.true_and, Bool.false_eq_true, if_false, Bool.not_true, Bool.not_false, Bool.or_false, Bool.false_or, Bool.and_false, Bool.false_and, BEq.rfl, e_sortK, k_sortK, e_lc2, k_lc2c, mkD1, e_dc, k_dc, e_dc0, e_stD, stD1, o_stD1f, o_stD1o, o_stD2, e_slk, lk1, e_elk, lke1, unlO_nx, unlO_bk, unlO_ct, unlO_rt, unl_nil, unl_cons, unl1_no, unl1_fz, unl1_ow, unl1_lk, e_items, items1, e_keysD, keysD1, e_en, k_enL, k_enT, k_enO, e_zp, k_zp, e_fnL, k_fnL, e_fnL0, e_fnC, e_fnC0, callC1, k_C, outC1, v_ixTA, v_ixLA, bind_some, boolsM, all_mapI, any_mapI, allT, e_app, app1, o_appf, o_appo, e_frz, frzo1, frzo2, p_web h, p_web h', p_lots h c, indep, pure?]
  have hL := loop_find (b := gNm 4) (w := w) (g := sIf (tAnd' (asB (eOp fNe (eVar 4) (eTup (aNil)))) (tAnd' (asB (eFn 2 S_is_snug_by (aCons (eVar 3) (aCons (eVar 4) (aNil))))) (tNot' (asB (eFn 2 S_is_snug_by (aCons (eVar 2) (aCons (eVar 4) (aNil)))))))) (sRet (eVar 4)) (sNo))
    lotT (fun l => !l.isEmpty && (snugB F' n m l && !snugB F n m l)) (fun l => .fz (lotT l)) (fun ρ => ∃ x4, ρ = [some (.fz (flD F)), some (.fz (flD F')), some (.fz (.dict (web F n m))), some (.fz (.dict (web F' n m))), x4]) (l := lots (tiles n m))
    (ρ := [some (.fz (flD F)), some (.fz (flD F')), some (.fz (.dict (web F n m))), some (.fz (.dict (web F' n m))), none]) (by
      rintro l hl _ ⟨x4, rfl⟩
      have hs := mem_lots.mp hl
      obtain ⟨nd, sub, len⟩ := lot_ok hs (tiles_up n m)
      have sml : Sm l := (tiles_sm h.n6 h.m6).sub sub
      have ne : fNe (lotT l) (.tuple []) = some (.fz (.bool (!l.isEmpty))) := by rw [v_neNilT (cmp_lot sml), isEmpty_map]
      have st : sIf (tAnd' (asB (eOp fNe (eVar 4) (eTup (aNil)))) (tAnd' (asB (eFn 2 S_is_snug_by (aCons (eVar 3) (aCons (eVar 4) (aNil))))) (tNot' (asB (eFn 2 S_is_snug_by (aCons (eVar 2) (aCons (eVar 4) (aNil)))))))) (sRet (eVar 4)) (sNo) [some (.fz (flD F)), some (.fz (flD F')), some (.fz (.dict (web F n m))), some (.fz (.dict (web F' n m))), some (.fz (lotT l))] w =
          if (!l.isEmpty && (snugB F' n m l && !snugB F n m l)) = true then .rt (.fz (lotT l)) w else .nx [some (.fz (flD F)), some (.fz (flD F')), some (.fz (.dict (web F n m))), some (.fz (.dict (web F' n m))), some (.fz (lotT l))] w := by
        cases q1 : l.isEmpty <;> cases q2 : snugB F' n m l <;> cases q3 : snugB F n m l <;> simp only [k_op1, k_op2, k_un, k_call, k_b, k_and, k_or, k_not, k_eand, k_eor, k_enot, k_if, k_c1, k_c2, k_c3, k_cons1, k_cons2, k_tup, k_lst, k_fn, k_fnS, k_fnK, k_isi, k_sl1, k_sl2, k_sl3, k_i, o_sx, o_ret, o_if, o_set, o_asg, o_par2, o_par3, o_stS, o_stT, o_for, k_seq, k_rg1, k_rg2, e_rg1, e_rg2, rg1_1, rg2_1, k_lc, k_lt, k_le, k_lc2, k_fnF, e_fnF, run1, e_seq, seq_nx, seq_rt, seq_ct, seq_bk, fin_nx, fin_rt, given_fz, given_ow, given_bw, e_var, e_op, e_un, e_call, e_c, lift1, e_asB, toB1, e_tand, e_tor, e_tnot, e_and, e_or, e_not, e_if, e_chain, chn1, e_nil, e_cons, e_tup, e_lst, e_fn, e_fnS, e_fnK, e_isi, isiR1, outR1, outS1, e_stG, e_sl, b_no, b_so, toI1, e_no, e_sx, e_ret, e_retN, e_sif, put_fz, put_ow, nxO1, e_set, asg_fz, asg_ow, e_asg, g_nm, g_nl, g_cn, obind1, g_tuT, g_tuL, e_par2, e_par3, stO1, e_stS, e_stT, bind1, ofR1, d_fz, d_ow, d_bw, frz_fz, frz_ow, frz_bw, nb_nil, nb_fz, nb_ow, nb_bw, v_add, v_sub, v_neg, v_lt, v_gt, v_le, v_ge, v_is, v_isNot, v_eqS, v_neS, v_eq, v_ne, v_eqB, v_neB, v_ixT, v_ixL, at0, at1, at2, at3, at4, at5, map1, v_lenL, v_lenT, v_abs, v_int, v_intB, v_max2, v_min2, v_max3, v_min3, v_tupL, v_tupT, v_lstL, v_lstT, k_int_none, k_int_bool, k_int_int, k_int_str, k_int_list, k_int_tuple, k_bool_none, k_bool_bool, k_bool_int, k_bool_str, k_bool_list, k_bool_tuple, k_str_none, k_str_bool, k_str_int, k_str_str, k_str_list, k_str_tuple, k_list_none, k_list_bool, k_list_int, k_list_str, k_list_list, k_list_tuple, k_tuple_none, k_tuple_bool, k_tuple_int, k_tuple_str, k_tuple_list, k_tuple_tuple, k_dict_none, k_dict_bool, k_dict_int, k_dict_str, k_dict_list, k_dict_tuple, Int.cast_ofNat_Int, Nat.reduceAdd, Nat.reduceLeDiff, e_lc, e_iseq, seqI_fl, seqI_ft, seqI_ol, seqI_ot, lcS1, lcN1, val_fz, val_ow, t_true, wipe0, wipe1, mkL1, noX1, loopS1, loop_nx, loop_ct, loop_bk, loop_rt, loop_exc, e_for, v_allD, v_anyD, bools_map, ints_map, bools0, bools1, ints0, ints1, size_eq, decide_true, decide_false, true_or, or_true, eq_self, and_true, true_and, List.all_cons, List.all_nil, List.any_cons, List.any_nil, id_eq, isN, List.map_cons, List.map_nil, List.length_cons, List.length_nil, List.getElem?_cons_zero, List.getElem?_cons_succ, List.set_cons_zero, List.set_cons_succ, decide_eq_true_eq, if_true, Bool.or_true, Bool.true_or, Bool.and_true, Bool.true_and, Bool.false_eq_true, if_false, Bool.not_true, Bool.not_false, Bool.or_false, Bool.false_or, Bool.and_false, Bool.false_and, BEq.rfl, e_sortK, k_sortK, e_lc2, k_lc2c, mkD1, e_dc, k_dc, e_dc0, e_stD, stD1, o_stD1f, o_stD1o, o_stD2, e_slk, lk1, e_elk, lke1, unlO_nx, unlO_bk, unlO_ct, unlO_rt, unl_nil, unl_cons, unl1_no, unl1_fz, unl1_ow, unl1_lk, e_items, items1, e_keysD, keysD1, e_en, k_enL, k_enT, k_enO, e_zp, k_zp, e_fnL, k_fnL, e_fnL0, e_fnC, e_fnC0, callC1, k_C, outC1, v_ixTA, v_ixLA, bind_some, boolsM, all_mapI, any_mapI, allT, e_app, app1, o_appf, o_appo, e_frz, frzo1, frzo2, ne, p_snug h hs, p_snug h' hs, q1, q2, q3, indep, pure?]
      refine ⟨_, rfl, fun hq => ?_, fun hq => ⟨_, st.trans (if_neg (by rw [hq]; simp)), _, rfl⟩⟩
      exact st.trans (if_pos hq)) ⟨_, rfl⟩
  unfold telling
  rcases hL with ⟨_, hn, e, x4, rfl⟩ | ⟨x, hx, e⟩
  · rw [e, Option.isNone_iff_eq_none.mp hn]
    simp only [k_op1, k_op2, k_un, k_call, k_b, k_and, k_or, k_not, k_eand, k_eor, k_enot, k_if, k_c1, k_c2, k_c3, k_cons1, k_cons2, k_tup, k_lst, k_fn, k_fnS, k_fnK, k_isi, k_sl1, k_sl2, k_sl3, k_i, o_sx, o_ret, o_if, o_set, o_asg, o_par2, o_par3, o_stS, o_stT, o_for, k_seq, k_rg1, k_rg2, e_rg1, e_rg2, rg1_1, rg2_1, k_lc, k_lt, k_le, k_lc2, k_fnF, e_fnF, run1, e_seq, seq_nx, seq_rt, seq_ct, seq_bk, fin_nx, fin_rt, given_fz, given_ow, given_bw, e_var, e_op, e_un, e_call, e_c, lift1, e_asB, toB1, e_tand, e_tor, e_tnot, e_and, e_or, e_not, e_if, e_chain, chn1, e_nil, e_cons, e_tup, e_lst, e_fn, e_fnS, e_fnK, e_isi, isiR1, outR1, outS1, e_stG, e_sl, b_no, b_so, toI1, e_no, e_sx, e_ret, e_retN, e_sif, put_fz, put_ow, nxO1, e_set, asg_fz, asg_ow, e_asg, g_nm, g_nl, g_cn, obind1, g_tuT, g_tuL, e_par2, e_par3, stO1, e_stS, e_stT, bind1, ofR1, d_fz, d_ow, d_bw, frz_fz, frz_ow, frz_bw, nb_nil, nb_fz, nb_ow, nb_bw, v_add, v_sub, v_neg, v_lt, v_gt, v_le, v_ge, v_is, v_isNot, v_eqS, v_neS, v_eq, v_ne, v_eqB, v_neB, v_ixT, v_ixL, at0, at1, at2, at3, at4, at5, map1, v_lenL, v_lenT, v_abs, v_int, v_intB, v_max2, v_min2, v_max3, v_min3, v_tupL, v_tupT, v_lstL, v_lstT, k_int_none, k_int_bool, k_int_int, k_int_str, k_int_list, k_int_tuple, k_bool_none, k_bool_bool, k_bool_int, k_bool_str, k_bool_list, k_bool_tuple, k_str_none, k_str_bool, k_str_int, k_str_str, k_str_list, k_str_tuple, k_list_none, k_list_bool, k_list_int, k_list_str, k_list_list, k_list_tuple, k_tuple_none, k_tuple_bool, k_tuple_int, k_tuple_str, k_tuple_list, k_tuple_tuple, k_dict_none, k_dict_bool, k_dict_int, k_dict_str, k_dict_list, k_dict_tuple, Int.cast_ofNat_Int, Nat.reduceAdd, Nat.reduceLeDiff, e_lc, e_iseq, seqI_fl, seqI_ft, seqI_ol, seqI_ot, lcS1, lcN1, val_fz, val_ow, t_true, wipe0, wipe1, mkL1, noX1, loopS1, loop_nx, loop_ct, loop_bk, loop_rt, loop_exc, e_for, v_allD, v_anyD, bools_map, ints_map, bools0, bools1, ints0, ints1, size_eq, decide_true, decide_false, true_or, or_true, eq_self, and_true, true_and, List.all_cons, List.all_nil, List.any_cons, List.any_nil, id_eq, isN, List.map_cons, List.map_nil, List.length_cons, List.length_nil, List.getElem?_cons_zero, List.getElem?_cons_succ, List.set_cons_zero, List.set_cons_succ, decide_eq_true_eq, if_true, Bool.or_true, Bool.true_or, Bool.and_true, Bool.true_and, Bool.false_eq_true, if_false, Bool.not_true, Bool.not_false, Bool.or_false, Bool.false_or, Bool.and_false, Bool.false_and, BEq.rfl, e_sortK, k_sortK, e_lc2, k_lc2c, mkD1, e_dc, k_dc, e_dc0, e_stD, stD1, o_stD1f, o_stD1o, o_stD2, e_slk, lk1, e_elk, lke1, unlO_nx, unlO_bk, unlO_ct, unlO_rt, unl_nil, unl_cons, unl1_no, unl1_fz, unl1_ow, unl1_lk, e_items, items1, e_keysD, keysD1, e_en, k_enL, k_enT, k_enO, e_zp, k_zp, e_fnL, k_fnL, e_fnL0, e_fnC, e_fnC0, callC1, k_C, outC1, v_ixTA, v_ixLA, bind_some, boolsM, all_mapI, any_mapI, allT, e_app, app1, o_appf, o_appo, e_frz, frzo1, frzo2]
    rfl
  · rw [e, hx]
    rfl
theorem p_check_like (h : Fl F n m) {F' : List (List Int)} (h' : Fl F' n m) (w : List Int) : S_check_like [] [.fz (flD F), .fz (flD F')] w = .ok (.fz .none, w) := by
  rw [u_check_like]
  unfold g_check_like
  have s1 : sm ((n : Int), (m : Int)) := sm_of (by have := h.n6; dsimp only; omega) (by have := h.m6; dsimp only; omega)
  simp only [k_op1, k_op2, k_un, k_call, k_b, k_and, k_or, k_not, k_eand, k_eor, k_enot, k_if, k_c1, k_c2, k_c3, k_cons1, k_cons2, k_tup, k_lst, k_fn, k_fnS, k_fnK, k_isi, k_sl1, k_sl2, k_sl3, k_i, o_sx, o_ret, o_if, o_set, o_asg, o_par2, o_par3, o_stS, o_stT, o_for, k_seq, k_rg1, k_rg2, e_rg1, e_rg2, rg1_1, rg2_1, k_lc, k_lt, k_le, k_lc2, k_fnF, e_fnF, run1, e_seq, seq_nx, seq_rt, seq_ct, seq_bk, fin_nx, fin_rt, given_fz, given_ow, given_bw, e_var, e_op, e_un, e_call, e_c, lift1, e_asB, toB1, e_tand, e_tor, e_tnot, e_and, e_or, e_not, e_if, e_chain, chn1, e_nil, e_cons, e_tup, e_lst, e_fn, e_fnS, e_fnK, e_isi, isiR1, outR1, outS1, e_stG, e_sl, b_no, b_so, toI1, e_no, e_sx, e_ret, e_retN, e_sif, put_fz, put_ow, nxO1, e_set, asg_fz, asg_ow, e_asg, g_nm, g_nl, g_cn, obind1, g_tuT, g_tuL, e_par2, e_par3, stO1, e_stS, e_stT, bind1, ofR1, d_fz, d_ow, d_bw, frz_fz, frz_ow, frz_bw, nb_nil, nb_fz, nb_ow, nb_bw, v_add, v_sub, v_neg, v_lt, v_gt, v_le, v_ge, v_is, v_isNot, v_eqS, v_neS, v_eq, v_ne, v_eqB, v_neB, v_ixT, v_ixL, at0, at1, at2, at3, at4, at5, map1, v_lenL, v_lenT, v_abs, v_int, v_intB, v_max2, v_min2, v_max3, v_min3, v_tupL, v_tupT, v_lstL, v_lstT, k_int_none, k_int_bool, k_int_int, k_int_str, k_int_list, k_int_tuple, k_bool_none, k_bool_bool, k_bool_int, k_bool_str, k_bool_list, k_bool_tuple, k_str_none, k_str_bool, k_str_int, k_str_str, k_str_list, k_str_tuple, k_list_none, k_list_bool, k_list_int, k_list_str, k_list_list, k_list_tuple, k_tuple_none, k_tuple_bool, k_tuple_int, k_tuple_str, k_tuple_list, k_tuple_tuple, k_dict_none, k_dict_bool, k_dict_int, k_dict_str, k_dict_list, k_dict_tuple, Int.cast_ofNat_Int, Nat.reduceAdd, Nat.reduceLeDiff, e_lc, e_iseq, seqI_fl, seqI_ft, seqI_ol, seqI_ot, lcS1, lcN1, val_fz, val_ow, t_true, wipe0, wipe1, mkL1, noX1, loopS1, loop_nx, loop_ct, loop_bk, loop_rt, loop_exc, e_for, v_allD, v_anyD, bools_map, ints_map, bools0, bools1, ints0, ints1, size_eq, decide_true, decide_false, true_or, or_true, eq_self, and_true, true_and, List.all_cons, List.all_nil, List.any_cons, List.any_nil, id_eq, isN, List.map_cons, List.map_nil, List.length_cons, List.length_nil, List.getElem?_cons_zero, List.getElem?_cons_succ, List.set_cons_zero, List.set_cons_succ, decide_eq_true_eq, if_true, Bool.or_true, Bool.true_or, Bool.and_true, Bool.true_and, Bool.false_eq_true, if_false, Bool.not_true, Bool.not_false, Bool.or_false, Bool.false_or, Bool.and_false, Bool.false_and, BEq.rfl, e_sortK, k_sortK, e_lc2, k_lc2c, mkD1, e_dc, k_dc, e_dc0, e_stD, stD1, o_stD1f, o_stD1o, o_stD2, e_slk, lk1, e_elk, lke1, unlO_nx, unlO_bk, unlO_ct, unlO_rt, unl_nil, unl_cons, unl1_no, unl1_fz, unl1_ow, unl1_lk, e_items, items1, e_keysD, keysD1, e_en, k_enL, k_enT, k_enO, e_zp, k_zp, e_fnL, k_fnL, e_fnL0, e_fnC, e_fnC0, callC1, k_C, outC1, v_ixTA, v_ixLA, bind_some, boolsM, all_mapI, any_mapI, allT, e_app, app1, o_appf, o_appo, e_frz, frzo1, frzo2, p_size h, p_size h', indep, pure?, v_neR (cmp_pr s1)]
theorem p_check_two (h : Fl F n m) {F' : List (List Int)} (h' : Fl F' n m) (w : List Int) : S_check_two [] [.fz (flD F), .fz (flD F')] w = .ok (.fz .none, w) := by
  rw [u_check_two]
  unfold g_check_two
  simp only [k_op1, k_op2, k_un, k_call, k_b, k_and, k_or, k_not, k_eand, k_eor, k_enot, k_if, k_c1, k_c2, k_c3, k_cons1, k_cons2, k_tup, k_lst, k_fn, k_fnS, k_fnK, k_isi, k_sl1, k_sl2, k_sl3, k_i, o_sx, o_ret, o_if, o_set, o_asg, o_par2, o_par3, o_stS, o_stT, o_for, k_seq, k_rg1, k_rg2, e_rg1, e_rg2, rg1_1, rg2_1, k_lc, k_lt, k_le, k_lc2, k_fnF, e_fnF, run1, e_seq, seq_nx, seq_rt, seq_ct, seq_bk, fin_nx, fin_rt, given_fz, given_ow, given_bw, e_var, e_op, e_un, e_call, e_c, lift1, e_asB, toB1, e_tand, e_tor, e_tnot, e_and, e_or, e_not, e_if, e_chain, chn1, e_nil, e_cons, e_tup, e_lst, e_fn, e_fnS, e_fnK, e_isi, isiR1, outR1, outS1, e_stG, e_sl, b_no, b_so, toI1, e_no, e_sx, e_ret, e_retN, e_sif, put_fz, put_ow, nxO1, e_set, asg_fz, asg_ow, e_asg, g_nm, g_nl, g_cn, obind1, g_tuT, g_tuL, e_par2, e_par3, stO1, e_stS, e_stT, bind1, ofR1, d_fz, d_ow, d_bw, frz_fz, frz_ow, frz_bw, nb_nil, nb_fz, nb_ow, nb_bw, v_add, v_sub, v_neg, v_lt, v_gt, v_le, v_ge, v_is, v_isNot, v_eqS, v_neS, v_eq, v_ne, v_eqB, v_neB, v_ixT, v_ixL, at0, at1, at2, at3, at4, at5, map1, v_lenL, v_lenT, v_abs, v_int, v_intB, v_max2, v_min2, v_max3, v_min3, v_tupL, v_tupT, v_lstL, v_lstT, k_int_none, k_int_bool, k_int_int, k_int_str, k_int_list, k_int_tuple, k_bool_none, k_bool_bool, k_bool_int, k_bool_str, k_bool_list, k_bool_tuple, k_str_none, k_str_bool, k_str_int, k_str_str, k_str_list, k_str_tuple, k_list_none, k_list_bool, k_list_int, k_list_str, k_list_list, k_list_tuple, k_tuple_none, k_tuple_bool, k_tuple_int, k_tuple_str, k_tuple_list, k_tuple_tuple, k_dict_none, k_dict_bool, k_dict_int, k_dict_str, k_dict_list, k_dict_tuple, Int.cast_ofNat_Int, Nat.reduceAdd, Nat.reduceLeDiff, e_lc, e_iseq, seqI_fl, seqI_ft, seqI_ol, seqI_ot, lcS1, lcN1, val_fz, val_ow, t_true, wipe0, wipe1, mkL1, noX1, loopS1, loop_nx, loop_ct, loop_bk, loop_rt, loop_exc, e_for, v_allD, v_anyD, bools_map, ints_map, bools0, bools1, ints0, ints1, size_eq, decide_true, decide_false, true_or, or_true, eq_self, and_true, true_and, List.all_cons, List.all_nil, List.any_cons, List.any_nil, id_eq, isN, List.map_cons, List.map_nil, List.length_cons, List.length_nil, List.getElem?_cons_zero, List.getElem?_cons_succ, List.set_cons_zero, List.set_cons_succ, decide_eq_true_eq, if_true, Bool.or_true, Bool.true_or, Bool.and_true, Bool.true_and, Bool.false_eq_true, if_false, Bool.not_true, Bool.not_false, Bool.or_false, Bool.false_or, Bool.and_false, Bool.false_and, BEq.rfl, e_sortK, k_sortK, e_lc2, k_lc2c, mkD1, e_dc, k_dc, e_dc0, e_stD, stD1, o_stD1f, o_stD1o, o_stD2, e_slk, lk1, e_elk, lke1, unlO_nx, unlO_bk, unlO_ct, unlO_rt, unl_nil, unl_cons, unl1_no, unl1_fz, unl1_ow, unl1_lk, e_items, items1, e_keysD, keysD1, e_en, k_enL, k_enT, k_enO, e_zp, k_zp, e_fnL, k_fnL, e_fnL0, e_fnC, e_fnC0, callC1, k_C, outC1, v_ixTA, v_ixLA, bind_some, boolsM, all_mapI, any_mapI, allT, e_app, app1, o_appf, o_appo, e_frz, frzo1, frzo2, p_check_floor h, p_check_floor h', p_check_like h h', indep, pure?]
theorem p_check_few_two (h : Fl F n m) {F' : List (List Int)} (h' : Fl F' n m) (c : n * m ≤ 12) (w : List Int) : S_check_few_two [] [.fz (flD F), .fz (flD F')] w = .ok (.fz .none, w) := by
  rw [u_check_few_two]
  unfold g_check_few_two
  simp only [k_op1, k_op2, k_un, k_call, k_b, k_and, k_or, k_not, k_eand, k_eor, k_enot, k_if, k_c1, k_c2, k_c3, k_cons1, k_cons2, k_tup, k_lst, k_fn, k_fnS, k_fnK, k_isi, k_sl1, k_sl2, k_sl3, k_i, o_sx, o_ret, o_if, o_set, o_asg, o_par2, o_par3, o_stS, o_stT, o_for, k_seq, k_rg1, k_rg2, e_rg1, e_rg2, rg1_1, rg2_1, k_lc, k_lt, k_le, k_lc2, k_fnF, e_fnF, run1, e_seq, seq_nx, seq_rt, seq_ct, seq_bk, fin_nx, fin_rt, given_fz, given_ow, given_bw, e_var, e_op, e_un, e_call, e_c, lift1, e_asB, toB1, e_tand, e_tor, e_tnot, e_and, e_or, e_not, e_if, e_chain, chn1, e_nil, e_cons, e_tup, e_lst, e_fn, e_fnS, e_fnK, e_isi, isiR1, outR1, outS1, e_stG, e_sl, b_no, b_so, toI1, e_no, e_sx, e_ret, e_retN, e_sif, put_fz, put_ow, nxO1, e_set, asg_fz, asg_ow, e_asg, g_nm, g_nl, g_cn, obind1, g_tuT, g_tuL, e_par2, e_par3, stO1, e_stS, e_stT, bind1, ofR1, d_fz, d_ow, d_bw, frz_fz, frz_ow, frz_bw, nb_nil, nb_fz, nb_ow, nb_bw, v_add, v_sub, v_neg, v_lt, v_gt, v_le, v_ge, v_is, v_isNot, v_eqS, v_neS, v_eq, v_ne, v_eqB, v_neB, v_ixT, v_ixL, at0, at1, at2, at3, at4, at5, map1, v_lenL, v_lenT, v_abs, v_int, v_intB, v_max2, v_min2, v_max3, v_min3, v_tupL, v_tupT, v_lstL, v_lstT, k_int_none, k_int_bool, k_int_int, k_int_str, k_int_list, k_int_tuple, k_bool_none, k_bool_bool, k_bool_int, k_bool_str, k_bool_list, k_bool_tuple, k_str_none, k_str_bool, k_str_int, k_str_str, k_str_list, k_str_tuple, k_list_none, k_list_bool, k_list_int, k_list_str, k_list_list, k_list_tuple, k_tuple_none, k_tuple_bool, k_tuple_int, k_tuple_str, k_tuple_list, k_tuple_tuple, k_dict_none, k_dict_bool, k_dict_int, k_dict_str, k_dict_list, k_dict_tuple, Int.cast_ofNat_Int, Nat.reduceAdd, Nat.reduceLeDiff, e_lc, e_iseq, seqI_fl, seqI_ft, seqI_ol, seqI_ot, lcS1, lcN1, val_fz, val_ow, t_true, wipe0, wipe1, mkL1, noX1, loopS1, loop_nx, loop_ct, loop_bk, loop_rt, loop_exc, e_for, v_allD, v_anyD, bools_map, ints_map, bools0, bools1, ints0, ints1, size_eq, decide_true, decide_false, true_or, or_true, eq_self, and_true, true_and, List.all_cons, List.all_nil, List.any_cons, List.any_nil, id_eq, isN, List.map_cons, List.map_nil, List.length_cons, List.length_nil, List.getElem?_cons_zero, List.getElem?_cons_succ, List.set_cons_zero, List.set_cons_succ, decide_eq_true_eq, if_true, Bool.or_true, Bool.true_or, Bool.and_true, Bool.true_and, Bool.false_eq_true, if_false, Bool.not_true, Bool.not_false, Bool.or_false, Bool.false_or, Bool.and_false, Bool.false_and, BEq.rfl, e_sortK, k_sortK, e_lc2, k_lc2c, mkD1, e_dc, k_dc, e_dc0, e_stD, stD1, o_stD1f, o_stD1o, o_stD2, e_slk, lk1, e_elk, lke1, unlO_nx, unlO_bk, unlO_ct, unlO_rt, unl_nil, unl_cons, unl1_no, unl1_fz, unl1_ow, unl1_lk, e_items, items1, e_keysD, keysD1, e_en, k_enL, k_enT, k_enO, e_zp, k_zp, e_fnL, k_fnL, e_fnL0, e_fnC, e_fnC0, callC1, k_C, outC1, v_ixTA, v_ixLA, bind_some, boolsM, all_mapI, any_mapI, allT, e_app, app1, o_appf, o_appo, e_frz, frzo1, frzo2, p_check_two h h', p_check_few h c, indep, pure?]
theorem isN_tell (o : Option (List Tl)) : isN (tellD o) = o.isNone := by cases o <;> rfl
theorem p_drier (h : Fl F n m) {F' : List (List Int)} (h' : Fl F' n m) (c : n * m ≤ 12) (w : List Int) : S_is_drier [] [.fz (flD F), .fz (flD F')] w = .ok (.fz (.bool (telling F F' n m).isNone), w) := by
  rw [u_is_drier]
  unfold g_is_drier
  simp only [k_op1, k_op2, k_un, k_call, k_b, k_and, k_or, k_not, k_eand, k_eor, k_enot, k_if, k_c1, k_c2, k_c3, k_cons1, k_cons2, k_tup, k_lst, k_fn, k_fnS, k_fnK, k_isi, k_sl1, k_sl2, k_sl3, k_i, o_sx, o_ret, o_if, o_set, o_asg, o_par2, o_par3, o_stS, o_stT, o_for, k_seq, k_rg1, k_rg2, e_rg1, e_rg2, rg1_1, rg2_1, k_lc, k_lt, k_le, k_lc2, k_fnF, e_fnF, run1, e_seq, seq_nx, seq_rt, seq_ct, seq_bk, fin_nx, fin_rt, given_fz, given_ow, given_bw, e_var, e_op, e_un, e_call, e_c, lift1, e_asB, toB1, e_tand, e_tor, e_tnot, e_and, e_or, e_not, e_if, e_chain, chn1, e_nil, e_cons, e_tup, e_lst, e_fn, e_fnS, e_fnK, e_isi, isiR1, outR1, outS1, e_stG, e_sl, b_no, b_so, toI1, e_no, e_sx, e_ret, e_retN, e_sif, put_fz, put_ow, nxO1, e_set, asg_fz, asg_ow, e_asg, g_nm, g_nl, g_cn, obind1, g_tuT, g_tuL, e_par2, e_par3, stO1, e_stS, e_stT, bind1, ofR1, d_fz, d_ow, d_bw, frz_fz, frz_ow, frz_bw, nb_nil, nb_fz, nb_ow, nb_bw, v_add, v_sub, v_neg, v_lt, v_gt, v_le, v_ge, v_is, v_isNot, v_eqS, v_neS, v_eq, v_ne, v_eqB, v_neB, v_ixT, v_ixL, at0, at1, at2, at3, at4, at5, map1, v_lenL, v_lenT, v_abs, v_int, v_intB, v_max2, v_min2, v_max3, v_min3, v_tupL, v_tupT, v_lstL, v_lstT, k_int_none, k_int_bool, k_int_int, k_int_str, k_int_list, k_int_tuple, k_bool_none, k_bool_bool, k_bool_int, k_bool_str, k_bool_list, k_bool_tuple, k_str_none, k_str_bool, k_str_int, k_str_str, k_str_list, k_str_tuple, k_list_none, k_list_bool, k_list_int, k_list_str, k_list_list, k_list_tuple, k_tuple_none, k_tuple_bool, k_tuple_int, k_tuple_str, k_tuple_list, k_tuple_tuple, k_dict_none, k_dict_bool, k_dict_int, k_dict_str, k_dict_list, k_dict_tuple, Int.cast_ofNat_Int, Nat.reduceAdd, Nat.reduceLeDiff, e_lc, e_iseq, seqI_fl, seqI_ft, seqI_ol, seqI_ot, lcS1, lcN1, val_fz, val_ow, t_true, wipe0, wipe1, mkL1, noX1, loopS1, loop_nx, loop_ct, loop_bk, loop_rt, loop_exc, e_for, v_allD, v_anyD, bools_map, ints_map, bools0, bools1, ints0, ints1, size_eq, decide_true, decide_false, true_or, or_true, eq_self, and_true, true_and, List.all_cons, List.all_nil, List.any_cons, List.any_nil, id_eq, isN, List.map_cons, List.map_nil, List.length_cons, List.length_nil, List.getElem?_cons_zero, List.getElem?_cons_succ, List.set_cons_zero, List.set_cons_succ, decide_eq_true_eq, if_true, Bool.or_true, Bool.true_or, Bool.and_true, Bool.true_and, Bool.false_eq_true, if_false, Bool.not_true, Bool.not_false, Bool.or_false, Bool.false_or, Bool.and_false, Bool.false_and, BEq.rfl, e_sortK, k_sortK, e_lc2, k_lc2c, mkD1, e_dc, k_dc, e_dc0, e_stD, stD1, o_stD1f, o_stD1o, o_stD2, e_slk, lk1, e_elk, lke1, unlO_nx, unlO_bk, unlO_ct, unlO_rt, unl_nil, unl_cons, unl1_no, unl1_fz, unl1_ow, unl1_lk, e_items, items1, e_keysD, keysD1, e_en, k_enL, k_enT, k_enO, e_zp, k_zp, e_fnL, k_fnL, e_fnL0, e_fnC, e_fnC0, callC1, k_C, outC1, v_ixTA, v_ixLA, bind_some, boolsM, all_mapI, any_mapI, allT, e_app, app1, o_appf, o_appo, e_frz, frzo1, frzo2, p_check_few_two h h' c, p_first h h' c, indep, pure?, v_is]
  cases telling F F' n m <;> rfl
theorem pure_tell (o : Option (List Tl)) : pure? (tellD o) = true := by
  cases o with
  | none => rfl
  | some l => exact pure_lot l
theorem p_telling (h : Fl F n m) {F' : List (List Int)} (h' : Fl F' n m) (c : n * m ≤ 12) (w : List Int) : S_telling_lot [] [.fz (flD F), .fz (flD F')] w = .ok (.fz (tellD (telling F F' n m)), w) := by
  rw [u_telling_lot]
  unfold g_telling_lot
  simp only [k_op1, k_op2, k_un, k_call, k_b, k_and, k_or, k_not, k_eand, k_eor, k_enot, k_if, k_c1, k_c2, k_c3, k_cons1, k_cons2, k_tup, k_lst, k_fn, k_fnS, k_fnK, k_isi, k_sl1, k_sl2, k_sl3, k_i, o_sx, o_ret, o_if, o_set, o_asg, o_par2, o_par3, o_stS, o_stT, o_for, k_seq, k_rg1, k_rg2, e_rg1, e_rg2, rg1_1, rg2_1, k_lc, k_lt, k_le, k_lc2, k_fnF, e_fnF, run1, e_seq, seq_nx, seq_rt, seq_ct, seq_bk, fin_nx, fin_rt, given_fz, given_ow, given_bw, e_var, e_op, e_un, e_call, e_c, lift1, e_asB, toB1, e_tand, e_tor, e_tnot, e_and, e_or, e_not, e_if, e_chain, chn1, e_nil, e_cons, e_tup, e_lst, e_fn, e_fnS, e_fnK, e_isi, isiR1, outR1, outS1, e_stG, e_sl, b_no, b_so, toI1, e_no, e_sx, e_ret, e_retN, e_sif, put_fz, put_ow, nxO1, e_set, asg_fz, asg_ow, e_asg, g_nm, g_nl, g_cn, obind1, g_tuT, g_tuL, e_par2, e_par3, stO1, e_stS, e_stT, bind1, ofR1, d_fz, d_ow, d_bw, frz_fz, frz_ow, frz_bw, nb_nil, nb_fz, nb_ow, nb_bw, v_add, v_sub, v_neg, v_lt, v_gt, v_le, v_ge, v_is, v_isNot, v_eqS, v_neS, v_eq, v_ne, v_eqB, v_neB, v_ixT, v_ixL, at0, at1, at2, at3, at4, at5, map1, v_lenL, v_lenT, v_abs, v_int, v_intB, v_max2, v_min2, v_max3, v_min3, v_tupL, v_tupT, v_lstL, v_lstT, k_int_none, k_int_bool, k_int_int, k_int_str, k_int_list, k_int_tuple, k_bool_none, k_bool_bool, k_bool_int, k_bool_str, k_bool_list, k_bool_tuple, k_str_none, k_str_bool, k_str_int, k_str_str, k_str_list, k_str_tuple, k_list_none, k_list_bool, k_list_int, k_list_str, k_list_list, k_list_tuple, k_tuple_none, k_tuple_bool, k_tuple_int, k_tuple_str, k_tuple_list, k_tuple_tuple, k_dict_none, k_dict_bool, k_dict_int, k_dict_str, k_dict_list, k_dict_tuple, Int.cast_ofNat_Int, Nat.reduceAdd, Nat.reduceLeDiff, e_lc, e_iseq, seqI_fl, seqI_ft, seqI_ol, seqI_ot, lcS1, lcN1, val_fz, val_ow, t_true, wipe0, wipe1, mkL1, noX1, loopS1, loop_nx, loop_ct, loop_bk, loop_rt, loop_exc, e_for, v_allD, v_anyD, bools_map, ints_map, bools0, bools1, ints0, ints1, size_eq, decide_true, decide_false, true_or, or_true, eq_self, and_true, true_and, List.all_cons, List.all_nil, List.any_cons, List.any_nil, id_eq, isN, List.map_cons, List.map_nil, List.length_cons, List.length_nil, List.getElem?_cons_zero, List.getElem?_cons_succ, List.set_cons_zero, List.set_cons_succ, decide_eq_true_eq, if_true, Bool.or_true, Bool.true_or, Bool.and_true, Bool.true_and, Bool.false_eq_true, if_false, Bool.not_true, Bool.not_false, Bool.or_false, Bool.false_or, Bool.and_false, Bool.false_and, BEq.rfl, e_sortK, k_sortK, e_lc2, k_lc2c, mkD1, e_dc, k_dc, e_dc0, e_stD, stD1, o_stD1f, o_stD1o, o_stD2, e_slk, lk1, e_elk, lke1, unlO_nx, unlO_bk, unlO_ct, unlO_rt, unl_nil, unl_cons, unl1_no, unl1_fz, unl1_ow, unl1_lk, e_items, items1, e_keysD, keysD1, e_en, k_enL, k_enT, k_enO, e_zp, k_zp, e_fnL, k_fnL, e_fnL0, e_fnC, e_fnC0, callC1, k_C, outC1, v_ixTA, v_ixLA, bind_some, boolsM, all_mapI, any_mapI, allT, e_app, app1, o_appf, o_appo, e_frz, frzo1, frzo2, p_check_few_two h h' c, p_first h h' c, indep, pure?]
/-! the law's own -/
theorem pl_tiles (h : Fl F n m) (w : List Int) : S__law_tiles [] [.fz (flD F)] w = .ok (.fz (lotL (tiles n m)), w) := by
  rw [u__law_tiles]
  unfold g__law_tiles
  have r1 : rngOk (n : Int) = true := rng_nat (by have := h.n6; omega)
  have r2 : rngOk (m : Int) = true := rng_nat (by have := h.m6; omega)
  have cap := h.cap
  simp only [k_op1, k_op2, k_un, k_call, k_b, k_and, k_or, k_not, k_eand, k_eor, k_enot, k_if, k_c1, k_c2, k_c3, k_cons1, k_cons2, k_tup, k_lst, k_fn, k_fnS, k_fnK, k_isi, k_sl1, k_sl2, k_sl3, k_i, o_sx, o_ret, o_if, o_set, o_asg, o_par2, o_par3, o_stS, o_stT, o_for, k_seq, k_rg1, k_rg2, e_rg1, e_rg2, rg1_1, rg2_1, k_lc, k_lt, k_le, k_lc2, k_fnF, e_fnF, run1, e_seq, seq_nx, seq_rt, seq_ct, seq_bk, fin_nx, fin_rt, given_fz, given_ow, given_bw, e_var, e_op, e_un, e_call, e_c, lift1, e_asB, toB1, e_tand, e_tor, e_tnot, e_and, e_or, e_not, e_if, e_chain, chn1, e_nil, e_cons, e_tup, e_lst, e_fn, e_fnS, e_fnK, e_isi, isiR1, outR1, outS1, e_stG, e_sl, b_no, b_so, toI1, e_no, e_sx, e_ret, e_retN, e_sif, put_fz, put_ow, nxO1, e_set, asg_fz, asg_ow, e_asg, g_nm, g_nl, g_cn, obind1, g_tuT, g_tuL, e_par2, e_par3, stO1, e_stS, e_stT, bind1, ofR1, d_fz, d_ow, d_bw, frz_fz, frz_ow, frz_bw, nb_nil, nb_fz, nb_ow, nb_bw, v_add, v_sub, v_neg, v_lt, v_gt, v_le, v_ge, v_is, v_isNot, v_eqS, v_neS, v_eq, v_ne, v_eqB, v_neB, v_ixT, v_ixL, at0, at1, at2, at3, at4, at5, map1, v_lenL, v_lenT, v_abs, v_int, v_intB, v_max2, v_min2, v_max3, v_min3, v_tupL, v_tupT, v_lstL, v_lstT, k_int_none, k_int_bool, k_int_int, k_int_str, k_int_list, k_int_tuple, k_bool_none, k_bool_bool, k_bool_int, k_bool_str, k_bool_list, k_bool_tuple, k_str_none, k_str_bool, k_str_int, k_str_str, k_str_list, k_str_tuple, k_list_none, k_list_bool, k_list_int, k_list_str, k_list_list, k_list_tuple, k_tuple_none, k_tuple_bool, k_tuple_int, k_tuple_str, k_tuple_list, k_tuple_tuple, k_dict_none, k_dict_bool, k_dict_int, k_dict_str, k_dict_list, k_dict_tuple, Int.cast_ofNat_Int, Nat.reduceAdd, Nat.reduceLeDiff, e_lc, e_iseq, seqI_fl, seqI_ft, seqI_ol, seqI_ot, lcS1, lcN1, val_fz, val_ow, t_true, wipe0, wipe1, mkL1, noX1, loopS1, loop_nx, loop_ct, loop_bk, loop_rt, loop_exc, e_for, v_allD, v_anyD, bools_map, ints_map, bools0, bools1, ints0, ints1, size_eq, decide_true, decide_false, true_or, or_true, eq_self, and_true, true_and, List.all_cons, List.all_nil, List.any_cons, List.any_nil, id_eq, isN, List.map_cons, List.map_nil, List.length_cons, List.length_nil, List.getElem?_cons_zero, List.getElem?_cons_succ, List.set_cons_zero, List.set_cons_succ, decide_eq_true_eq, if_true, Bool.or_true, Bool.true_or, Bool.and_true, Bool.true_and, Bool.false_eq_true, if_false, Bool.not_true, Bool.not_false, Bool.or_false, Bool.false_or, Bool.and_false, Bool.false_and, BEq.rfl, e_sortK, k_sortK, e_lc2, k_lc2c, mkD1, e_dc, k_dc, e_dc0, e_stD, stD1, o_stD1f, o_stD1o, o_stD2, e_slk, lk1, e_elk, lke1, unlO_nx, unlO_bk, unlO_ct, unlO_rt, unl_nil, unl_cons, unl1_no, unl1_fz, unl1_ow, unl1_lk, e_items, items1, e_keysD, keysD1, e_en, k_enL, k_enT, k_enO, e_zp, k_zp, e_fnL, k_fnL, e_fnL0, e_fnC, e_fnC0, callC1, k_C, outC1, v_ixTA, v_ixLA, bind_some, boolsM, all_mapI, any_mapI, allT, e_app, app1, o_appf, o_appo, e_frz, frzo1, frzo2, List.length_map, h.len, r1, toNat_nat, rngD_map, Nat.zero_le]
  have go : ∀ (k : Nat) (lo : Int) (acc : List Tl) (x2 : Option EV), 0 ≤ lo → lo + k ≤ n → acc.length + 6 * k ≤ 1000 →
      ∃ x2', loopL (gNm 2) (sAsg (eOp fAdd (eVar 1) (eLc [3] (iRg1 (aCons (eCall fLen (aCons (eOp fIxA (eVar 0) (eVar 2)) (aNil))) (aNil))) (gNm 3) (tTrue) (eTup (aCons (eVar 2) (aCons (eVar 3) (aNil)))))) (gNm 1)) ((rngI lo k).map PyData.int) [some (.fz (flD F)), some (.fz (lotL acc)), x2, none] w =
        .nx [some (.fz (flD F)), some (.fz (lotL (acc ++ (rngI lo k).flatMap fun i => (rngI 0 m).map fun j => (i, j)))), x2', none] w := by
    intro k
    induction k with
    | zero => intro lo acc x2 _ _ _; exact ⟨x2, by show Out.nx _ _ = _; simp [rngI]⟩
    | succ k ih =>
      intro lo acc x2 h0 h1 h2
      have m6 := h.m6
      have hrow : ((rngI 0 m).map fun j => ((lo, j) : Tl)).length ≤ 6 := by rw [List.length_map, rngI_len]; exact m6
      obtain ⟨x2', e⟩ := ih (lo + 1) (acc ++ (rngI 0 m).map fun j => (lo, j)) (some (.fz (.int lo))) (by omega) (by push_cast at h1; omega) (by rw [List.length_append]; omega)
      refine ⟨x2', ?_⟩
      rw [rngI_next, List.map_cons]
      have step : sAsg (eOp fAdd (eVar 1) (eLc [3] (iRg1 (aCons (eCall fLen (aCons (eOp fIxA (eVar 0) (eVar 2)) (aNil))) (aNil))) (gNm 3) (tTrue) (eTup (aCons (eVar 2) (aCons (eVar 3) (aNil)))))) (gNm 1) [some (.fz (flD F)), some (.fz (lotL acc)), some (.fz (.int lo)), none] w =
          .nx [some (.fz (flD F)), some (.fz (lotL (acc ++ (rngI 0 m).map fun j => (lo, j)))), some (.fz (.int lo)), none] w := by
        have er := (h.rowAt h0 (by push_cast at h1; omega)).2
        have el := h.rowLen h0 (by push_cast at h1; omega)
        have el2 : (rowOf' F lo).length = m := el
        simp only [k_op1, k_op2, k_un, k_call, k_b, k_and, k_or, k_not, k_eand, k_eor, k_enot, k_if, k_c1, k_c2, k_c3, k_cons1, k_cons2, k_tup, k_lst, k_fn, k_fnS, k_fnK, k_isi, k_sl1, k_sl2, k_sl3, k_i, o_sx, o_ret, o_if, o_set, o_asg, o_par2, o_par3, o_stS, o_stT, o_for, k_seq, k_rg1, k_rg2, e_rg1, e_rg2, rg1_1, rg2_1, k_lc, k_lt, k_le, k_lc2, k_fnF, e_fnF, run1, e_seq, seq_nx, seq_rt, seq_ct, seq_bk, fin_nx, fin_rt, given_fz, given_ow, given_bw, e_var, e_op, e_un, e_call, e_c, lift1, e_asB, toB1, e_tand, e_tor, e_tnot, e_and, e_or, e_not, e_if, e_chain, chn1, e_nil, e_cons, e_tup, e_lst, e_fn, e_fnS, e_fnK, e_isi, isiR1, outR1, outS1, e_stG, e_sl, b_no, b_so, toI1, e_no, e_sx, e_ret, e_retN, e_sif, put_fz, put_ow, nxO1, e_set, asg_fz, asg_ow, e_asg, g_nm, g_nl, g_cn, obind1, g_tuT, g_tuL, e_par2, e_par3, stO1, e_stS, e_stT, bind1, ofR1, d_fz, d_ow, d_bw, frz_fz, frz_ow, frz_bw, nb_nil, nb_fz, nb_ow, nb_bw, v_add, v_sub, v_neg, v_lt, v_gt, v_le, v_ge, v_is, v_isNot, v_eqS, v_neS, v_eq, v_ne, v_eqB, v_neB, v_ixT, v_ixL, at0, at1, at2, at3, at4, at5, map1, v_lenL, v_lenT, v_abs, v_int, v_intB, v_max2, v_min2, v_max3, v_min3, v_tupL, v_tupT, v_lstL, v_lstT, k_int_none, k_int_bool, k_int_int, k_int_str, k_int_list, k_int_tuple, k_bool_none, k_bool_bool, k_bool_int, k_bool_str, k_bool_list, k_bool_tuple, k_str_none, k_str_bool, k_str_int, k_str_str, k_str_list, k_str_tuple, k_list_none, k_list_bool, k_list_int, k_list_str, k_list_list, k_list_tuple, k_tuple_none, k_tuple_bool, k_tuple_int, k_tuple_str, k_tuple_list, k_tuple_tuple, k_dict_none, k_dict_bool, k_dict_int, k_dict_str, k_dict_list, k_dict_tuple, Int.cast_ofNat_Int, Nat.reduceAdd, Nat.reduceLeDiff, e_lc, e_iseq, seqI_fl, seqI_ft, seqI_ol, seqI_ot, lcS1, lcN1, val_fz, val_ow, t_true, wipe0, wipe1, mkL1, noX1, loopS1, loop_nx, loop_ct, loop_bk, loop_rt, loop_exc, e_for, v_allD, v_anyD, bools_map, ints_map, bools0, bools1, ints0, ints1, size_eq, decide_true, decide_false, true_or, or_true, eq_self, and_true, true_and, List.all_cons, List.all_nil, List.any_cons, List.any_nil, id_eq, isN, List.map_cons, List.map_nil, List.length_cons, List.length_nil, List.getElem?_cons_zero, List.getElem?_cons_succ, List.set_cons_zero, List.set_cons_succ, decide_eq_true_eq, if_true, Bool.or_true, Bool.true_or, Bool.and_true, Bool.true_and, Bool.false_eq_true, if_false, Bool.not_true, Bool.not_false, Bool.or_false, Bool.false_or, Bool.and_false, Bool.false_and, BEq.rfl, e_sortK, k_sortK, e_lc2, k_lc2c, mkD1, e_dc, k_dc, e_dc0, e_stD, stD1, o_stD1f, o_stD1o, o_stD2, e_slk, lk1, e_elk, lke1, unlO_nx, unlO_bk, unlO_ct, unlO_rt, unl_nil, unl_cons, unl1_no, unl1_fz, unl1_ow, unl1_lk, e_items, items1, e_keysD, keysD1, e_en, k_enL, k_enT, k_enO, e_zp, k_zp, e_fnL, k_fnL, e_fnL0, e_fnC, e_fnC0, callC1, k_C, outC1, v_ixTA, v_ixLA, bind_some, boolsM, all_mapI, any_mapI, allT, e_app, app1, o_appf, o_appo, e_frz, frzo1, frzo2, er, List.length_map, el2, r2, toNat_nat, rngD_map]
        rw [lc_mapE PyData.int (fun j => pr (lo, j))]
        · have c1 : (rngI 0 m).length ≤ 16777216 := by rw [rngI_len]; omega
          have c2 : (acc.map pr).length + ((rngI 0 m).map fun j => pr (lo, j)).length ≤ sizeLine := by
            rw [List.length_map, List.length_map, rngI_len, size_eq]
            omega
          simp only [k_op1, k_op2, k_un, k_call, k_b, k_and, k_or, k_not, k_eand, k_eor, k_enot, k_if, k_c1, k_c2, k_c3, k_cons1, k_cons2, k_tup, k_lst, k_fn, k_fnS, k_fnK, k_isi, k_sl1, k_sl2, k_sl3, k_i, o_sx, o_ret, o_if, o_set, o_asg, o_par2, o_par3, o_stS, o_stT, o_for, k_seq, k_rg1, k_rg2, e_rg1, e_rg2, rg1_1, rg2_1, k_lc, k_lt, k_le, k_lc2, k_fnF, e_fnF, run1, e_seq, seq_nx, seq_rt, seq_ct, seq_bk, fin_nx, fin_rt, given_fz, given_ow, given_bw, e_var, e_op, e_un, e_call, e_c, lift1, e_asB, toB1, e_tand, e_tor, e_tnot, e_and, e_or, e_not, e_if, e_chain, chn1, e_nil, e_cons, e_tup, e_lst, e_fn, e_fnS, e_fnK, e_isi, isiR1, outR1, outS1, e_stG, e_sl, b_no, b_so, toI1, e_no, e_sx, e_ret, e_retN, e_sif, put_fz, put_ow, nxO1, e_set, asg_fz, asg_ow, e_asg, g_nm, g_nl, g_cn, obind1, g_tuT, g_tuL, e_par2, e_par3, stO1, e_stS, e_stT, bind1, ofR1, d_fz, d_ow, d_bw, frz_fz, frz_ow, frz_bw, nb_nil, nb_fz, nb_ow, nb_bw, v_add, v_sub, v_neg, v_lt, v_gt, v_le, v_ge, v_is, v_isNot, v_eqS, v_neS, v_eq, v_ne, v_eqB, v_neB, v_ixT, v_ixL, at0, at1, at2, at3, at4, at5, map1, v_lenL, v_lenT, v_abs, v_int, v_intB, v_max2, v_min2, v_max3, v_min3, v_tupL, v_tupT, v_lstL, v_lstT, k_int_none, k_int_bool, k_int_int, k_int_str, k_int_list, k_int_tuple, k_bool_none, k_bool_bool, k_bool_int, k_bool_str, k_bool_list, k_bool_tuple, k_str_none, k_str_bool, k_str_int, k_str_str, k_str_list, k_str_tuple, k_list_none, k_list_bool, k_list_int, k_list_str, k_list_list, k_list_tuple, k_tuple_none, k_tuple_bool, k_tuple_int, k_tuple_str, k_tuple_list, k_tuple_tuple, k_dict_none, k_dict_bool, k_dict_int, k_dict_str, k_dict_list, k_dict_tuple, Int.cast_ofNat_Int, Nat.reduceAdd, Nat.reduceLeDiff, e_lc, e_iseq, seqI_fl, seqI_ft, seqI_ol, seqI_ot, lcS1, lcN1, val_fz, val_ow, t_true, wipe0, wipe1, mkL1, noX1, loopS1, loop_nx, loop_ct, loop_bk, loop_rt, loop_exc, e_for, v_allD, v_anyD, bools_map, ints_map, bools0, bools1, ints0, ints1, size_eq, decide_true, decide_false, true_or, or_true, eq_self, and_true, true_and, List.all_cons, List.all_nil, List.any_cons, List.any_nil, id_eq, isN, List.map_cons, List.map_nil, List.length_cons, List.length_nil, List.getElem?_cons_zero, List.getElem?_cons_succ, List.set_cons_zero, List.set_cons_succ, decide_eq_true_eq, if_true, Bool.or_true, Bool.true_or, Bool.and_true, Bool.true_and, Bool.false_eq_true, if_false, Bool.not_true, Bool.not_false, Bool.or_false, Bool.false_or, Bool.and_false, Bool.false_and, BEq.rfl, e_sortK, k_sortK, e_lc2, k_lc2c, mkD1, e_dc, k_dc, e_dc0, e_stD, stD1, o_stD1f, o_stD1o, o_stD2, e_slk, lk1, e_elk, lke1, unlO_nx, unlO_bk, unlO_ct, unlO_rt, unl_nil, unl_cons, unl1_no, unl1_fz, unl1_ow, unl1_lk, e_items, items1, e_keysD, keysD1, e_en, k_enL, k_enT, k_enO, e_zp, k_zp, e_fnL, k_fnL, e_fnL0, e_fnC, e_fnC0, callC1, k_C, outC1, v_ixTA, v_ixLA, bind_some, boolsM, all_mapI, any_mapI, allT, e_app, app1, o_appf, o_appo, e_frz, frzo1, frzo2, List.length_map, c1, v_addL c2]
          rw [show acc.map pr ++ (rngI 0 m).map (fun j => pr (lo, j)) = (acc ++ (rngI 0 m).map fun j => ((lo, j) : Tl)).map pr by rw [List.map_append, List.map_map]; rfl]
        · intro j _
          exact ⟨_, .fz (pr (lo, j)), rfl, rfl, rfl, rfl⟩
      rw [loop_cons (ρ' := [some (.fz (flD F)), some (.fz (lotL acc)), some (.fz (.int lo)), none]) rfl, step]
      show loopL _ _ _ _ _ = _
      rw [e, List.flatMap_cons, List.append_assoc]
  obtain ⟨x2, e⟩ := go n 0 [] none (by omega) (by omega) (by have := h.n6; rw [List.length_nil]; omega)
  rw [show lotL [] = (PyData.list [] : D) from rfl] at e
  rw [e]
  simp only [k_op1, k_op2, k_un, k_call, k_b, k_and, k_or, k_not, k_eand, k_eor, k_enot, k_if, k_c1, k_c2, k_c3, k_cons1, k_cons2, k_tup, k_lst, k_fn, k_fnS, k_fnK, k_isi, k_sl1, k_sl2, k_sl3, k_i, o_sx, o_ret, o_if, o_set, o_asg, o_par2, o_par3, o_stS, o_stT, o_for, k_seq, k_rg1, k_rg2, e_rg1, e_rg2, rg1_1, rg2_1, k_lc, k_lt, k_le, k_lc2, k_fnF, e_fnF, run1, e_seq, seq_nx, seq_rt, seq_ct, seq_bk, fin_nx, fin_rt, given_fz, given_ow, given_bw, e_var, e_op, e_un, e_call, e_c, lift1, e_asB, toB1, e_tand, e_tor, e_tnot, e_and, e_or, e_not, e_if, e_chain, chn1, e_nil, e_cons, e_tup, e_lst, e_fn, e_fnS, e_fnK, e_isi, isiR1, outR1, outS1, e_stG, e_sl, b_no, b_so, toI1, e_no, e_sx, e_ret, e_retN, e_sif, put_fz, put_ow, nxO1, e_set, asg_fz, asg_ow, e_asg, g_nm, g_nl, g_cn, obind1, g_tuT, g_tuL, e_par2, e_par3, stO1, e_stS, e_stT, bind1, ofR1, d_fz, d_ow, d_bw, frz_fz, frz_ow, frz_bw, nb_nil, nb_fz, nb_ow, nb_bw, v_add, v_sub, v_neg, v_lt, v_gt, v_le, v_ge, v_is, v_isNot, v_eqS, v_neS, v_eq, v_ne, v_eqB, v_neB, v_ixT, v_ixL, at0, at1, at2, at3, at4, at5, map1, v_lenL, v_lenT, v_abs, v_int, v_intB, v_max2, v_min2, v_max3, v_min3, v_tupL, v_tupT, v_lstL, v_lstT, k_int_none, k_int_bool, k_int_int, k_int_str, k_int_list, k_int_tuple, k_bool_none, k_bool_bool, k_bool_int, k_bool_str, k_bool_list, k_bool_tuple, k_str_none, k_str_bool, k_str_int, k_str_str, k_str_list, k_str_tuple, k_list_none, k_list_bool, k_list_int, k_list_str, k_list_list, k_list_tuple, k_tuple_none, k_tuple_bool, k_tuple_int, k_tuple_str, k_tuple_list, k_tuple_tuple, k_dict_none, k_dict_bool, k_dict_int, k_dict_str, k_dict_list, k_dict_tuple, Int.cast_ofNat_Int, Nat.reduceAdd, Nat.reduceLeDiff, e_lc, e_iseq, seqI_fl, seqI_ft, seqI_ol, seqI_ot, lcS1, lcN1, val_fz, val_ow, t_true, wipe0, wipe1, mkL1, noX1, loopS1, loop_nx, loop_ct, loop_bk, loop_rt, loop_exc, e_for, v_allD, v_anyD, bools_map, ints_map, bools0, bools1, ints0, ints1, size_eq, decide_true, decide_false, true_or, or_true, eq_self, and_true, true_and, List.all_cons, List.all_nil, List.any_cons, List.any_nil, id_eq, isN, List.map_cons, List.map_nil, List.length_cons, List.length_nil, List.getElem?_cons_zero, List.getElem?_cons_succ, List.set_cons_zero, List.set_cons_succ, decide_eq_true_eq, if_true, Bool.or_true, Bool.true_or, Bool.and_true, Bool.true_and, Bool.false_eq_true, if_false, Bool.not_true, Bool.not_false, Bool.or_false, Bool.false_or, Bool.and_false, Bool.false_and, BEq.rfl, e_sortK, k_sortK, e_lc2, k_lc2c, mkD1, e_dc, k_dc, e_dc0, e_stD, stD1, o_stD1f, o_stD1o, o_stD2, e_slk, lk1, e_elk, lke1, unlO_nx, unlO_bk, unlO_ct, unlO_rt, unl_nil, unl_cons, unl1_no, unl1_fz, unl1_ow, unl1_lk, e_items, items1, e_keysD, keysD1, e_en, k_enL, k_enT, k_enO, e_zp, k_zp, e_fnL, k_fnL, e_fnL0, e_fnC, e_fnC0, callC1, k_C, outC1, v_ixTA, v_ixLA, bind_some, boolsM, all_mapI, any_mapI, allT, e_app, app1, o_appf, o_appo, e_frz, frzo1, frzo2, List.nil_append]
  rfl
theorem pl_beside (h : Fl F n m) (t : Tl) (w : List Int) : S__law_beside [] [.fz (flD F), .fz (pr t)] w = .ok (.ow (lotL (nb n m t)), w) := by
  rw [u__law_beside]
  unfold g__law_beside
  have c : (nb n m t).length ≤ 16777216 := by have := nb_len n m t; omega
  simp only [k_op1, k_op2, k_un, k_call, k_b, k_and, k_or, k_not, k_eand, k_eor, k_enot, k_if, k_c1, k_c2, k_c3, k_cons1, k_cons2, k_tup, k_lst, k_fn, k_fnS, k_fnK, k_isi, k_sl1, k_sl2, k_sl3, k_i, o_sx, o_ret, o_if, o_set, o_asg, o_par2, o_par3, o_stS, o_stT, o_for, k_seq, k_rg1, k_rg2, e_rg1, e_rg2, rg1_1, rg2_1, k_lc, k_lt, k_le, k_lc2, k_fnF, e_fnF, run1, e_seq, seq_nx, seq_rt, seq_ct, seq_bk, fin_nx, fin_rt, given_fz, given_ow, given_bw, e_var, e_op, e_un, e_call, e_c, lift1, e_asB, toB1, e_tand, e_tor, e_tnot, e_and, e_or, e_not, e_if, e_chain, chn1, e_nil, e_cons, e_tup, e_lst, e_fn, e_fnS, e_fnK, e_isi, isiR1, outR1, outS1, e_stG, e_sl, b_no, b_so, toI1, e_no, e_sx, e_ret, e_retN, e_sif, put_fz, put_ow, nxO1, e_set, asg_fz, asg_ow, e_asg, g_nm, g_nl, g_cn, obind1, g_tuT, g_tuL, e_par2, e_par3, stO1, e_stS, e_stT, bind1, ofR1, d_fz, d_ow, d_bw, frz_fz, frz_ow, frz_bw, nb_nil, nb_fz, nb_ow, nb_bw, v_add, v_sub, v_neg, v_lt, v_gt, v_le, v_ge, v_is, v_isNot, v_eqS, v_neS, v_eq, v_ne, v_eqB, v_neB, v_ixT, v_ixL, at0, at1, at2, at3, at4, at5, map1, v_lenL, v_lenT, v_abs, v_int, v_intB, v_max2, v_min2, v_max3, v_min3, v_tupL, v_tupT, v_lstL, v_lstT, k_int_none, k_int_bool, k_int_int, k_int_str, k_int_list, k_int_tuple, k_bool_none, k_bool_bool, k_bool_int, k_bool_str, k_bool_list, k_bool_tuple, k_str_none, k_str_bool, k_str_int, k_str_str, k_str_list, k_str_tuple, k_list_none, k_list_bool, k_list_int, k_list_str, k_list_list, k_list_tuple, k_tuple_none, k_tuple_bool, k_tuple_int, k_tuple_str, k_tuple_list, k_tuple_tuple, k_dict_none, k_dict_bool, k_dict_int, k_dict_str, k_dict_list, k_dict_tuple, Int.cast_ofNat_Int, Nat.reduceAdd, Nat.reduceLeDiff, e_lc, e_iseq, seqI_fl, seqI_ft, seqI_ol, seqI_ot, lcS1, lcN1, val_fz, val_ow, t_true, wipe0, wipe1, mkL1, noX1, loopS1, loop_nx, loop_ct, loop_bk, loop_rt, loop_exc, e_for, v_allD, v_anyD, bools_map, ints_map, bools0, bools1, ints0, ints1, size_eq, decide_true, decide_false, true_or, or_true, eq_self, and_true, true_and, List.all_cons, List.all_nil, List.any_cons, List.any_nil, id_eq, isN, List.map_cons, List.map_nil, List.length_cons, List.length_nil, List.getElem?_cons_zero, List.getElem?_cons_succ, List.set_cons_zero, List.set_cons_succ, decide_eq_true_eq, if_true, Bool.or_true, Bool.true_or, Bool.and_true, Bool.true_and, Bool.false_eq_true, if_false, Bool.not_true, Bool.not_false, Bool.or_false, Bool.false_or, Bool.and_false, Bool.false_and, BEq.rfl, e_sortK, k_sortK, e_lc2, k_lc2c, mkD1, e_dc, k_dc, e_dc0, e_stD, stD1, o_stD1f, o_stD1o, o_stD2, e_slk, lk1, e_elk, lke1, unlO_nx, unlO_bk, unlO_ct, unlO_rt, unl_nil, unl_cons, unl1_no, unl1_fz, unl1_ow, unl1_lk, e_items, items1, e_keysD, keysD1, e_en, k_enL, k_enT, k_enO, e_zp, k_zp, e_fnL, k_fnL, e_fnL0, e_fnC, e_fnC0, callC1, k_C, outC1, v_ixTA, v_ixLA, bind_some, boolsM, all_mapI, any_mapI, allT, e_app, app1, o_appf, o_appo, e_frz, frzo1, frzo2]
  have e : ([PyData.tuple [.int (t.1 - 1), .int t.2], .tuple [.int t.1, .int (t.2 - 1)], .tuple [.int t.1, .int (t.2 + 1)], .tuple [.int (t.1 + 1), .int t.2]] : List D) = (nbr t).map pr := rfl
  rw [e, nb_filter h]
  · simp only [k_op1, k_op2, k_un, k_call, k_b, k_and, k_or, k_not, k_eand, k_eor, k_enot, k_if, k_c1, k_c2, k_c3, k_cons1, k_cons2, k_tup, k_lst, k_fn, k_fnS, k_fnK, k_isi, k_sl1, k_sl2, k_sl3, k_i, o_sx, o_ret, o_if, o_set, o_asg, o_par2, o_par3, o_stS, o_stT, o_for, k_seq, k_rg1, k_rg2, e_rg1, e_rg2, rg1_1, rg2_1, k_lc, k_lt, k_le, k_lc2, k_fnF, e_fnF, run1, e_seq, seq_nx, seq_rt, seq_ct, seq_bk, fin_nx, fin_rt, given_fz, given_ow, given_bw, e_var, e_op, e_un, e_call, e_c, lift1, e_asB, toB1, e_tand, e_tor, e_tnot, e_and, e_or, e_not, e_if, e_chain, chn1, e_nil, e_cons, e_tup, e_lst, e_fn, e_fnS, e_fnK, e_isi, isiR1, outR1, outS1, e_stG, e_sl, b_no, b_so, toI1, e_no, e_sx, e_ret, e_retN, e_sif, put_fz, put_ow, nxO1, e_set, asg_fz, asg_ow, e_asg, g_nm, g_nl, g_cn, obind1, g_tuT, g_tuL, e_par2, e_par3, stO1, e_stS, e_stT, bind1, ofR1, d_fz, d_ow, d_bw, frz_fz, frz_ow, frz_bw, nb_nil, nb_fz, nb_ow, nb_bw, v_add, v_sub, v_neg, v_lt, v_gt, v_le, v_ge, v_is, v_isNot, v_eqS, v_neS, v_eq, v_ne, v_eqB, v_neB, v_ixT, v_ixL, at0, at1, at2, at3, at4, at5, map1, v_lenL, v_lenT, v_abs, v_int, v_intB, v_max2, v_min2, v_max3, v_min3, v_tupL, v_tupT, v_lstL, v_lstT, k_int_none, k_int_bool, k_int_int, k_int_str, k_int_list, k_int_tuple, k_bool_none, k_bool_bool, k_bool_int, k_bool_str, k_bool_list, k_bool_tuple, k_str_none, k_str_bool, k_str_int, k_str_str, k_str_list, k_str_tuple, k_list_none, k_list_bool, k_list_int, k_list_str, k_list_list, k_list_tuple, k_tuple_none, k_tuple_bool, k_tuple_int, k_tuple_str, k_tuple_list, k_tuple_tuple, k_dict_none, k_dict_bool, k_dict_int, k_dict_str, k_dict_list, k_dict_tuple, Int.cast_ofNat_Int, Nat.reduceAdd, Nat.reduceLeDiff, e_lc, e_iseq, seqI_fl, seqI_ft, seqI_ol, seqI_ot, lcS1, lcN1, val_fz, val_ow, t_true, wipe0, wipe1, mkL1, noX1, loopS1, loop_nx, loop_ct, loop_bk, loop_rt, loop_exc, e_for, v_allD, v_anyD, bools_map, ints_map, bools0, bools1, ints0, ints1, size_eq, decide_true, decide_false, true_or, or_true, eq_self, and_true, true_and, List.all_cons, List.all_nil, List.any_cons, List.any_nil, id_eq, isN, List.map_cons, List.map_nil, List.length_cons, List.length_nil, List.getElem?_cons_zero, List.getElem?_cons_succ, List.set_cons_zero, List.set_cons_succ, decide_eq_true_eq, if_true, Bool.or_true, Bool.true_or, Bool.and_true, Bool.true_and, Bool.false_eq_true, if_false, Bool.not_true, Bool.not_false, Bool.or_false, Bool.false_or, Bool.and_false, Bool.false_and, BEq.rfl, e_sortK, k_sortK, e_lc2, k_lc2c, mkD1, e_dc, k_dc, e_dc0, e_stD, stD1, o_stD1f, o_stD1o, o_stD2, e_slk, lk1, e_elk, lke1, unlO_nx, unlO_bk, unlO_ct, unlO_rt, unl_nil, unl_cons, unl1_no, unl1_fz, unl1_ow, unl1_lk, e_items, items1, e_keysD, keysD1, e_en, k_enL, k_enT, k_enO, e_zp, k_zp, e_fnL, k_fnL, e_fnL0, e_fnC, e_fnC0, callC1, k_C, outC1, v_ixTA, v_ixLA, bind_some, boolsM, all_mapI, any_mapI, allT, e_app, app1, o_appf, o_appo, e_frz, frzo1, frzo2, List.length_map, c]
  · intro u _
    have eb : inB n m u = (decide (0 ≤ u.1) && decide (u.1 < (n : Int)) && (decide (0 ≤ u.2) && decide (u.2 < (m : Int)))) := by
      unfold inB
      rw [← Bool.decide_and, ← Bool.decide_and, ← Bool.decide_and]
      exact decide_eq_decide.mpr mem_tiles
    refine ⟨[some (.fz (flD F)), some (.fz (pr t)), some (.fz (.int t.1)), some (.fz (.int t.2)), some (.fz (.list ((nbr t).map pr))), some (.fz (.int u.1)), some (.fz (.int u.2))], rfl, ?_, fun _ => ⟨.fz (pr u), rfl, rfl⟩⟩
    rw [eb]
    by_cases c1 : 0 ≤ u.1 <;> by_cases c2 : u.1 < (n : Int) <;> by_cases c3 : 0 ≤ u.2 <;> simp only [k_op1, k_op2, k_un, k_call, k_b, k_and, k_or, k_not, k_eand, k_eor, k_enot, k_if, k_c1, k_c2, k_c3, k_cons1, k_cons2, k_tup, k_lst, k_fn, k_fnS, k_fnK, k_isi, k_sl1, k_sl2, k_sl3, k_i, o_sx, o_ret, o_if, o_set, o_asg, o_par2, o_par3, o_stS, o_stT, o_for, k_seq, k_rg1, k_rg2, e_rg1, e_rg2, rg1_1, rg2_1, k_lc, k_lt, k_le, k_lc2, k_fnF, e_fnF, run1, e_seq, seq_nx, seq_rt, seq_ct, seq_bk, fin_nx, fin_rt, given_fz, given_ow, given_bw, e_var, e_op, e_un, e_call, e_c, lift1, e_asB, toB1, e_tand, e_tor, e_tnot, e_and, e_or, e_not, e_if, e_chain, chn1, e_nil, e_cons, e_tup, e_lst, e_fn, e_fnS, e_fnK, e_isi, isiR1, outR1, outS1, e_stG, e_sl, b_no, b_so, toI1, e_no, e_sx, e_ret, e_retN, e_sif, put_fz, put_ow, nxO1, e_set, asg_fz, asg_ow, e_asg, g_nm, g_nl, g_cn, obind1, g_tuT, g_tuL, e_par2, e_par3, stO1, e_stS, e_stT, bind1, ofR1, d_fz, d_ow, d_bw, frz_fz, frz_ow, frz_bw, nb_nil, nb_fz, nb_ow, nb_bw, v_add, v_sub, v_neg, v_lt, v_gt, v_le, v_ge, v_is, v_isNot, v_eqS, v_neS, v_eq, v_ne, v_eqB, v_neB, v_ixT, v_ixL, at0, at1, at2, at3, at4, at5, map1, v_lenL, v_lenT, v_abs, v_int, v_intB, v_max2, v_min2, v_max3, v_min3, v_tupL, v_tupT, v_lstL, v_lstT, k_int_none, k_int_bool, k_int_int, k_int_str, k_int_list, k_int_tuple, k_bool_none, k_bool_bool, k_bool_int, k_bool_str, k_bool_list, k_bool_tuple, k_str_none, k_str_bool, k_str_int, k_str_str, k_str_list, k_str_tuple, k_list_none, k_list_bool, k_list_int, k_list_str, k_list_list, k_list_tuple, k_tuple_none, k_tuple_bool, k_tuple_int, k_tuple_str, k_tuple_list, k_tuple_tuple, k_dict_none, k_dict_bool, k_dict_int, k_dict_str, k_dict_list, k_dict_tuple, Int.cast_ofNat_Int, Nat.reduceAdd, Nat.reduceLeDiff, e_lc, e_iseq, seqI_fl, seqI_ft, seqI_ol, seqI_ot, lcS1, lcN1, val_fz, val_ow, t_true, wipe0, wipe1, mkL1, noX1, loopS1, loop_nx, loop_ct, loop_bk, loop_rt, loop_exc, e_for, v_allD, v_anyD, bools_map, ints_map, bools0, bools1, ints0, ints1, size_eq, decide_true, decide_false, true_or, or_true, eq_self, and_true, true_and, List.all_cons, List.all_nil, List.any_cons, List.any_nil, id_eq, isN, List.map_cons, List.map_nil, List.length_cons, List.length_nil, List.getElem?_cons_zero, List.getElem?_cons_succ, List.set_cons_zero, List.set_cons_succ, decide_eq_true_eq, if_true, Bool.or_true, Bool.true_or, Bool.and_true, Bool.true_and, Bool.false_eq_true, if_false, Bool.not_true, Bool.not_false, Bool.or_false, Bool.false_or, Bool.and_false, Bool.false_and, BEq.rfl, e_sortK, k_sortK, e_lc2, k_lc2c, mkD1, e_dc, k_dc, e_dc0, e_stD, stD1, o_stD1f, o_stD1o, o_stD2, e_slk, lk1, e_elk, lke1, unlO_nx, unlO_bk, unlO_ct, unlO_rt, unl_nil, unl_cons, unl1_no, unl1_fz, unl1_ow, unl1_lk, e_items, items1, e_keysD, keysD1, e_en, k_enL, k_enT, k_enO, e_zp, k_zp, e_fnL, k_fnL, e_fnL0, e_fnC, e_fnC0, callC1, k_C, outC1, v_ixTA, v_ixLA, bind_some, boolsM, all_mapI, any_mapI, allT, e_app, app1, o_appf, o_appo, e_frz, frzo1, frzo2, List.length_map, h.len, h.row0, h.len0, c1, c2, c3]
theorem pl_snug (h : Fl F n m) {l : List Tl} (hl : l.Sublist (tiles n m)) (w : List Int) : S__law_is_snug [] [.fz (flD F), .fz (lotT l)] w = .ok (.fz (.bool (snugB F n m l && !l.isEmpty)), w) := by
  rw [u__law_is_snug]
  unfold g__law_is_snug
  obtain ⟨nd, sub, len⟩ := lot_ok hl (tiles_up n m)
  have sml : Sm l := (tiles_sm h.n6 h.m6).sub sub
  simp only [k_op1, k_op2, k_un, k_call, k_b, k_and, k_or, k_not, k_eand, k_eor, k_enot, k_if, k_c1, k_c2, k_c3, k_cons1, k_cons2, k_tup, k_lst, k_fn, k_fnS, k_fnK, k_isi, k_sl1, k_sl2, k_sl3, k_i, o_sx, o_ret, o_if, o_set, o_asg, o_par2, o_par3, o_stS, o_stT, o_for, k_seq, k_rg1, k_rg2, e_rg1, e_rg2, rg1_1, rg2_1, k_lc, k_lt, k_le, k_lc2, k_fnF, e_fnF, run1, e_seq, seq_nx, seq_rt, seq_ct, seq_bk, fin_nx, fin_rt, given_fz, given_ow, given_bw, e_var, e_op, e_un, e_call, e_c, lift1, e_asB, toB1, e_tand, e_tor, e_tnot, e_and, e_or, e_not, e_if, e_chain, chn1, e_nil, e_cons, e_tup, e_lst, e_fn, e_fnS, e_fnK, e_isi, isiR1, outR1, outS1, e_stG, e_sl, b_no, b_so, toI1, e_no, e_sx, e_ret, e_retN, e_sif, put_fz, put_ow, nxO1, e_set, asg_fz, asg_ow, e_asg, g_nm, g_nl, g_cn, obind1, g_tuT, g_tuL, e_par2, e_par3, stO1, e_stS, e_stT, bind1, ofR1, d_fz, d_ow, d_bw, frz_fz, frz_ow, frz_bw, nb_nil, nb_fz, nb_ow, nb_bw, v_add, v_sub, v_neg, v_lt, v_gt, v_le, v_ge, v_is, v_isNot, v_eqS, v_neS, v_eq, v_ne, v_eqB, v_neB, v_ixT, v_ixL, at0, at1, at2, at3, at4, at5, map1, v_lenL, v_lenT, v_abs, v_int, v_intB, v_max2, v_min2, v_max3, v_min3, v_tupL, v_tupT, v_lstL, v_lstT, k_int_none, k_int_bool, k_int_int, k_int_str, k_int_list, k_int_tuple, k_bool_none, k_bool_bool, k_bool_int, k_bool_str, k_bool_list, k_bool_tuple, k_str_none, k_str_bool, k_str_int, k_str_str, k_str_list, k_str_tuple, k_list_none, k_list_bool, k_list_int, k_list_str, k_list_list, k_list_tuple, k_tuple_none, k_tuple_bool, k_tuple_int, k_tuple_str, k_tuple_list, k_tuple_tuple, k_dict_none, k_dict_bool, k_dict_int, k_dict_str, k_dict_list, k_dict_tuple, Int.cast_ofNat_Int, Nat.reduceAdd, Nat.reduceLeDiff, e_lc, e_iseq, seqI_fl, seqI_ft, seqI_ol, seqI_ot, lcS1, lcN1, val_fz, val_ow, t_true, wipe0, wipe1, mkL1, noX1, loopS1, loop_nx, loop_ct, loop_bk, loop_rt, loop_exc, e_for, v_allD, v_anyD, bools_map, ints_map, bools0, bools1, ints0, ints1, size_eq, decide_true, decide_false, true_or, or_true, eq_self, and_true, true_and, List.all_cons, List.all_nil, List.any_cons, List.any_nil, id_eq, isN, List.map_cons, List.map_nil, List.length_cons, List.length_nil, List.getElem?_cons_zero, List.getElem?_cons_succ, List.set_cons_zero, List.set_cons_succ, decide_eq_true_eq, if_true, Bool.or_true, Bool.true_or, Bool.and_true, Bool.true_and, Bool.false_eq_true, if_false, Bool.not_true, Bool.not_false, Bool.or_false, Bool.false_or, Bool.and_false, Bool.false_and, BEq.rfl, e_sortK, k_sortK, e_lc2, k_lc2c, mkD1, e_dc, k_dc, e_dc0, e_stD, stD1, o_stD1f, o_stD1o, o_stD2, e_slk, lk1, e_elk, lke1, unlO_nx, unlO_bk, unlO_ct, unlO_rt, unl_nil, unl_cons, unl1_no, unl1_fz, unl1_ow, unl1_lk, e_items, items1, e_keysD, keysD1, e_en, k_enL, k_enT, k_enO, e_zp, k_zp, e_fnL, k_fnL, e_fnL0, e_fnC, e_fnC0, callC1, k_C, outC1, v_ixTA, v_ixLA, bind_some, boolsM, all_mapI, any_mapI, allT, e_app, app1, o_appf, o_appo, e_frz, frzo1, frzo2]
  have hL := loop_find (b := gTu 2 (gCn (gNm 2) (gCn (gNm 3) (gNl)))) (w := w) (g := sIf (asB (eOp fGe (eCall fLen (aCons (eLc [4] (iSeq (eFn 2 S__law_beside (aCons (eVar 0) (aCons (eTup (aCons (eVar 2) (aCons (eVar 3) (aNil)))) (aNil))))) (gNm 4) (asB (eOp fNotInA (eVar 4) (eVar 1))) (eVar 4)) (aNil))) (eOp fIxA (eOp fIxA (eVar 0) (eVar 2)) (eVar 3)))) (sRet (eC (.bool false))) (sNo))
    pr (fun t => !decide (((outs n m l t).length : Int) < need F t)) (fun _ => .fz (.bool false)) (fun ρ => ∃ x2 x3, ρ = [some (.fz (flD F)), some (.fz (lotT l)), x2, x3, none]) (l := l)
    (ρ := [some (.fz (flD F)), some (.fz (lotT l)), none, none, none]) (by
      rintro t ht _ ⟨x2, x3, rfl⟩
      have tt := sub t ht
      have hm := mem_tiles.mp tt
      have e1 := (h.rowAt hm.1.1 hm.1.2).2
      have e2 := (h.needAt tt).1
      have c1 : ((nb n m t).filter fun u => !decide (u ∈ l)).length ≤ 16777216 := by
        have h1 := List.length_filter_le (fun u => !decide (u ∈ l)) (nb n m t)
        have h2 := nb_len n m t
        omega
      have bs := pl_beside h t
      have st : sIf (asB (eOp fGe (eCall fLen (aCons (eLc [4] (iSeq (eFn 2 S__law_beside (aCons (eVar 0) (aCons (eTup (aCons (eVar 2) (aCons (eVar 3) (aNil)))) (aNil))))) (gNm 4) (asB (eOp fNotInA (eVar 4) (eVar 1))) (eVar 4)) (aNil))) (eOp fIxA (eOp fIxA (eVar 0) (eVar 2)) (eVar 3)))) (sRet (eC (.bool false))) (sNo) [some (.fz (flD F)), some (.fz (lotT l)), some (.fz (.int t.1)), some (.fz (.int t.2)), none] w =
          if need F t ≤ ((outs n m l t).length : Int) then .rt (.fz (.bool false)) w else .nx [some (.fz (flD F)), some (.fz (lotT l)), some (.fz (.int t.1)), some (.fz (.int t.2)), none] w := by
        simp only [k_op1, k_op2, k_un, k_call, k_b, k_and, k_or, k_not, k_eand, k_eor, k_enot, k_if, k_c1, k_c2, k_c3, k_cons1, k_cons2, k_tup, k_lst, k_fn, k_fnS, k_fnK, k_isi, k_sl1, k_sl2, k_sl3, k_i, o_sx, o_ret, o_if, o_set, o_asg, o_par2, o_par3, o_stS, o_stT, o_for, k_seq, k_rg1, k_rg2, e_rg1, e_rg2, rg1_1, rg2_1, k_lc, k_lt, k_le, k_lc2, k_fnF, e_fnF, run1, e_seq, seq_nx, seq_rt, seq_ct, seq_bk, fin_nx, fin_rt, given_fz, given_ow, given_bw, e_var, e_op, e_un, e_call, e_c, lift1, e_asB, toB1, e_tand, e_tor, e_tnot, e_and, e_or, e_not, e_if, e_chain, chn1, e_nil, e_cons, e_tup, e_lst, e_fn, e_fnS, e_fnK, e_isi, isiR1, outR1, outS1, e_stG, e_sl, b_no, b_so, toI1, e_no, e_sx, e_ret, e_retN, e_sif, put_fz, put_ow, nxO1, e_set, asg_fz, asg_ow, e_asg, g_nm, g_nl, g_cn, obind1, g_tuT, g_tuL, e_par2, e_par3, stO1, e_stS, e_stT, bind1, ofR1, d_fz, d_ow, d_bw, frz_fz, frz_ow, frz_bw, nb_nil, nb_fz, nb_ow, nb_bw, v_add, v_sub, v_neg, v_lt, v_gt, v_le, v_ge, v_is, v_isNot, v_eqS, v_neS, v_eq, v_ne, v_eqB, v_neB, v_ixT, v_ixL, at0, at1, at2, at3, at4, at5, map1, v_lenL, v_lenT, v_abs, v_int, v_intB, v_max2, v_min2, v_max3, v_min3, v_tupL, v_tupT, v_lstL, v_lstT, k_int_none, k_int_bool, k_int_int, k_int_str, k_int_list, k_int_tuple, k_bool_none, k_bool_bool, k_bool_int, k_bool_str, k_bool_list, k_bool_tuple, k_str_none, k_str_bool, k_str_int, k_str_str, k_str_list, k_str_tuple, k_list_none, k_list_bool, k_list_int, k_list_str, k_list_list, k_list_tuple, k_tuple_none, k_tuple_bool, k_tuple_int, k_tuple_str, k_tuple_list, k_tuple_tuple, k_dict_none, k_dict_bool, k_dict_int, k_dict_str, k_dict_list, k_dict_tuple, Int.cast_ofNat_Int, Nat.reduceAdd, Nat.reduceLeDiff, e_lc, e_iseq, seqI_fl, seqI_ft, seqI_ol, seqI_ot, lcS1, lcN1, val_fz, val_ow, t_true, wipe0, wipe1, mkL1, noX1, loopS1, loop_nx, loop_ct, loop_bk, loop_rt, loop_exc, e_for, v_allD, v_anyD, bools_map, ints_map, bools0, bools1, ints0, ints1, size_eq, decide_true, decide_false, true_or, or_true, eq_self, and_true, true_and, List.all_cons, List.all_nil, List.any_cons, List.any_nil, id_eq, isN, List.map_cons, List.map_nil, List.length_cons, List.length_nil, List.getElem?_cons_zero, List.getElem?_cons_succ, List.set_cons_zero, List.set_cons_succ, decide_eq_true_eq, if_true, Bool.or_true, Bool.true_or, Bool.and_true, Bool.true_and, Bool.false_eq_true, if_false, Bool.not_true, Bool.not_false, Bool.or_false, Bool.false_or, Bool.and_false, Bool.false_and, BEq.rfl, e_sortK, k_sortK, e_lc2, k_lc2c, mkD1, e_dc, k_dc, e_dc0, e_stD, stD1, o_stD1f, o_stD1o, o_stD2, e_slk, lk1, e_elk, lke1, unlO_nx, unlO_bk, unlO_ct, unlO_rt, unl_nil, unl_cons, unl1_no, unl1_fz, unl1_ow, unl1_lk, e_items, items1, e_keysD, keysD1, e_en, k_enL, k_enT, k_enO, e_zp, k_zp, e_fnL, k_fnL, e_fnL0, e_fnC, e_fnC0, callC1, k_C, outC1, v_ixTA, v_ixLA, bind_some, boolsM, all_mapI, any_mapI, allT, e_app, app1, o_appf, o_appo, e_frz, frzo1, frzo2, bs, indep, pure?]
        rw [lc_filterE pr (fun u => !decide (u ∈ l)) pr]
        · simp only [k_op1, k_op2, k_un, k_call, k_b, k_and, k_or, k_not, k_eand, k_eor, k_enot, k_if, k_c1, k_c2, k_c3, k_cons1, k_cons2, k_tup, k_lst, k_fn, k_fnS, k_fnK, k_isi, k_sl1, k_sl2, k_sl3, k_i, o_sx, o_ret, o_if, o_set, o_asg, o_par2, o_par3, o_stS, o_stT, o_for, k_seq, k_rg1, k_rg2, e_rg1, e_rg2, rg1_1, rg2_1, k_lc, k_lt, k_le, k_lc2, k_fnF, e_fnF, run1, e_seq, seq_nx, seq_rt, seq_ct, seq_bk, fin_nx, fin_rt, given_fz, given_ow, given_bw, e_var, e_op, e_un, e_call, e_c, lift1, e_asB, toB1, e_tand, e_tor, e_tnot, e_and, e_or, e_not, e_if, e_chain, chn1, e_nil, e_cons, e_tup, e_lst, e_fn, e_fnS, e_fnK, e_isi, isiR1, outR1, outS1, e_stG, e_sl, b_no, b_so, toI1, e_no, e_sx, e_ret, e_retN, e_sif, put_fz, put_ow, nxO1, e_set, asg_fz, asg_ow, e_asg, g_nm, g_nl, g_cn, obind1, g_tuT, g_tuL, e_par2, e_par3, stO1, e_stS, e_stT, bind1, ofR1, d_fz, d_ow, d_bw, frz_fz, frz_ow, frz_bw, nb_nil, nb_fz, nb_ow, nb_bw, v_add, v_sub, v_neg, v_lt, v_gt, v_le, v_ge, v_is, v_isNot, v_eqS, v_neS, v_eq, v_ne, v_eqB, v_neB, v_ixT, v_ixL, at0, at1, at2, at3, at4, at5, map1, v_lenL, v_lenT, v_abs, v_int, v_intB, v_max2, v_min2, v_max3, v_min3, v_tupL, v_tupT, v_lstL, v_lstT, k_int_none, k_int_bool, k_int_int, k_int_str, k_int_list, k_int_tuple, k_bool_none, k_bool_bool, k_bool_int, k_bool_str, k_bool_list, k_bool_tuple, k_str_none, k_str_bool, k_str_int, k_str_str, k_str_list, k_str_tuple, k_list_none, k_list_bool, k_list_int, k_list_str, k_list_list, k_list_tuple, k_tuple_none, k_tuple_bool, k_tuple_int, k_tuple_str, k_tuple_list, k_tuple_tuple, k_dict_none, k_dict_bool, k_dict_int, k_dict_str, k_dict_list, k_dict_tuple, Int.cast_ofNat_Int, Nat.reduceAdd, Nat.reduceLeDiff, e_lc, e_iseq, seqI_fl, seqI_ft, seqI_ol, seqI_ot, lcS1, lcN1, val_fz, val_ow, t_true, wipe0, wipe1, mkL1, noX1, loopS1, loop_nx, loop_ct, loop_bk, loop_rt, loop_exc, e_for, v_allD, v_anyD, bools_map, ints_map, bools0, bools1, ints0, ints1, size_eq, decide_true, decide_false, true_or, or_true, eq_self, and_true, true_and, List.all_cons, List.all_nil, List.any_cons, List.any_nil, id_eq, isN, List.map_cons, List.map_nil, List.length_cons, List.length_nil, List.getElem?_cons_zero, List.getElem?_cons_succ, List.set_cons_zero, List.set_cons_succ, decide_eq_true_eq, if_true, Bool.or_true, Bool.true_or, Bool.and_true, Bool.true_and, Bool.false_eq_true, if_false, Bool.not_true, Bool.not_false, Bool.or_false, Bool.false_or, Bool.and_false, Bool.false_and, BEq.rfl, e_sortK, k_sortK, e_lc2, k_lc2c, mkD1, e_dc, k_dc, e_dc0, e_stD, stD1, o_stD1f, o_stD1o, o_stD2, e_slk, lk1, e_elk, lke1, unlO_nx, unlO_bk, unlO_ct, unlO_rt, unl_nil, unl_cons, unl1_no, unl1_fz, unl1_ow, unl1_lk, e_items, items1, e_keysD, keysD1, e_en, k_enL, k_enT, k_enO, e_zp, k_zp, e_fnL, k_fnL, e_fnL0, e_fnC, e_fnC0, callC1, k_C, outC1, v_ixTA, v_ixLA, bind_some, boolsM, all_mapI, any_mapI, allT, e_app, app1, o_appf, o_appo, e_frz, frzo1, frzo2, List.length_map, c1, e1, e2]
          rfl
        · intro u hu
          refine ⟨_, rfl, ?_, fun _ => ⟨.fz (pr u), rfl, rfl⟩⟩
          have su : sm u := tiles_sm h.n6 h.m6 u (nb_tiles u hu)
          simp only [k_op1, k_op2, k_un, k_call, k_b, k_and, k_or, k_not, k_eand, k_eor, k_enot, k_if, k_c1, k_c2, k_c3, k_cons1, k_cons2, k_tup, k_lst, k_fn, k_fnS, k_fnK, k_isi, k_sl1, k_sl2, k_sl3, k_i, o_sx, o_ret, o_if, o_set, o_asg, o_par2, o_par3, o_stS, o_stT, o_for, k_seq, k_rg1, k_rg2, e_rg1, e_rg2, rg1_1, rg2_1, k_lc, k_lt, k_le, k_lc2, k_fnF, e_fnF, run1, e_seq, seq_nx, seq_rt, seq_ct, seq_bk, fin_nx, fin_rt, given_fz, given_ow, given_bw, e_var, e_op, e_un, e_call, e_c, lift1, e_asB, toB1, e_tand, e_tor, e_tnot, e_and, e_or, e_not, e_if, e_chain, chn1, e_nil, e_cons, e_tup, e_lst, e_fn, e_fnS, e_fnK, e_isi, isiR1, outR1, outS1, e_stG, e_sl, b_no, b_so, toI1, e_no, e_sx, e_ret, e_retN, e_sif, put_fz, put_ow, nxO1, e_set, asg_fz, asg_ow, e_asg, g_nm, g_nl, g_cn, obind1, g_tuT, g_tuL, e_par2, e_par3, stO1, e_stS, e_stT, bind1, ofR1, d_fz, d_ow, d_bw, frz_fz, frz_ow, frz_bw, nb_nil, nb_fz, nb_ow, nb_bw, v_add, v_sub, v_neg, v_lt, v_gt, v_le, v_ge, v_is, v_isNot, v_eqS, v_neS, v_eq, v_ne, v_eqB, v_neB, v_ixT, v_ixL, at0, at1, at2, at3, at4, at5, map1, v_lenL, v_lenT, v_abs, v_int, v_intB, v_max2, v_min2, v_max3, v_min3, v_tupL, v_tupT, v_lstL, v_lstT, k_int_none, k_int_bool, k_int_int, k_int_str, k_int_list, k_int_tuple, k_bool_none, k_bool_bool, k_bool_int, k_bool_str, k_bool_list, k_bool_tuple, k_str_none, k_str_bool, k_str_int, k_str_str, k_str_list, k_str_tuple, k_list_none, k_list_bool, k_list_int, k_list_str, k_list_list, k_list_tuple, k_tuple_none, k_tuple_bool, k_tuple_int, k_tuple_str, k_tuple_list, k_tuple_tuple, k_dict_none, k_dict_bool, k_dict_int, k_dict_str, k_dict_list, k_dict_tuple, Int.cast_ofNat_Int, Nat.reduceAdd, Nat.reduceLeDiff, e_lc, e_iseq, seqI_fl, seqI_ft, seqI_ol, seqI_ot, lcS1, lcN1, val_fz, val_ow, t_true, wipe0, wipe1, mkL1, noX1, loopS1, loop_nx, loop_ct, loop_bk, loop_rt, loop_exc, e_for, v_allD, v_anyD, bools_map, ints_map, bools0, bools1, ints0, ints1, size_eq, decide_true, decide_false, true_or, or_true, eq_self, and_true, true_and, List.all_cons, List.all_nil, List.any_cons, List.any_nil, id_eq, isN, List.map_cons, List.map_nil, List.length_cons, List.length_nil, List.getElem?_cons_zero, List.getElem?_cons_succ, List.set_cons_zero, List.set_cons_succ, decide_eq_true_eq, if_true, Bool.or_true, Bool.true_or, Bool.and_true, Bool.true_and, Bool.false_eq_true, if_false, Bool.not_true, Bool.not_false, Bool.or_false, Bool.false_or, Bool.and_false, Bool.false_and, BEq.rfl, e_sortK, k_sortK, e_lc2, k_lc2c, mkD1, e_dc, k_dc, e_dc0, e_stD, stD1, o_stD1f, o_stD1o, o_stD2, e_slk, lk1, e_elk, lke1, unlO_nx, unlO_bk, unlO_ct, unlO_rt, unl_nil, unl_cons, unl1_no, unl1_fz, unl1_ow, unl1_lk, e_items, items1, e_keysD, keysD1, e_en, k_enL, k_enT, k_enO, e_zp, k_zp, e_fnL, k_fnL, e_fnL0, e_fnC, e_fnC0, callC1, k_C, outC1, v_ixTA, v_ixLA, bind_some, boolsM, all_mapI, any_mapI, allT, e_app, app1, o_appf, o_appo, e_frz, frzo1, frzo2, v_notInPT su sml]
      refine ⟨_, rfl, fun hq => ?_, fun hq => ⟨_, st.trans (if_neg (by simp only [Bool.not_eq_false', decide_eq_true_eq] at hq; omega)), _, _, rfl⟩⟩
      exact st.trans (if_pos (by simp only [Bool.not_eq_true', decide_eq_false_iff_not] at hq; omega))) ⟨_, _, rfl⟩
  have es : snugB F n m l = (l.find? fun t => !decide (((outs n m l t).length : Int) < need F t)).isNone := by
    rw [find_all]
    simp only [Bool.not_not]
    rfl
  have ne : fNe (lotT l) (.tuple []) = some (.fz (.bool (!l.isEmpty))) := by rw [v_neNilT (cmp_lot sml), isEmpty_map]
  rcases hL with ⟨_, hn, e, x3, x4, rfl⟩ | ⟨x, hx, e⟩
  · rw [e, es, hn]
    simp only [k_op1, k_op2, k_un, k_call, k_b, k_and, k_or, k_not, k_eand, k_eor, k_enot, k_if, k_c1, k_c2, k_c3, k_cons1, k_cons2, k_tup, k_lst, k_fn, k_fnS, k_fnK, k_isi, k_sl1, k_sl2, k_sl3, k_i, o_sx, o_ret, o_if, o_set, o_asg, o_par2, o_par3, o_stS, o_stT, o_for, k_seq, k_rg1, k_rg2, e_rg1, e_rg2, rg1_1, rg2_1, k_lc, k_lt, k_le, k_lc2, k_fnF, e_fnF, run1, e_seq, seq_nx, seq_rt, seq_ct, seq_bk, fin_nx, fin_rt, given_fz, given_ow, given_bw, e_var, e_op, e_un, e_call, e_c, lift1, e_asB, toB1, e_tand, e_tor, e_tnot, e_and, e_or, e_not, e_if, e_chain, chn1, e_nil, e_cons, e_tup, e_lst, e_fn, e_fnS, e_fnK, e_isi, isiR1, outR1, outS1, e_stG, e_sl, b_no, b_so, toI1, e_no, e_sx, e_ret, e_retN, e_sif, put_fz, put_ow, nxO1, e_set, asg_fz, asg_ow, e_asg, g_nm, g_nl, g_cn, obind1, g_tuT, g_tuL, e_par2, e_par3, stO1, e_stS, e_stT, bind1, ofR1, d_fz, d_ow, d_bw, frz_fz, frz_ow, frz_bw, nb_nil, nb_fz, nb_ow, nb_bw, v_add, v_sub, v_neg, v_lt, v_gt, v_le, v_ge, v_is, v_isNot, v_eqS, v_neS, v_eq, v_ne, v_eqB, v_neB, v_ixT, v_ixL, at0, at1, at2, at3, at4, at5, map1, v_lenL, v_lenT, v_abs, v_int, v_intB, v_max2, v_min2, v_max3, v_min3, v_tupL, v_tupT, v_lstL, v_lstT, k_int_none, k_int_bool, k_int_int, k_int_str, k_int_list, k_int_tuple, k_bool_none, k_bool_bool, k_bool_int, k_bool_str, k_bool_list, k_bool_tuple, k_str_none, k_str_bool, k_str_int, k_str_str, k_str_list, k_str_tuple, k_list_none, k_list_bool, k_list_int, k_list_str, k_list_list, k_list_tuple, k_tuple_none, k_tuple_bool, k_tuple_int, k_tuple_str, k_tuple_list, k_tuple_tuple, k_dict_none, k_dict_bool, k_dict_int, k_dict_str, k_dict_list, k_dict_tuple, Int.cast_ofNat_Int, Nat.reduceAdd, Nat.reduceLeDiff, e_lc, e_iseq, seqI_fl, seqI_ft, seqI_ol, seqI_ot, lcS1, lcN1, val_fz, val_ow, t_true, wipe0, wipe1, mkL1, noX1, loopS1, loop_nx, loop_ct, loop_bk, loop_rt, loop_exc, e_for, v_allD, v_anyD, bools_map, ints_map, bools0, bools1, ints0, ints1, size_eq, decide_true, decide_false, true_or, or_true, eq_self, and_true, true_and, List.all_cons, List.all_nil, List.any_cons, List.any_nil, id_eq, isN, List.map_cons, List.map_nil, List.length_cons, List.length_nil, List.getElem?_cons_zero, List.getElem?_cons_succ, List.set_cons_zero, List.set_cons_succ, decide_eq_true_eq, if_true, Bool.or_true, Bool.true_or, Bool.and_true, Bool.true_and, Bool.false_eq_true, if_false, Bool.not_true, Bool.not_false, Bool.or_false, Bool.false_or, Bool.and_false, Bool.false_and, BEq.rfl, e_sortK, k_sortK, e_lc2, k_lc2c, mkD1, e_dc, k_dc, e_dc0, e_stD, stD1, o_stD1f, o_stD1o, o_stD2, e_slk, lk1, e_elk, lke1, unlO_nx, unlO_bk, unlO_ct, unlO_rt, unl_nil, unl_cons, unl1_no, unl1_fz, unl1_ow, unl1_lk, e_items, items1, e_keysD, keysD1, e_en, k_enL, k_enT, k_enO, e_zp, k_zp, e_fnL, k_fnL, e_fnL0, e_fnC, e_fnC0, callC1, k_C, outC1, v_ixTA, v_ixLA, bind_some, boolsM, all_mapI, any_mapI, allT, e_app, app1, o_appf, o_appo, e_frz, frzo1, frzo2, ne]
  · rw [e, es, hx]
    rfl
theorem pl_snugs (h : Fl F n m) (c : n * m ≤ 12) (w : List Int) : S__law_snugs [] [.fz (flD F)] w = .ok (.ow (.list (((lots (tiles n m)).filter fun l => snugB F n m l && !l.isEmpty).map lotT)), w) := by
  rw [u__law_snugs]
  unfold g__law_snugs
  have hlen : ((lots (tiles n m)).filter fun l => snugB F n m l && !l.isEmpty).length ≤ 16777216 := by
    have h1 := List.length_filter_le (fun l => snugB F n m l && !l.isEmpty) (lots (tiles n m))
    rw [lots_len, tiles_len] at h1
    have : 2 ^ (n * m) ≤ 2 ^ 12 := Nat.pow_le_pow_right (by decide) c
    omega
  simp only [k_op1, k_op2, k_un, k_call, k_b, k_and, k_or, k_not, k_eand, k_eor, k_enot, k_if, k_c1, k_c2, k_c3, k_cons1, k_cons2, k_tup, k_lst, k_fn, k_fnS, k_fnK, k_isi, k_sl1, k_sl2, k_sl3, k_i, o_sx, o_ret, o_if, o_set, o_asg, o_par2, o_par3, o_stS, o_stT, o_for, k_seq, k_rg1, k_rg2, e_rg1, e_rg2, rg1_1, rg2_1, k_lc, k_lt, k_le, k_lc2, k_fnF, e_fnF, run1, e_seq, seq_nx, seq_rt, seq_ct, seq_bk, fin_nx, fin_rt, given_fz, given_ow, given_bw, e_var, e_op, e_un, e_call, e_c, lift1, e_asB, toB1, e_tand, e_tor, e_tnot, e_and, e_or, e_not, e_if, e_chain, chn1, e_nil, e_cons, e_tup, e_lst, e_fn, e_fnS, e_fnK, e_isi, isiR1, outR1, outS1, e_stG, e_sl, b_no, b_so, toI1, e_no, e_sx, e_ret, e_retN, e_sif, put_fz, put_ow, nxO1, e_set, asg_fz, asg_ow, e_asg, g_nm, g_nl, g_cn, obind1, g_tuT, g_tuL, e_par2, e_par3, stO1, e_stS, e_stT, bind1, ofR1, d_fz, d_ow, d_bw, frz_fz, frz_ow, frz_bw, nb_nil, nb_fz, nb_ow, nb_bw, v_add, v_sub, v_neg, v_lt, v_gt, v_le, v_ge, v_is, v_isNot, v_eqS, v_neS, v_eq, v_ne, v_eqB, v_neB, v_ixT, v_ixL, at0, at1, at2, at3, at4, at5, map1, v_lenL, v_lenT, v_abs, v_int, v_intB, v_max2, v_min2, v_max3, v_min3, v_tupL, v_tupT, v_lstL, v_lstT, k_int_none, k_int_bool, k_int_int, k_int_str, k_int_list, k_int_tuple, k_bool_none, k_bool_bool, k_bool_int, k_bool_str, k_bool_list, k_bool_tuple, k_str_none, k_str_bool, k_str_int, k_str_str, k_str_list, k_str_tuple, k_list_none, k_list_bool, k_list_int, k_list_str, k_list_list, k_list_tuple, k_tuple_none, k_tuple_bool, k_tuple_int, k_tuple_str, k_tuple_list, k_tuple_tuple, k_dict_none, k_dict_bool, k_dict_int, k_dict_str, k_dict_list, k_dict_tuple, Int.cast_ofNat_Int, Nat.reduceAdd, Nat.reduceLeDiff, e_lc, e_iseq, seqI_fl, seqI_ft, seqI_ol, seqI_ot, lcS1, lcN1, val_fz, val_ow, t_true, wipe0, wipe1, mkL1, noX1, loopS1, loop_nx, loop_ct, loop_bk, loop_rt, loop_exc, e_for, v_allD, v_anyD, bools_map, ints_map, bools0, bools1, ints0, ints1, size_eq, decide_true, decide_false, true_or, or_true, eq_self, and_true, true_and, List.all_cons, List.all_nil, List.any_cons, List.any_nil, id_eq, isN, List.map_cons, List.map_nil, List.length_cons, List.length_nil, List.getElem?_cons_zero, List.getElem?_cons_succ, List.set_cons_zero, List.set_cons_succ, decide_eq_true_eq, if_true, Bool.or_true, Bool.true_or, Bool.and_true, Bool.true_and, Bool.false_eq_true, if_false, Bool.not_true, Bool.not_false, Bool.or_false, Bool.false_or, Bool.and_false, Bool.false_and, BEq.rfl, e_sortK, k_sortK, e_lc2, k_lc2c, mkD1, e_dc, k_dc, e_dc0, e_stD, stD1, o_stD1f, o_stD1o, o_stD2, e_slk, lk1, e_elk, lke1, unlO_nx, unlO_bk, unlO_ct, unlO_rt, unl_nil, unl_cons, unl1_no, unl1_fz, unl1_ow, unl1_lk, e_items, items1, e_keysD, keysD1, e_en, k_enL, k_enT, k_enO, e_zp, k_zp, e_fnL, k_fnL, e_fnL0, e_fnC, e_fnC0, callC1, k_C, outC1, v_ixTA, v_ixLA, bind_some, boolsM, all_mapI, any_mapI, allT, e_app, app1, o_appf, o_appo, e_frz, frzo1, frzo2, pl_tiles h, p_all_lots _ (by rw [tiles_len]; exact c), indep, pure?]
  rw [lc_filterE lotT (fun l => snugB F n m l && !l.isEmpty) lotT]
  · simp only [k_op1, k_op2, k_un, k_call, k_b, k_and, k_or, k_not, k_eand, k_eor, k_enot, k_if, k_c1, k_c2, k_c3, k_cons1, k_cons2, k_tup, k_lst, k_fn, k_fnS, k_fnK, k_isi, k_sl1, k_sl2, k_sl3, k_i, o_sx, o_ret, o_if, o_set, o_asg, o_par2, o_par3, o_stS, o_stT, o_for, k_seq, k_rg1, k_rg2, e_rg1, e_rg2, rg1_1, rg2_1, k_lc, k_lt, k_le, k_lc2, k_fnF, e_fnF, run1, e_seq, seq_nx, seq_rt, seq_ct, seq_bk, fin_nx, fin_rt, given_fz, given_ow, given_bw, e_var, e_op, e_un, e_call, e_c, lift1, e_asB, toB1, e_tand, e_tor, e_tnot, e_and, e_or, e_not, e_if, e_chain, chn1, e_nil, e_cons, e_tup, e_lst, e_fn, e_fnS, e_fnK, e_isi, isiR1, outR1, outS1, e_stG, e_sl, b_no, b_so, toI1, e_no, e_sx, e_ret, e_retN, e_sif, put_fz, put_ow, nxO1, e_set, asg_fz, asg_ow, e_asg, g_nm, g_nl, g_cn, obind1, g_tuT, g_tuL, e_par2, e_par3, stO1, e_stS, e_stT, bind1, ofR1, d_fz, d_ow, d_bw, frz_fz, frz_ow, frz_bw, nb_nil, nb_fz, nb_ow, nb_bw, v_add, v_sub, v_neg, v_lt, v_gt, v_le, v_ge, v_is, v_isNot, v_eqS, v_neS, v_eq, v_ne, v_eqB, v_neB, v_ixT, v_ixL, at0, at1, at2, at3, at4, at5, map1, v_lenL, v_lenT, v_abs, v_int, v_intB, v_max2, v_min2, v_max3, v_min3, v_tupL, v_tupT, v_lstL, v_lstT, k_int_none, k_int_bool, k_int_int, k_int_str, k_int_list, k_int_tuple, k_bool_none, k_bool_bool, k_bool_int, k_bool_str, k_bool_list, k_bool_tuple, k_str_none, k_str_bool, k_str_int, k_str_str, k_str_list, k_str_tuple, k_list_none, k_list_bool, k_list_int, k_list_str, k_list_list, k_list_tuple, k_tuple_none, k_tuple_bool, k_tuple_int, k_tuple_str, k_tuple_list, k_tuple_tuple, k_dict_none, k_dict_bool, k_dict_int, k_dict_str, k_dict_list, k_dict_tuple, Int.cast_ofNat_Int, Nat.reduceAdd, Nat.reduceLeDiff, e_lc, e_iseq, seqI_fl, seqI_ft, seqI_ol, seqI_ot, lcS1, lcN1, val_fz, val_ow, t_true, wipe0, wipe1, mkL1, noX1, loopS1, loop_nx, loop_ct, loop_bk, loop_rt, loop_exc, e_for, v_allD, v_anyD, bools_map, ints_map, bools0, bools1, ints0, ints1, size_eq, decide_true, decide_false, true_or, or_true, eq_self, and_true, true_and, List.all_cons, List.all_nil, List.any_cons, List.any_nil, id_eq, isN, List.map_cons, List.map_nil, List.length_cons, List.length_nil, List.getElem?_cons_zero, List.getElem?_cons_succ, List.set_cons_zero, List.set_cons_succ, decide_eq_true_eq, if_true, Bool.or_true, Bool.true_or, Bool.and_true, Bool.true_and, Bool.false_eq_true, if_false, Bool.not_true, Bool.not_false, Bool.or_false, Bool.false_or, Bool.and_false, Bool.false_and, BEq.rfl, e_sortK, k_sortK, e_lc2, k_lc2c, mkD1, e_dc, k_dc, e_dc0, e_stD, stD1, o_stD1f, o_stD1o, o_stD2, e_slk, lk1, e_elk, lke1, unlO_nx, unlO_bk, unlO_ct, unlO_rt, unl_nil, unl_cons, unl1_no, unl1_fz, unl1_ow, unl1_lk, e_items, items1, e_keysD, keysD1, e_en, k_enL, k_enT, k_enO, e_zp, k_zp, e_fnL, k_fnL, e_fnL0, e_fnC, e_fnC0, callC1, k_C, outC1, v_ixTA, v_ixLA, bind_some, boolsM, all_mapI, any_mapI, allT, e_app, app1, o_appf, o_appo, e_frz, frzo1, frzo2, List.length_map, hlen]
  · intro l hl
    refine ⟨_, rfl, ?_, fun _ => ⟨.fz (lotT l), rfl, rfl⟩⟩
    simp only [k_op1, k_op2, k_un, k_call, k_b, k_and, k_or, k_not, k_eand, k_eor, k_enot, k_if, k_c1, k_c2, k_c3, k_cons1, k_cons2, k_tup, k_lst, k_fn, k_fnS, k_fnK, k_isi, k_sl1, k_sl2, k_sl3, k_i, o_sx, o_ret, o_if, o_set, o_asg, o_par2, o_par3, o_stS, o_stT, o_for, k_seq, k_rg1, k_rg2, e_rg1, e_rg2, rg1_1, rg2_1, k_lc, k_lt, k_le, k_lc2, k_fnF, e_fnF, run1, e_seq, seq_nx, seq_rt, seq_ct, seq_bk, fin_nx, fin_rt, given_fz, given_ow, given_bw, e_var, e_op, e_un, e_call, e_c, lift1, e_asB, toB1, e_tand, e_tor, e_tnot, e_and, e_or, e_not, e_if, e_chain, chn1, e_nil, e_cons, e_tup, e_lst, e_fn, e_fnS, e_fnK, e_isi, isiR1, outR1, outS1, e_stG, e_sl, b_no, b_so, toI1, e_no, e_sx, e_ret, e_retN, e_sif, put_fz, put_ow, nxO1, e_set, asg_fz, asg_ow, e_asg, g_nm, g_nl, g_cn, obind1, g_tuT, g_tuL, e_par2, e_par3, stO1, e_stS, e_stT, bind1, ofR1, d_fz, d_ow, d_bw, frz_fz, frz_ow, frz_bw, nb_nil, nb_fz, nb_ow, nb_bw, v_add, v_sub, v_neg, v_lt, v_gt, v_le, v_ge, v_is, v_isNot, v_eqS, v_neS, v_eq, v_ne, v_eqB, v_neB, v_ixT, v_ixL, at0, at1, at2, at3, at4, at5, map1, v_lenL, v_lenT, v_abs, v_int, v_intB, v_max2, v_min2, v_max3, v_min3, v_tupL, v_tupT, v_lstL, v_lstT, k_int_none, k_int_bool, k_int_int, k_int_str, k_int_list, k_int_tuple, k_bool_none, k_bool_bool, k_bool_int, k_bool_str, k_bool_list, k_bool_tuple, k_str_none, k_str_bool, k_str_int, k_str_str, k_str_list, k_str_tuple, k_list_none, k_list_bool, k_list_int, k_list_str, k_list_list, k_list_tuple, k_tuple_none, k_tuple_bool, k_tuple_int, k_tuple_str, k_tuple_list, k_tuple_tuple, k_dict_none, k_dict_bool, k_dict_int, k_dict_str, k_dict_list, k_dict_tuple, Int.cast_ofNat_Int, Nat.reduceAdd, Nat.reduceLeDiff, e_lc, e_iseq, seqI_fl, seqI_ft, seqI_ol, seqI_ot, lcS1, lcN1, val_fz, val_ow, t_true, wipe0, wipe1, mkL1, noX1, loopS1, loop_nx, loop_ct, loop_bk, loop_rt, loop_exc, e_for, v_allD, v_anyD, bools_map, ints_map, bools0, bools1, ints0, ints1, size_eq, decide_true, decide_false, true_or, or_true, eq_self, and_true, true_and, List.all_cons, List.all_nil, List.any_cons, List.any_nil, id_eq, isN, List.map_cons, List.map_nil, List.length_cons, List.length_nil, List.getElem?_cons_zero, List.getElem?_cons_succ, List.set_cons_zero, List.set_cons_succ, decide_eq_true_eq, if_true, Bool.or_true, Bool.true_or, Bool.and_true, Bool.true_and, Bool.false_eq_true, if_false, Bool.not_true, Bool.not_false, Bool.or_false, Bool.false_or, Bool.and_false, Bool.false_and, BEq.rfl, e_sortK, k_sortK, e_lc2, k_lc2c, mkD1, e_dc, k_dc, e_dc0, e_stD, stD1, o_stD1f, o_stD1o, o_stD2, e_slk, lk1, e_elk, lke1, unlO_nx, unlO_bk, unlO_ct, unlO_rt, unl_nil, unl_cons, unl1_no, unl1_fz, unl1_ow, unl1_lk, e_items, items1, e_keysD, keysD1, e_en, k_enL, k_enT, k_enO, e_zp, k_zp, e_fnL, k_fnL, e_fnL0, e_fnC, e_fnC0, callC1, k_C, outC1, v_ixTA, v_ixLA, bind_some, boolsM, all_mapI, any_mapI, allT, e_app, app1, o_appf, o_appo, e_frz, frzo1, frzo2, pl_snug h (mem_lots.mp hl), indep, pure?]
end
/-! draws -/
theorem sm1 : smallB 25523 = true := by decide
theorem sm2 : smallB 10007 = true := by decide
theorem sm3 : smallB 31 = true := by decide
theorem p_deal (a b c t : Int) (h : 0 < t) (h2 : t < 1000) : ∃ r w', S__law_deal [] [.fz (.int t)] [a, b, c] = .ok (.fz (.int r), w') ∧ (0 ≤ r ∧ r < t) ∧ W3 w' := by
  rw [u__law_deal]
  unfold g__law_deal
  have ht : t ≠ 0 := by omega
  have ht2 : t < 1073741824 := by omega
  have m1 : (2147483489 : Int) ≠ 0 := by decide
  have m2 : (5077 : Int) ≠ 0 := by decide
  have m3 : (409 : Int) ≠ 0 := by decide
  by_cases ha : a > 0
  · simp only [k_op1, k_op2, k_un, k_call, k_b, k_and, k_or, k_not, k_eand, k_eor, k_enot, k_if, k_c1, k_c2, k_c3, k_cons1, k_cons2, k_tup, k_lst, k_fn, k_fnS, k_fnK, k_isi, k_sl1, k_sl2, k_sl3, k_i, o_sx, o_ret, o_if, o_set, o_asg, o_par2, o_par3, o_stS, o_stT, o_for, k_seq, k_rg1, k_rg2, e_rg1, e_rg2, rg1_1, rg2_1, k_lc, k_lt, k_le, k_lc2, k_fnF, e_fnF, run1, e_seq, seq_nx, seq_rt, seq_ct, seq_bk, fin_nx, fin_rt, given_fz, given_ow, given_bw, e_var, e_op, e_un, e_call, e_c, lift1, e_asB, toB1, e_tand, e_tor, e_tnot, e_and, e_or, e_not, e_if, e_chain, chn1, e_nil, e_cons, e_tup, e_lst, e_fn, e_fnS, e_fnK, e_isi, isiR1, outR1, outS1, e_stG, e_sl, b_no, b_so, toI1, e_no, e_sx, e_ret, e_retN, e_sif, put_fz, put_ow, nxO1, e_set, asg_fz, asg_ow, e_asg, g_nm, g_nl, g_cn, obind1, g_tuT, g_tuL, e_par2, e_par3, stO1, e_stS, e_stT, bind1, ofR1, d_fz, d_ow, d_bw, frz_fz, frz_ow, frz_bw, nb_nil, nb_fz, nb_ow, nb_bw, v_add, v_sub, v_neg, v_lt, v_gt, v_le, v_ge, v_is, v_isNot, v_eqS, v_neS, v_eq, v_ne, v_eqB, v_neB, v_ixT, v_ixL, at0, at1, at2, at3, at4, at5, map1, v_lenL, v_lenT, v_abs, v_int, v_intB, v_max2, v_min2, v_max3, v_min3, v_tupL, v_tupT, v_lstL, v_lstT, k_int_none, k_int_bool, k_int_int, k_int_str, k_int_list, k_int_tuple, k_bool_none, k_bool_bool, k_bool_int, k_bool_str, k_bool_list, k_bool_tuple, k_str_none, k_str_bool, k_str_int, k_str_str, k_str_list, k_str_tuple, k_list_none, k_list_bool, k_list_int, k_list_str, k_list_list, k_list_tuple, k_tuple_none, k_tuple_bool, k_tuple_int, k_tuple_str, k_tuple_list, k_tuple_tuple, k_dict_none, k_dict_bool, k_dict_int, k_dict_str, k_dict_list, k_dict_tuple, Int.cast_ofNat_Int, Nat.reduceAdd, Nat.reduceLeDiff, e_lc, e_iseq, seqI_fl, seqI_ft, seqI_ol, seqI_ot, lc_step, lc_nil, lcS1, lcN1, val_fz, val_ow, t_true, wipe0, wipe1, mkL1, noX1, loop_step, loop_nil, loopS1, loop_nx, loop_ct, loop_bk, loop_rt, loop_exc, e_for, v_allD, v_anyD, bools_map, ints_map, bools0, bools1, ints0, ints1, size_eq, decide_true, decide_false, true_or, or_true, eq_self, and_true, true_and, List.all_cons, List.all_nil, List.any_cons, List.any_nil, id_eq, isN, List.map_cons, List.map_nil, List.length_cons, List.length_nil, List.getElem?_cons_zero, List.getElem?_cons_succ, List.set_cons_zero, List.set_cons_succ, decide_eq_true_eq, if_true, Bool.or_true, Bool.true_or, Bool.and_true, Bool.true_and, Bool.false_eq_true, if_false, Bool.not_true, Bool.not_false, Bool.or_false, Bool.false_or, Bool.and_false, Bool.false_and, BEq.rfl, e_sortK, k_sortK, e_lc2, k_lc2c, mkD1, e_dc, k_dc, e_dc0, e_stD, stD1, o_stD1f, o_stD1o, o_stD2, e_slk, lk1, e_elk, lke1, unlO_nx, unlO_bk, unlO_ct, unlO_rt, unl_nil, unl_cons, unl1_no, unl1_fz, unl1_ow, unl1_lk, e_items, items1, e_keysD, keysD1, e_en, k_enL, k_enT, k_enO, e_zp, k_zp, e_fnL, k_fnL, e_fnL0, e_fnC, e_fnC0, callC1, k_C, outC1, v_ixTA, v_ixLA, bind_some, boolsM, all_mapI, any_mapI, allT, e_app, app1, o_appf, o_appo, e_frz, frzo1, frzo2, ha, decide_true, v_divmod h ht2, Nat.reduceLT, sm1, sm2, sm3]
    exact ⟨_, _, rfl, ⟨Int.emod_nonneg _ ht, Int.emod_lt_of_pos _ h⟩, _, _, _, rfl⟩
  · simp only [k_op1, k_op2, k_un, k_call, k_b, k_and, k_or, k_not, k_eand, k_eor, k_enot, k_if, k_c1, k_c2, k_c3, k_cons1, k_cons2, k_tup, k_lst, k_fn, k_fnS, k_fnK, k_isi, k_sl1, k_sl2, k_sl3, k_i, o_sx, o_ret, o_if, o_set, o_asg, o_par2, o_par3, o_stS, o_stT, o_for, k_seq, k_rg1, k_rg2, e_rg1, e_rg2, rg1_1, rg2_1, k_lc, k_lt, k_le, k_lc2, k_fnF, e_fnF, run1, e_seq, seq_nx, seq_rt, seq_ct, seq_bk, fin_nx, fin_rt, given_fz, given_ow, given_bw, e_var, e_op, e_un, e_call, e_c, lift1, e_asB, toB1, e_tand, e_tor, e_tnot, e_and, e_or, e_not, e_if, e_chain, chn1, e_nil, e_cons, e_tup, e_lst, e_fn, e_fnS, e_fnK, e_isi, isiR1, outR1, outS1, e_stG, e_sl, b_no, b_so, toI1, e_no, e_sx, e_ret, e_retN, e_sif, put_fz, put_ow, nxO1, e_set, asg_fz, asg_ow, e_asg, g_nm, g_nl, g_cn, obind1, g_tuT, g_tuL, e_par2, e_par3, stO1, e_stS, e_stT, bind1, ofR1, d_fz, d_ow, d_bw, frz_fz, frz_ow, frz_bw, nb_nil, nb_fz, nb_ow, nb_bw, v_add, v_sub, v_neg, v_lt, v_gt, v_le, v_ge, v_is, v_isNot, v_eqS, v_neS, v_eq, v_ne, v_eqB, v_neB, v_ixT, v_ixL, at0, at1, at2, at3, at4, at5, map1, v_lenL, v_lenT, v_abs, v_int, v_intB, v_max2, v_min2, v_max3, v_min3, v_tupL, v_tupT, v_lstL, v_lstT, k_int_none, k_int_bool, k_int_int, k_int_str, k_int_list, k_int_tuple, k_bool_none, k_bool_bool, k_bool_int, k_bool_str, k_bool_list, k_bool_tuple, k_str_none, k_str_bool, k_str_int, k_str_str, k_str_list, k_str_tuple, k_list_none, k_list_bool, k_list_int, k_list_str, k_list_list, k_list_tuple, k_tuple_none, k_tuple_bool, k_tuple_int, k_tuple_str, k_tuple_list, k_tuple_tuple, k_dict_none, k_dict_bool, k_dict_int, k_dict_str, k_dict_list, k_dict_tuple, Int.cast_ofNat_Int, Nat.reduceAdd, Nat.reduceLeDiff, e_lc, e_iseq, seqI_fl, seqI_ft, seqI_ol, seqI_ot, lc_step, lc_nil, lcS1, lcN1, val_fz, val_ow, t_true, wipe0, wipe1, mkL1, noX1, loop_step, loop_nil, loopS1, loop_nx, loop_ct, loop_bk, loop_rt, loop_exc, e_for, v_allD, v_anyD, bools_map, ints_map, bools0, bools1, ints0, ints1, size_eq, decide_true, decide_false, true_or, or_true, eq_self, and_true, true_and, List.all_cons, List.all_nil, List.any_cons, List.any_nil, id_eq, isN, List.map_cons, List.map_nil, List.length_cons, List.length_nil, List.getElem?_cons_zero, List.getElem?_cons_succ, List.set_cons_zero, List.set_cons_succ, decide_eq_true_eq, if_true, Bool.or_true, Bool.true_or, Bool.and_true, Bool.true_and, Bool.false_eq_true, if_false, Bool.not_true, Bool.not_false, Bool.or_false, Bool.false_or, Bool.and_false, Bool.false_and, BEq.rfl, e_sortK, k_sortK, e_lc2, k_lc2c, mkD1, e_dc, k_dc, e_dc0, e_stD, stD1, o_stD1f, o_stD1o, o_stD2, e_slk, lk1, e_elk, lke1, unlO_nx, unlO_bk, unlO_ct, unlO_rt, unl_nil, unl_cons, unl1_no, unl1_fz, unl1_ow, unl1_lk, e_items, items1, e_keysD, keysD1, e_en, k_enL, k_enT, k_enO, e_zp, k_zp, e_fnL, k_fnL, e_fnL0, e_fnC, e_fnC0, callC1, k_C, outC1, v_ixTA, v_ixLA, bind_some, boolsM, all_mapI, any_mapI, allT, e_app, app1, o_appf, o_appo, e_frz, frzo1, frzo2, ha, decide_false, Nat.reduceLT, v_mul, v_mod m1, v_mod m2, v_div m3 (by decide), sm1, sm2, sm3, small_mod (k := 5077) (c := 30011) (by decide) (by decide) (by decide) (by decide), v_mod ht]
    exact ⟨_, _, rfl, ⟨Int.fmod_nonneg_of_pos _ h, Int.fmod_lt_of_pos _ h⟩, _, _, _, rfl⟩
/-! the pail -/
theorem p_pail (zs : List Int) (k : Int) (hk : 0 ≤ k) (w : List Int) : ∃ x y z, S__law_pail [] [.fz (.list (zs.map PyData.int)), .fz (.int k)] w = .ok (.ow (.list [.int x, .int y, .int z]), w) := by
  rw [u__law_pail]
  unfold g__law_pail
  have s1 : smallB 9203 = true := by decide
  have s2 : smallB 50021 = true := by decide
  have s3 : smallB 13 = true := by decide
  have s4 : smallB 89 = true := by decide
  have s5 : smallB 60017 = true := by decide
  have m1 : (2147483489 : Int) ≠ 0 := by decide
  obtain ⟨l, hl⟩ := cut_ints zs none (some 12)
  obtain ⟨ρ', w', e, ⟨m, e3, rfl⟩, rfl⟩ := loop_all (b := gNm 3) (g := sAsg (eOp fMod (eCall fInt (aCons (eOp fAdd (eOp fAdd (eOp fMul (eVar 2) (eC (.int 50021))) (eOp fMul (eOp fMod (eCall fInt (aCons (eVar 3) (aNil))) (eC (.int 2147483489))) (eC (.int 13)))) (eC (.int 7))) (aNil))) (eC (.int 2147483489))) (gNm 2))
    (P := fun ρ w' => (∃ (m : Int) (e3 : Option EV), ρ = [some (.fz (.list (zs.map PyData.int))), some (.fz (.int k)), some (.fz (.int m)), e3, none]) ∧ w' = w) (ds := l.map PyData.int)
    (ρ := [some (.fz (.list (zs.map PyData.int))), some (.fz (.int k)), some (.fz (.int (55001 + 9203 * k))), none, none]) (w := w) (by
      rintro d hd ρ w' ⟨⟨m, e3, rfl⟩, rfl⟩
      obtain ⟨z, _, rfl⟩ := List.mem_map.mp hd
      have step : ∃ m' : Int, sAsg (eOp fMod (eCall fInt (aCons (eOp fAdd (eOp fAdd (eOp fMul (eVar 2) (eC (.int 50021))) (eOp fMul (eOp fMod (eCall fInt (aCons (eVar 3) (aNil))) (eC (.int 2147483489))) (eC (.int 13)))) (eC (.int 7))) (aNil))) (eC (.int 2147483489))) (gNm 2) [some (.fz (.list (zs.map PyData.int))), some (.fz (.int k)), some (.fz (.int m)), some (.fz (.int z)), none] w' = .nx [some (.fz (.list (zs.map PyData.int))), some (.fz (.int k)), some (.fz (.int m')), some (.fz (.int z)), none] w' := by
        simp only [k_op1, k_op2, k_un, k_call, k_b, k_and, k_or, k_not, k_eand, k_eor, k_enot, k_if, k_c1, k_c2, k_c3, k_cons1, k_cons2, k_tup, k_lst, k_fn, k_fnS, k_fnK, k_isi, k_sl1, k_sl2, k_sl3, k_i, o_sx, o_ret, o_if, o_set, o_asg, o_par2, o_par3, o_stS, o_stT, o_for, k_seq, k_rg1, k_rg2, e_rg1, e_rg2, rg1_1, rg2_1, k_lc, k_lt, k_le, k_lc2, k_fnF, e_fnF, run1, e_seq, seq_nx, seq_rt, seq_ct, seq_bk, fin_nx, fin_rt, given_fz, given_ow, given_bw, e_var, e_op, e_un, e_call, e_c, lift1, e_asB, toB1, e_tand, e_tor, e_tnot, e_and, e_or, e_not, e_if, e_chain, chn1, e_nil, e_cons, e_tup, e_lst, e_fn, e_fnS, e_fnK, e_isi, isiR1, outR1, outS1, e_stG, e_sl, b_no, b_so, toI1, e_no, e_sx, e_ret, e_retN, e_sif, put_fz, put_ow, nxO1, e_set, asg_fz, asg_ow, e_asg, g_nm, g_nl, g_cn, obind1, g_tuT, g_tuL, e_par2, e_par3, stO1, e_stS, e_stT, bind1, ofR1, d_fz, d_ow, d_bw, frz_fz, frz_ow, frz_bw, nb_nil, nb_fz, nb_ow, nb_bw, v_add, v_sub, v_neg, v_lt, v_gt, v_le, v_ge, v_is, v_isNot, v_eqS, v_neS, v_eq, v_ne, v_eqB, v_neB, v_ixT, v_ixL, at0, at1, at2, at3, at4, at5, map1, v_lenL, v_lenT, v_abs, v_int, v_intB, v_max2, v_min2, v_max3, v_min3, v_tupL, v_tupT, v_lstL, v_lstT, k_int_none, k_int_bool, k_int_int, k_int_str, k_int_list, k_int_tuple, k_bool_none, k_bool_bool, k_bool_int, k_bool_str, k_bool_list, k_bool_tuple, k_str_none, k_str_bool, k_str_int, k_str_str, k_str_list, k_str_tuple, k_list_none, k_list_bool, k_list_int, k_list_str, k_list_list, k_list_tuple, k_tuple_none, k_tuple_bool, k_tuple_int, k_tuple_str, k_tuple_list, k_tuple_tuple, k_dict_none, k_dict_bool, k_dict_int, k_dict_str, k_dict_list, k_dict_tuple, Int.cast_ofNat_Int, Nat.reduceAdd, Nat.reduceLeDiff, e_lc, e_iseq, seqI_fl, seqI_ft, seqI_ol, seqI_ot, lc_step, lc_nil, lcS1, lcN1, val_fz, val_ow, t_true, wipe0, wipe1, mkL1, noX1, loop_step, loop_nil, loopS1, loop_nx, loop_ct, loop_bk, loop_rt, loop_exc, e_for, v_allD, v_anyD, bools_map, ints_map, bools0, bools1, ints0, ints1, size_eq, decide_true, decide_false, true_or, or_true, eq_self, and_true, true_and, List.all_cons, List.all_nil, List.any_cons, List.any_nil, id_eq, isN, List.map_cons, List.map_nil, List.length_cons, List.length_nil, List.getElem?_cons_zero, List.getElem?_cons_succ, List.set_cons_zero, List.set_cons_succ, decide_eq_true_eq, if_true, Bool.or_true, Bool.true_or, Bool.and_true, Bool.true_and, Bool.false_eq_true, if_false, Bool.not_true, Bool.not_false, Bool.or_false, Bool.false_or, Bool.and_false, Bool.false_and, BEq.rfl, e_sortK, k_sortK, e_lc2, k_lc2c, mkD1, e_dc, k_dc, e_dc0, e_stD, stD1, o_stD1f, o_stD1o, o_stD2, e_slk, lk1, e_elk, lke1, unlO_nx, unlO_bk, unlO_ct, unlO_rt, unl_nil, unl_cons, unl1_no, unl1_fz, unl1_ow, unl1_lk, e_items, items1, e_keysD, keysD1, e_en, k_enL, k_enT, k_enO, e_zp, k_zp, e_fnL, k_fnL, e_fnL0, e_fnC, e_fnC0, callC1, k_C, outC1, v_ixTA, v_ixLA, bind_some, boolsM, all_mapI, any_mapI, allT, e_app, app1, o_appf, o_appo, e_frz, frzo1, frzo2, v_mul, s2, s3, v_mod m1]
        exact ⟨_, rfl⟩
      obtain ⟨m', e⟩ := step
      exact ⟨_, _, _, rfl, e, ⟨_, _, rfl⟩, rfl⟩) ⟨⟨_, _, rfl⟩, rfl⟩
  by_cases hlt : k < (zs.length : Int)
  · obtain ⟨z, hz⟩ := at_int hk hlt
    simp only [k_op1, k_op2, k_un, k_call, k_b, k_and, k_or, k_not, k_eand, k_eor, k_enot, k_if, k_c1, k_c2, k_c3, k_cons1, k_cons2, k_tup, k_lst, k_fn, k_fnS, k_fnK, k_isi, k_sl1, k_sl2, k_sl3, k_i, o_sx, o_ret, o_if, o_set, o_asg, o_par2, o_par3, o_stS, o_stT, o_for, k_seq, k_rg1, k_rg2, e_rg1, e_rg2, rg1_1, rg2_1, k_lc, k_lt, k_le, k_lc2, k_fnF, e_fnF, run1, e_seq, seq_nx, seq_rt, seq_ct, seq_bk, fin_nx, fin_rt, given_fz, given_ow, given_bw, e_var, e_op, e_un, e_call, e_c, lift1, e_asB, toB1, e_tand, e_tor, e_tnot, e_and, e_or, e_not, e_if, e_chain, chn1, e_nil, e_cons, e_tup, e_lst, e_fn, e_fnS, e_fnK, e_isi, isiR1, outR1, outS1, e_stG, e_sl, b_no, b_so, toI1, e_no, e_sx, e_ret, e_retN, e_sif, put_fz, put_ow, nxO1, e_set, asg_fz, asg_ow, e_asg, g_nm, g_nl, g_cn, obind1, g_tuT, g_tuL, e_par2, e_par3, stO1, e_stS, e_stT, bind1, ofR1, d_fz, d_ow, d_bw, frz_fz, frz_ow, frz_bw, nb_nil, nb_fz, nb_ow, nb_bw, v_add, v_sub, v_neg, v_lt, v_gt, v_le, v_ge, v_is, v_isNot, v_eqS, v_neS, v_eq, v_ne, v_eqB, v_neB, v_ixT, v_ixL, at0, at1, at2, at3, at4, at5, map1, v_lenL, v_lenT, v_abs, v_int, v_intB, v_max2, v_min2, v_max3, v_min3, v_tupL, v_tupT, v_lstL, v_lstT, k_int_none, k_int_bool, k_int_int, k_int_str, k_int_list, k_int_tuple, k_bool_none, k_bool_bool, k_bool_int, k_bool_str, k_bool_list, k_bool_tuple, k_str_none, k_str_bool, k_str_int, k_str_str, k_str_list, k_str_tuple, k_list_none, k_list_bool, k_list_int, k_list_str, k_list_list, k_list_tuple, k_tuple_none, k_tuple_bool, k_tuple_int, k_tuple_str, k_tuple_list, k_tuple_tuple, k_dict_none, k_dict_bool, k_dict_int, k_dict_str, k_dict_list, k_dict_tuple, Int.cast_ofNat_Int, Nat.reduceAdd, Nat.reduceLeDiff, e_lc, e_iseq, seqI_fl, seqI_ft, seqI_ol, seqI_ot, lc_step, lc_nil, lcS1, lcN1, val_fz, val_ow, t_true, wipe0, wipe1, mkL1, noX1, loop_step, loop_nil, loopS1, loop_nx, loop_ct, loop_bk, loop_rt, loop_exc, e_for, v_allD, v_anyD, bools_map, ints_map, bools0, bools1, ints0, ints1, size_eq, decide_true, decide_false, true_or, or_true, eq_self, and_true, true_and, List.all_cons, List.all_nil, List.any_cons, List.any_nil, id_eq, isN, List.map_cons, List.map_nil, List.length_cons, List.length_nil, List.getElem?_cons_zero, List.getElem?_cons_succ, List.set_cons_zero, List.set_cons_succ, decide_eq_true_eq, if_true, Bool.or_true, Bool.true_or, Bool.and_true, Bool.true_and, Bool.false_eq_true, if_false, Bool.not_true, Bool.not_false, Bool.or_false, Bool.false_or, Bool.and_false, Bool.false_and, BEq.rfl, e_sortK, k_sortK, e_lc2, k_lc2c, mkD1, e_dc, k_dc, e_dc0, e_stD, stD1, o_stD1f, o_stD1o, o_stD2, e_slk, lk1, e_elk, lke1, unlO_nx, unlO_bk, unlO_ct, unlO_rt, unl_nil, unl_cons, unl1_no, unl1_fz, unl1_ow, unl1_lk, e_items, items1, e_keysD, keysD1, e_en, k_enL, k_enT, k_enO, e_zp, k_zp, e_fnL, k_fnL, e_fnL0, e_fnC, e_fnC0, callC1, k_C, outC1, v_ixTA, v_ixLA, bind_some, boolsM, all_mapI, any_mapI, allT, e_app, app1, o_appf, o_appo, e_frz, frzo1, frzo2, v_mul, s1, v_slL, hl, e, hlt, hz, s4, s5, v_mod m1, pow15, List.length_map]
    by_cases c1 : z < 0
    · simp only [k_op1, k_op2, k_un, k_call, k_b, k_and, k_or, k_not, k_eand, k_eor, k_enot, k_if, k_c1, k_c2, k_c3, k_cons1, k_cons2, k_tup, k_lst, k_fn, k_fnS, k_fnK, k_isi, k_sl1, k_sl2, k_sl3, k_i, o_sx, o_ret, o_if, o_set, o_asg, o_par2, o_par3, o_stS, o_stT, o_for, k_seq, k_rg1, k_rg2, e_rg1, e_rg2, rg1_1, rg2_1, k_lc, k_lt, k_le, k_lc2, k_fnF, e_fnF, run1, e_seq, seq_nx, seq_rt, seq_ct, seq_bk, fin_nx, fin_rt, given_fz, given_ow, given_bw, e_var, e_op, e_un, e_call, e_c, lift1, e_asB, toB1, e_tand, e_tor, e_tnot, e_and, e_or, e_not, e_if, e_chain, chn1, e_nil, e_cons, e_tup, e_lst, e_fn, e_fnS, e_fnK, e_isi, isiR1, outR1, outS1, e_stG, e_sl, b_no, b_so, toI1, e_no, e_sx, e_ret, e_retN, e_sif, put_fz, put_ow, nxO1, e_set, asg_fz, asg_ow, e_asg, g_nm, g_nl, g_cn, obind1, g_tuT, g_tuL, e_par2, e_par3, stO1, e_stS, e_stT, bind1, ofR1, d_fz, d_ow, d_bw, frz_fz, frz_ow, frz_bw, nb_nil, nb_fz, nb_ow, nb_bw, v_add, v_sub, v_neg, v_lt, v_gt, v_le, v_ge, v_is, v_isNot, v_eqS, v_neS, v_eq, v_ne, v_eqB, v_neB, v_ixT, v_ixL, at0, at1, at2, at3, at4, at5, map1, v_lenL, v_lenT, v_abs, v_int, v_intB, v_max2, v_min2, v_max3, v_min3, v_tupL, v_tupT, v_lstL, v_lstT, k_int_none, k_int_bool, k_int_int, k_int_str, k_int_list, k_int_tuple, k_bool_none, k_bool_bool, k_bool_int, k_bool_str, k_bool_list, k_bool_tuple, k_str_none, k_str_bool, k_str_int, k_str_str, k_str_list, k_str_tuple, k_list_none, k_list_bool, k_list_int, k_list_str, k_list_list, k_list_tuple, k_tuple_none, k_tuple_bool, k_tuple_int, k_tuple_str, k_tuple_list, k_tuple_tuple, k_dict_none, k_dict_bool, k_dict_int, k_dict_str, k_dict_list, k_dict_tuple, Int.cast_ofNat_Int, Nat.reduceAdd, Nat.reduceLeDiff, e_lc, e_iseq, seqI_fl, seqI_ft, seqI_ol, seqI_ot, lc_step, lc_nil, lcS1, lcN1, val_fz, val_ow, t_true, wipe0, wipe1, mkL1, noX1, loop_step, loop_nil, loopS1, loop_nx, loop_ct, loop_bk, loop_rt, loop_exc, e_for, v_allD, v_anyD, bools_map, ints_map, bools0, bools1, ints0, ints1, size_eq, decide_true, decide_false, true_or, or_true, eq_self, and_true, true_and, List.all_cons, List.all_nil, List.any_cons, List.any_nil, id_eq, isN, List.map_cons, List.map_nil, List.length_cons, List.length_nil, List.getElem?_cons_zero, List.getElem?_cons_succ, List.set_cons_zero, List.set_cons_succ, decide_eq_true_eq, if_true, Bool.or_true, Bool.true_or, Bool.and_true, Bool.true_and, Bool.false_eq_true, if_false, Bool.not_true, Bool.not_false, Bool.or_false, Bool.false_or, Bool.and_false, Bool.false_and, BEq.rfl, e_sortK, k_sortK, e_lc2, k_lc2c, mkD1, e_dc, k_dc, e_dc0, e_stD, stD1, o_stD1f, o_stD1o, o_stD2, e_slk, lk1, e_elk, lke1, unlO_nx, unlO_bk, unlO_ct, unlO_rt, unl_nil, unl_cons, unl1_no, unl1_fz, unl1_ow, unl1_lk, e_items, items1, e_keysD, keysD1, e_en, k_enL, k_enT, k_enO, e_zp, k_zp, e_fnL, k_fnL, e_fnL0, e_fnC, e_fnC0, callC1, k_C, outC1, v_ixTA, v_ixLA, bind_some, boolsM, all_mapI, any_mapI, allT, e_app, app1, o_appf, o_appo, e_frz, frzo1, frzo2, c1]
      exact ⟨_, _, _, rfl⟩
    · by_cases c2 : 1000000000000000 ≤ z
      · simp only [k_op1, k_op2, k_un, k_call, k_b, k_and, k_or, k_not, k_eand, k_eor, k_enot, k_if, k_c1, k_c2, k_c3, k_cons1, k_cons2, k_tup, k_lst, k_fn, k_fnS, k_fnK, k_isi, k_sl1, k_sl2, k_sl3, k_i, o_sx, o_ret, o_if, o_set, o_asg, o_par2, o_par3, o_stS, o_stT, o_for, k_seq, k_rg1, k_rg2, e_rg1, e_rg2, rg1_1, rg2_1, k_lc, k_lt, k_le, k_lc2, k_fnF, e_fnF, run1, e_seq, seq_nx, seq_rt, seq_ct, seq_bk, fin_nx, fin_rt, given_fz, given_ow, given_bw, e_var, e_op, e_un, e_call, e_c, lift1, e_asB, toB1, e_tand, e_tor, e_tnot, e_and, e_or, e_not, e_if, e_chain, chn1, e_nil, e_cons, e_tup, e_lst, e_fn, e_fnS, e_fnK, e_isi, isiR1, outR1, outS1, e_stG, e_sl, b_no, b_so, toI1, e_no, e_sx, e_ret, e_retN, e_sif, put_fz, put_ow, nxO1, e_set, asg_fz, asg_ow, e_asg, g_nm, g_nl, g_cn, obind1, g_tuT, g_tuL, e_par2, e_par3, stO1, e_stS, e_stT, bind1, ofR1, d_fz, d_ow, d_bw, frz_fz, frz_ow, frz_bw, nb_nil, nb_fz, nb_ow, nb_bw, v_add, v_sub, v_neg, v_lt, v_gt, v_le, v_ge, v_is, v_isNot, v_eqS, v_neS, v_eq, v_ne, v_eqB, v_neB, v_ixT, v_ixL, at0, at1, at2, at3, at4, at5, map1, v_lenL, v_lenT, v_abs, v_int, v_intB, v_max2, v_min2, v_max3, v_min3, v_tupL, v_tupT, v_lstL, v_lstT, k_int_none, k_int_bool, k_int_int, k_int_str, k_int_list, k_int_tuple, k_bool_none, k_bool_bool, k_bool_int, k_bool_str, k_bool_list, k_bool_tuple, k_str_none, k_str_bool, k_str_int, k_str_str, k_str_list, k_str_tuple, k_list_none, k_list_bool, k_list_int, k_list_str, k_list_list, k_list_tuple, k_tuple_none, k_tuple_bool, k_tuple_int, k_tuple_str, k_tuple_list, k_tuple_tuple, k_dict_none, k_dict_bool, k_dict_int, k_dict_str, k_dict_list, k_dict_tuple, Int.cast_ofNat_Int, Nat.reduceAdd, Nat.reduceLeDiff, e_lc, e_iseq, seqI_fl, seqI_ft, seqI_ol, seqI_ot, lc_step, lc_nil, lcS1, lcN1, val_fz, val_ow, t_true, wipe0, wipe1, mkL1, noX1, loop_step, loop_nil, loopS1, loop_nx, loop_ct, loop_bk, loop_rt, loop_exc, e_for, v_allD, v_anyD, bools_map, ints_map, bools0, bools1, ints0, ints1, size_eq, decide_true, decide_false, true_or, or_true, eq_self, and_true, true_and, List.all_cons, List.all_nil, List.any_cons, List.any_nil, id_eq, isN, List.map_cons, List.map_nil, List.length_cons, List.length_nil, List.getElem?_cons_zero, List.getElem?_cons_succ, List.set_cons_zero, List.set_cons_succ, decide_eq_true_eq, if_true, Bool.or_true, Bool.true_or, Bool.and_true, Bool.true_and, Bool.false_eq_true, if_false, Bool.not_true, Bool.not_false, Bool.or_false, Bool.false_or, Bool.and_false, Bool.false_and, BEq.rfl, e_sortK, k_sortK, e_lc2, k_lc2c, mkD1, e_dc, k_dc, e_dc0, e_stD, stD1, o_stD1f, o_stD1o, o_stD2, e_slk, lk1, e_elk, lke1, unlO_nx, unlO_bk, unlO_ct, unlO_rt, unl_nil, unl_cons, unl1_no, unl1_fz, unl1_ow, unl1_lk, e_items, items1, e_keysD, keysD1, e_en, k_enL, k_enT, k_enO, e_zp, k_zp, e_fnL, k_fnL, e_fnL0, e_fnC, e_fnC0, callC1, k_C, outC1, v_ixTA, v_ixLA, bind_some, boolsM, all_mapI, any_mapI, allT, e_app, app1, o_appf, o_appo, e_frz, frzo1, frzo2, c1, c2]
        exact ⟨_, _, _, rfl⟩
      · simp only [k_op1, k_op2, k_un, k_call, k_b, k_and, k_or, k_not, k_eand, k_eor, k_enot, k_if, k_c1, k_c2, k_c3, k_cons1, k_cons2, k_tup, k_lst, k_fn, k_fnS, k_fnK, k_isi, k_sl1, k_sl2, k_sl3, k_i, o_sx, o_ret, o_if, o_set, o_asg, o_par2, o_par3, o_stS, o_stT, o_for, k_seq, k_rg1, k_rg2, e_rg1, e_rg2, rg1_1, rg2_1, k_lc, k_lt, k_le, k_lc2, k_fnF, e_fnF, run1, e_seq, seq_nx, seq_rt, seq_ct, seq_bk, fin_nx, fin_rt, given_fz, given_ow, given_bw, e_var, e_op, e_un, e_call, e_c, lift1, e_asB, toB1, e_tand, e_tor, e_tnot, e_and, e_or, e_not, e_if, e_chain, chn1, e_nil, e_cons, e_tup, e_lst, e_fn, e_fnS, e_fnK, e_isi, isiR1, outR1, outS1, e_stG, e_sl, b_no, b_so, toI1, e_no, e_sx, e_ret, e_retN, e_sif, put_fz, put_ow, nxO1, e_set, asg_fz, asg_ow, e_asg, g_nm, g_nl, g_cn, obind1, g_tuT, g_tuL, e_par2, e_par3, stO1, e_stS, e_stT, bind1, ofR1, d_fz, d_ow, d_bw, frz_fz, frz_ow, frz_bw, nb_nil, nb_fz, nb_ow, nb_bw, v_add, v_sub, v_neg, v_lt, v_gt, v_le, v_ge, v_is, v_isNot, v_eqS, v_neS, v_eq, v_ne, v_eqB, v_neB, v_ixT, v_ixL, at0, at1, at2, at3, at4, at5, map1, v_lenL, v_lenT, v_abs, v_int, v_intB, v_max2, v_min2, v_max3, v_min3, v_tupL, v_tupT, v_lstL, v_lstT, k_int_none, k_int_bool, k_int_int, k_int_str, k_int_list, k_int_tuple, k_bool_none, k_bool_bool, k_bool_int, k_bool_str, k_bool_list, k_bool_tuple, k_str_none, k_str_bool, k_str_int, k_str_str, k_str_list, k_str_tuple, k_list_none, k_list_bool, k_list_int, k_list_str, k_list_list, k_list_tuple, k_tuple_none, k_tuple_bool, k_tuple_int, k_tuple_str, k_tuple_list, k_tuple_tuple, k_dict_none, k_dict_bool, k_dict_int, k_dict_str, k_dict_list, k_dict_tuple, Int.cast_ofNat_Int, Nat.reduceAdd, Nat.reduceLeDiff, e_lc, e_iseq, seqI_fl, seqI_ft, seqI_ol, seqI_ot, lc_step, lc_nil, lcS1, lcN1, val_fz, val_ow, t_true, wipe0, wipe1, mkL1, noX1, loop_step, loop_nil, loopS1, loop_nx, loop_ct, loop_bk, loop_rt, loop_exc, e_for, v_allD, v_anyD, bools_map, ints_map, bools0, bools1, ints0, ints1, size_eq, decide_true, decide_false, true_or, or_true, eq_self, and_true, true_and, List.all_cons, List.all_nil, List.any_cons, List.any_nil, id_eq, isN, List.map_cons, List.map_nil, List.length_cons, List.length_nil, List.getElem?_cons_zero, List.getElem?_cons_succ, List.set_cons_zero, List.set_cons_succ, decide_eq_true_eq, if_true, Bool.or_true, Bool.true_or, Bool.and_true, Bool.true_and, Bool.false_eq_true, if_false, Bool.not_true, Bool.not_false, Bool.or_false, Bool.false_or, Bool.and_false, Bool.false_and, BEq.rfl, e_sortK, k_sortK, e_lc2, k_lc2c, mkD1, e_dc, k_dc, e_dc0, e_stD, stD1, o_stD1f, o_stD1o, o_stD2, e_slk, lk1, e_elk, lke1, unlO_nx, unlO_bk, unlO_ct, unlO_rt, unl_nil, unl_cons, unl1_no, unl1_fz, unl1_ow, unl1_lk, e_items, items1, e_keysD, keysD1, e_en, k_enL, k_enT, k_enO, e_zp, k_zp, e_fnL, k_fnL, e_fnL0, e_fnC, e_fnC0, callC1, k_C, outC1, v_ixTA, v_ixLA, bind_some, boolsM, all_mapI, any_mapI, allT, e_app, app1, o_appf, o_appo, e_frz, frzo1, frzo2, c1, c2]
        exact ⟨_, _, _, rfl⟩
  · simp only [k_op1, k_op2, k_un, k_call, k_b, k_and, k_or, k_not, k_eand, k_eor, k_enot, k_if, k_c1, k_c2, k_c3, k_cons1, k_cons2, k_tup, k_lst, k_fn, k_fnS, k_fnK, k_isi, k_sl1, k_sl2, k_sl3, k_i, o_sx, o_ret, o_if, o_set, o_asg, o_par2, o_par3, o_stS, o_stT, o_for, k_seq, k_rg1, k_rg2, e_rg1, e_rg2, rg1_1, rg2_1, k_lc, k_lt, k_le, k_lc2, k_fnF, e_fnF, run1, e_seq, seq_nx, seq_rt, seq_ct, seq_bk, fin_nx, fin_rt, given_fz, given_ow, given_bw, e_var, e_op, e_un, e_call, e_c, lift1, e_asB, toB1, e_tand, e_tor, e_tnot, e_and, e_or, e_not, e_if, e_chain, chn1, e_nil, e_cons, e_tup, e_lst, e_fn, e_fnS, e_fnK, e_isi, isiR1, outR1, outS1, e_stG, e_sl, b_no, b_so, toI1, e_no, e_sx, e_ret, e_retN, e_sif, put_fz, put_ow, nxO1, e_set, asg_fz, asg_ow, e_asg, g_nm, g_nl, g_cn, obind1, g_tuT, g_tuL, e_par2, e_par3, stO1, e_stS, e_stT, bind1, ofR1, d_fz, d_ow, d_bw, frz_fz, frz_ow, frz_bw, nb_nil, nb_fz, nb_ow, nb_bw, v_add, v_sub, v_neg, v_lt, v_gt, v_le, v_ge, v_is, v_isNot, v_eqS, v_neS, v_eq, v_ne, v_eqB, v_neB, v_ixT, v_ixL, at0, at1, at2, at3, at4, at5, map1, v_lenL, v_lenT, v_abs, v_int, v_intB, v_max2, v_min2, v_max3, v_min3, v_tupL, v_tupT, v_lstL, v_lstT, k_int_none, k_int_bool, k_int_int, k_int_str, k_int_list, k_int_tuple, k_bool_none, k_bool_bool, k_bool_int, k_bool_str, k_bool_list, k_bool_tuple, k_str_none, k_str_bool, k_str_int, k_str_str, k_str_list, k_str_tuple, k_list_none, k_list_bool, k_list_int, k_list_str, k_list_list, k_list_tuple, k_tuple_none, k_tuple_bool, k_tuple_int, k_tuple_str, k_tuple_list, k_tuple_tuple, k_dict_none, k_dict_bool, k_dict_int, k_dict_str, k_dict_list, k_dict_tuple, Int.cast_ofNat_Int, Nat.reduceAdd, Nat.reduceLeDiff, e_lc, e_iseq, seqI_fl, seqI_ft, seqI_ol, seqI_ot, lc_step, lc_nil, lcS1, lcN1, val_fz, val_ow, t_true, wipe0, wipe1, mkL1, noX1, loop_step, loop_nil, loopS1, loop_nx, loop_ct, loop_bk, loop_rt, loop_exc, e_for, v_allD, v_anyD, bools_map, ints_map, bools0, bools1, ints0, ints1, size_eq, decide_true, decide_false, true_or, or_true, eq_self, and_true, true_and, List.all_cons, List.all_nil, List.any_cons, List.any_nil, id_eq, isN, List.map_cons, List.map_nil, List.length_cons, List.length_nil, List.getElem?_cons_zero, List.getElem?_cons_succ, List.set_cons_zero, List.set_cons_succ, decide_eq_true_eq, if_true, Bool.or_true, Bool.true_or, Bool.and_true, Bool.true_and, Bool.false_eq_true, if_false, Bool.not_true, Bool.not_false, Bool.or_false, Bool.false_or, Bool.and_false, Bool.false_and, BEq.rfl, e_sortK, k_sortK, e_lc2, k_lc2c, mkD1, e_dc, k_dc, e_dc0, e_stD, stD1, o_stD1f, o_stD1o, o_stD2, e_slk, lk1, e_elk, lke1, unlO_nx, unlO_bk, unlO_ct, unlO_rt, unl_nil, unl_cons, unl1_no, unl1_fz, unl1_ow, unl1_lk, e_items, items1, e_keysD, keysD1, e_en, k_enL, k_enT, k_enO, e_zp, k_zp, e_fnL, k_fnL, e_fnL0, e_fnC, e_fnC0, callC1, k_C, outC1, v_ixTA, v_ixLA, bind_some, boolsM, all_mapI, any_mapI, allT, e_app, app1, o_appf, o_appo, e_frz, frzo1, frzo2, v_mul, s1, v_slL, hl, e, hlt, s4, s5, v_mod m1, pow15, List.length_map, Int.reduceLT, Int.reduceLE]
    exact ⟨_, _, _, rfl⟩

theorem p_any (ds : List D) (h1 : 0 < ds.length) (h2 : ds.length < 1000) (w : List Int) (hw : W3 w) : ∃ d w', S__law_any [] [.fz (.list ds)] w = .ok (.fz d, w') ∧ d ∈ ds ∧ W3 w' := by
  obtain ⟨x, y, z, rfl⟩ := hw
  rw [u__law_any]
  unfold g__law_any
  obtain ⟨r, w', e, b, hw'⟩ := p_deal x y z ds.length (by omega) (by omega)
  obtain ⟨d, hd, ed⟩ := at_mem (ds := ds) b.1 (by omega)
  simp only [k_op1, k_op2, k_un, k_call, k_b, k_and, k_or, k_not, k_eand, k_eor, k_enot, k_if, k_c1, k_c2, k_c3, k_cons1, k_cons2, k_tup, k_lst, k_fn, k_fnS, k_fnK, k_isi, k_sl1, k_sl2, k_sl3, k_i, o_sx, o_ret, o_if, o_set, o_asg, o_par2, o_par3, o_stS, o_stT, o_for, k_seq, k_rg1, k_rg2, e_rg1, e_rg2, rg1_1, rg2_1, k_lc, k_lt, k_le, k_lc2, k_fnF, e_fnF, run1, e_seq, seq_nx, seq_rt, seq_ct, seq_bk, fin_nx, fin_rt, given_fz, given_ow, given_bw, e_var, e_op, e_un, e_call, e_c, lift1, e_asB, toB1, e_tand, e_tor, e_tnot, e_and, e_or, e_not, e_if, e_chain, chn1, e_nil, e_cons, e_tup, e_lst, e_fn, e_fnS, e_fnK, e_isi, isiR1, outR1, outS1, e_stG, e_sl, b_no, b_so, toI1, e_no, e_sx, e_ret, e_retN, e_sif, put_fz, put_ow, nxO1, e_set, asg_fz, asg_ow, e_asg, g_nm, g_nl, g_cn, obind1, g_tuT, g_tuL, e_par2, e_par3, stO1, e_stS, e_stT, bind1, ofR1, d_fz, d_ow, d_bw, frz_fz, frz_ow, frz_bw, nb_nil, nb_fz, nb_ow, nb_bw, v_add, v_sub, v_neg, v_lt, v_gt, v_le, v_ge, v_is, v_isNot, v_eqS, v_neS, v_eq, v_ne, v_eqB, v_neB, v_ixT, v_ixL, at0, at1, at2, at3, at4, at5, map1, v_lenL, v_lenT, v_abs, v_int, v_intB, v_max2, v_min2, v_max3, v_min3, v_tupL, v_tupT, v_lstL, v_lstT, k_int_none, k_int_bool, k_int_int, k_int_str, k_int_list, k_int_tuple, k_bool_none, k_bool_bool, k_bool_int, k_bool_str, k_bool_list, k_bool_tuple, k_str_none, k_str_bool, k_str_int, k_str_str, k_str_list, k_str_tuple, k_list_none, k_list_bool, k_list_int, k_list_str, k_list_list, k_list_tuple, k_tuple_none, k_tuple_bool, k_tuple_int, k_tuple_str, k_tuple_list, k_tuple_tuple, k_dict_none, k_dict_bool, k_dict_int, k_dict_str, k_dict_list, k_dict_tuple, Int.cast_ofNat_Int, Nat.reduceAdd, Nat.reduceLeDiff, e_lc, e_iseq, seqI_fl, seqI_ft, seqI_ol, seqI_ot, lcS1, lcN1, val_fz, val_ow, t_true, wipe0, wipe1, mkL1, noX1, loopS1, loop_nx, loop_ct, loop_bk, loop_rt, loop_exc, e_for, v_allD, v_anyD, bools_map, ints_map, bools0, bools1, ints0, ints1, size_eq, decide_true, decide_false, true_or, or_true, eq_self, and_true, true_and, List.all_cons, List.all_nil, List.any_cons, List.any_nil, id_eq, isN, List.map_cons, List.map_nil, List.length_cons, List.length_nil, List.getElem?_cons_zero, List.getElem?_cons_succ, List.set_cons_zero, List.set_cons_succ, decide_eq_true_eq, if_true, Bool.or_true, Bool.true_or, Bool.and_true, Bool.true_and, Bool.false_eq_true, if_false, Bool.not_true, Bool.not_false, Bool.or_false, Bool.false_or, Bool.and_false, Bool.false_and, BEq.rfl, e_sortK, k_sortK, e_lc2, k_lc2c, mkD1, e_dc, k_dc, e_dc0, e_stD, stD1, o_stD1f, o_stD1o, o_stD2, e_slk, lk1, e_elk, lke1, unlO_nx, unlO_bk, unlO_ct, unlO_rt, unl_nil, unl_cons, unl1_no, unl1_fz, unl1_ow, unl1_lk, e_items, items1, e_keysD, keysD1, e_en, k_enL, k_enT, k_enO, e_zp, k_zp, e_fnL, k_fnL, e_fnL0, e_fnC, e_fnC0, callC1, k_C, outC1, v_ixTA, v_ixLA, bind_some, boolsM, all_mapI, any_mapI, allT, e_app, app1, o_appf, o_appo, e_frz, frzo1, frzo2, e, ed]
  exact ⟨d, w', rfl, hd, hw'⟩
abbrev gCut : Sx := sIf (asB (eOp fGt (eOp fMul (eVar 4) (eVar 5)) (eVar 3))) (sPar2 4 5 (aCons (eCall fMax (aCons (eC (.int 1)) (aCons (eOp fSub (eVar 4) (eC (.int 1))) (aNil)))) (aCons (eCall fMax (aCons (eC (.int 1)) (aCons (eOp fSub (eVar 5) (eC (.int 1))) (aNil)))) (aNil)))) (sNo)
theorem p_row (ρ0 : DEnv) (hρ : ∃ e1 e2 e3 e4 e5 e6 e8 e9 most, ρ0 = [none, e1, e2, e3, e4, e5, e6, some (.fz (.int most)), e8, e9, none] ∧ 0 < most ∧ most < 1000) (k : Nat) (w : List Int) (hw : W3 w) :
    ∃ r : List Int, ∃ w', lcL (gNm 10) (tTrue) (eCall fMin (aCons (eC (.int 5)) (aCons (eFnS 2 S__law_deal (aCons (eVar 7) (aNil))) (aNil)))) ((rngI 0 k).map PyData.int) ρ0 w = .ok (r.map PyData.int, w') ∧ r.length = k ∧ (∀ x ∈ r, 0 ≤ x ∧ x ≤ 5) ∧ W3 w' := by
  obtain ⟨e1, e2, e3, e4, e5, e6, e8, e9, most, rfl, m0, m1⟩ := hρ
  obtain ⟨zs, w', e, hl, hz, hw'⟩ := lc_draw (b := gNm 10) (e := eCall fMin (aCons (eC (.int 5)) (aCons (eFnS 2 S__law_deal (aCons (eVar 7) (aNil))) (aNil)))) (P := W3) (R := N5) (ds := (rngI 0 k).map PyData.int) (ρ := [none, e1, e2, e3, e4, e5, e6, some (.fz (.int most)), e8, e9, none]) (w := w) (by
    rintro d hd w ⟨x, y, z, rfl⟩
    obtain ⟨r, w', e, b, hw'⟩ := p_deal x y z most m0 m1
    refine ⟨_, .fz (.int (if r < 5 then r else 5)), w', .int (if r < 5 then r else 5), rfl, ?_, rfl, ⟨_, rfl, by split <;> omega, by split <;> omega⟩, hw'⟩
    simp only [k_op1, k_op2, k_un, k_call, k_b, k_and, k_or, k_not, k_eand, k_eor, k_enot, k_if, k_c1, k_c2, k_c3, k_cons1, k_cons2, k_tup, k_lst, k_fn, k_fnS, k_fnK, k_isi, k_sl1, k_sl2, k_sl3, k_i, o_sx, o_ret, o_if, o_set, o_asg, o_par2, o_par3, o_stS, o_stT, o_for, k_seq, k_rg1, k_rg2, e_rg1, e_rg2, rg1_1, rg2_1, k_lc, k_lt, k_le, k_lc2, k_fnF, e_fnF, run1, e_seq, seq_nx, seq_rt, seq_ct, seq_bk, fin_nx, fin_rt, given_fz, given_ow, given_bw, e_var, e_op, e_un, e_call, e_c, lift1, e_asB, toB1, e_tand, e_tor, e_tnot, e_and, e_or, e_not, e_if, e_chain, chn1, e_nil, e_cons, e_tup, e_lst, e_fn, e_fnS, e_fnK, e_isi, isiR1, outR1, outS1, e_stG, e_sl, b_no, b_so, toI1, e_no, e_sx, e_ret, e_retN, e_sif, put_fz, put_ow, nxO1, e_set, asg_fz, asg_ow, e_asg, g_nm, g_nl, g_cn, obind1, g_tuT, g_tuL, e_par2, e_par3, stO1, e_stS, e_stT, bind1, ofR1, d_fz, d_ow, d_bw, frz_fz, frz_ow, frz_bw, nb_nil, nb_fz, nb_ow, nb_bw, v_add, v_sub, v_neg, v_lt, v_gt, v_le, v_ge, v_is, v_isNot, v_eqS, v_neS, v_eq, v_ne, v_eqB, v_neB, v_ixT, v_ixL, at0, at1, at2, at3, at4, at5, map1, v_lenL, v_lenT, v_abs, v_int, v_intB, v_max2, v_min2, v_max3, v_min3, v_tupL, v_tupT, v_lstL, v_lstT, k_int_none, k_int_bool, k_int_int, k_int_str, k_int_list, k_int_tuple, k_bool_none, k_bool_bool, k_bool_int, k_bool_str, k_bool_list, k_bool_tuple, k_str_none, k_str_bool, k_str_int, k_str_str, k_str_list, k_str_tuple, k_list_none, k_list_bool, k_list_int, k_list_str, k_list_list, k_list_tuple, k_tuple_none, k_tuple_bool, k_tuple_int, k_tuple_str, k_tuple_list, k_tuple_tuple, k_dict_none, k_dict_bool, k_dict_int, k_dict_str, k_dict_list, k_dict_tuple, Int.cast_ofNat_Int, Nat.reduceAdd, Nat.reduceLeDiff, e_lc, e_iseq, seqI_fl, seqI_ft, seqI_ol, seqI_ot, lcS1, lcN1, val_fz, val_ow, t_true, wipe0, wipe1, mkL1, noX1, loopS1, loop_nx, loop_ct, loop_bk, loop_rt, loop_exc, e_for, v_allD, v_anyD, bools_map, ints_map, bools0, bools1, ints0, ints1, size_eq, decide_true, decide_false, true_or, or_true, eq_self, and_true, true_and, List.all_cons, List.all_nil, List.any_cons, List.any_nil, id_eq, isN, List.map_cons, List.map_nil, List.length_cons, List.length_nil, List.getElem?_cons_zero, List.getElem?_cons_succ, List.set_cons_zero, List.set_cons_succ, decide_eq_true_eq, if_true, Bool.or_true, Bool.true_or, Bool.and_true, Bool.true_and, Bool.false_eq_true, if_false, Bool.not_true, Bool.not_false, Bool.or_false, Bool.false_or, Bool.and_false, Bool.false_and, BEq.rfl, e_sortK, k_sortK, e_lc2, k_lc2c, mkD1, e_dc, k_dc, e_dc0, e_stD, stD1, o_stD1f, o_stD1o, o_stD2, e_slk, lk1, e_elk, lke1, unlO_nx, unlO_bk, unlO_ct, unlO_rt, unl_nil, unl_cons, unl1_no, unl1_fz, unl1_ow, unl1_lk, e_items, items1, e_keysD, keysD1, e_en, k_enL, k_enT, k_enO, e_zp, k_zp, e_fnL, k_fnL, e_fnL0, e_fnC, e_fnC0, callC1, k_C, outC1, v_ixTA, v_ixLA, bind_some, boolsM, all_mapI, any_mapI, allT, e_app, app1, o_appf, o_appo, e_frz, frzo1, frzo2, e]) hw
  obtain ⟨r, rfl, hr⟩ := row_of hz
  exact ⟨r, w', e, by rw [List.length_map, List.length_map, rngI_len] at hl; exact hl, hr, hw'⟩
abbrev gRow : Sx := sApp 8 (eCall fTuple (aCons (eLc [10] (iRg1 (aCons (eVar 5) (aNil))) (gNm 10) (tTrue) (eCall fMin (aCons (eC (.int 5)) (aCons (eFnS 2 S__law_deal (aCons (eVar 7) (aNil))) (aNil))))) (aNil)))
theorem p_floor (hi wi many : Int) (h1 : 1 ≤ hi ∧ hi ≤ 6) (h2 : 1 ≤ wi ∧ wi ≤ 6) (h3 : hi * wi ≤ 24) (w : List Int) (hw : W3 w) : ∃ (F : List (List Int)) (n m : Nat) (w' : List Int), S__law_floor [] [.fz (.int hi), .fz (.int wi), .fz (.int many)] w = .ok (.fz (flD F), w') ∧ Fl F n m ∧ (n : Int) ≤ hi ∧ (m : Int) ≤ wi ∧ W3 w' := by
  obtain ⟨x, y, z, rfl⟩ := hw
  rw [u__law_floor]
  unfold g__law_floor
  obtain ⟨r1, w1, q1, b1, x, y, z, rfl⟩ := p_deal x y z hi (by omega) (by omega)
  obtain ⟨r2, w2, q2, b2, hw2⟩ := p_deal x y z wi (by omega) (by omega)
  obtain ⟨ρ3, w3, e3, ⟨n, m, x6, rfl, bn, bm⟩, rfl⟩ := loop_all (b := gNm 6) (g := gCut) (P := fun ρ w' => (∃ (n m : Nat) (x6 : Option EV), ρ = [none, some (.fz (.int hi)), some (.fz (.int wi)), some (.fz (.int many)), some (.fz (.int n)), some (.fz (.int m)), x6, none, none, none, none] ∧ (1 ≤ n ∧ (n : Int) ≤ hi) ∧ (1 ≤ m ∧ (m : Int) ≤ wi)) ∧ w' = w2) (ds := rngD 0 6)
    (ρ := [none, some (.fz (.int hi)), some (.fz (.int wi)), some (.fz (.int many)), some (.fz (.int (1 + r1))), some (.fz (.int (1 + r2))), none, none, none, none, none]) (w := w2) (by
      rintro d hd ρ w' ⟨⟨n, m, x6, rfl, bn, bm⟩, rfl⟩
      have vm : fMul (.int n) (.int m) = some (.fz (.int (n * m))) := v_mul (.inl (small_nat (by omega)))
      refine ⟨[none, some (.fz (.int hi)), some (.fz (.int wi)), some (.fz (.int many)), some (.fz (.int n)), some (.fz (.int m)), some (.fz d), none, none, none, none], ?_⟩
      by_cases c : many < (n : Int) * m
      · have g1 : (if (n : Int) - 1 > 1 then (n : Int) - 1 else 1) = ((max 1 (n - 1) : Nat) : Int) := by split <;> omega
        have g2 : (if (m : Int) - 1 > 1 then (m : Int) - 1 else 1) = ((max 1 (m - 1) : Nat) : Int) := by split <;> omega
        refine ⟨_, _, rfl, ?_, ⟨⟨max 1 (n - 1), max 1 (m - 1), some (.fz d), rfl, ⟨by omega, by omega⟩, ⟨by omega, by omega⟩⟩, rfl⟩⟩
        simp only [k_op1, k_op2, k_un, k_call, k_b, k_and, k_or, k_not, k_eand, k_eor, k_enot, k_if, k_c1, k_c2, k_c3, k_cons1, k_cons2, k_tup, k_lst, k_fn, k_fnS, k_fnK, k_isi, k_sl1, k_sl2, k_sl3, k_i, o_sx, o_ret, o_if, o_set, o_asg, o_par2, o_par3, o_stS, o_stT, o_for, k_seq, k_rg1, k_rg2, e_rg1, e_rg2, rg1_1, rg2_1, k_lc, k_lt, k_le, k_lc2, k_fnF, e_fnF, run1, e_seq, seq_nx, seq_rt, seq_ct, seq_bk, fin_nx, fin_rt, given_fz, given_ow, given_bw, e_var, e_op, e_un, e_call, e_c, lift1, e_asB, toB1, e_tand, e_tor, e_tnot, e_and, e_or, e_not, e_if, e_chain, chn1, e_nil, e_cons, e_tup, e_lst, e_fn, e_fnS, e_fnK, e_isi, isiR1, outR1, outS1, e_stG, e_sl, b_no, b_so, toI1, e_no, e_sx, e_ret, e_retN, e_sif, put_fz, put_ow, nxO1, e_set, asg_fz, asg_ow, e_asg, g_nm, g_nl, g_cn, obind1, g_tuT, g_tuL, e_par2, e_par3, stO1, e_stS, e_stT, bind1, ofR1, d_fz, d_ow, d_bw, frz_fz, frz_ow, frz_bw, nb_nil, nb_fz, nb_ow, nb_bw, v_add, v_sub, v_neg, v_lt, v_gt, v_le, v_ge, v_is, v_isNot, v_eqS, v_neS, v_eq, v_ne, v_eqB, v_neB, v_ixT, v_ixL, at0, at1, at2, at3, at4, at5, map1, v_lenL, v_lenT, v_abs, v_int, v_intB, v_max2, v_min2, v_max3, v_min3, v_tupL, v_tupT, v_lstL, v_lstT, k_int_none, k_int_bool, k_int_int, k_int_str, k_int_list, k_int_tuple, k_bool_none, k_bool_bool, k_bool_int, k_bool_str, k_bool_list, k_bool_tuple, k_str_none, k_str_bool, k_str_int, k_str_str, k_str_list, k_str_tuple, k_list_none, k_list_bool, k_list_int, k_list_str, k_list_list, k_list_tuple, k_tuple_none, k_tuple_bool, k_tuple_int, k_tuple_str, k_tuple_list, k_tuple_tuple, k_dict_none, k_dict_bool, k_dict_int, k_dict_str, k_dict_list, k_dict_tuple, Int.cast_ofNat_Int, Nat.reduceAdd, Nat.reduceLeDiff, e_lc, e_iseq, seqI_fl, seqI_ft, seqI_ol, seqI_ot, lcS1, lcN1, val_fz, val_ow, t_true, wipe0, wipe1, mkL1, noX1, loopS1, loop_nx, loop_ct, loop_bk, loop_rt, loop_exc, e_for, v_allD, v_anyD, bools_map, ints_map, bools0, bools1, ints0, ints1, size_eq, decide_true, decide_false, true_or, or_true, eq_self, and_true, true_and, List.all_cons, List.all_nil, List.any_cons, List.any_nil, id_eq, isN, List.map_cons, List.map_nil, List.length_cons, List.length_nil, List.getElem?_cons_zero, List.getElem?_cons_succ, List.set_cons_zero, List.set_cons_succ, decide_eq_true_eq, if_true, Bool.or_true, Bool.true_or, Bool.and_true, Bool.true_and, Bool.false_eq_true, if_false, Bool.not_true, Bool.not_false, Bool.or_false, Bool.false_or, Bool.and_false, Bool.false_and, BEq.rfl, e_sortK, k_sortK, e_lc2, k_lc2c, mkD1, e_dc, k_dc, e_dc0, e_stD, stD1, o_stD1f, o_stD1o, o_stD2, e_slk, lk1, e_elk, lke1, unlO_nx, unlO_bk, unlO_ct, unlO_rt, unl_nil, unl_cons, unl1_no, unl1_fz, unl1_ow, unl1_lk, e_items, items1, e_keysD, keysD1, e_en, k_enL, k_enT, k_enO, e_zp, k_zp, e_fnL, k_fnL, e_fnL0, e_fnC, e_fnC0, callC1, k_C, outC1, v_ixTA, v_ixLA, bind_some, boolsM, all_mapI, any_mapI, allT, e_app, app1, o_appf, o_appo, e_frz, frzo1, frzo2, vm, c]
        rw [← g1, ← g2]
      · refine ⟨_, _, rfl, ?_, ⟨⟨n, m, some (.fz d), rfl, bn, bm⟩, rfl⟩⟩
        simp only [k_op1, k_op2, k_un, k_call, k_b, k_and, k_or, k_not, k_eand, k_eor, k_enot, k_if, k_c1, k_c2, k_c3, k_cons1, k_cons2, k_tup, k_lst, k_fn, k_fnS, k_fnK, k_isi, k_sl1, k_sl2, k_sl3, k_i, o_sx, o_ret, o_if, o_set, o_asg, o_par2, o_par3, o_stS, o_stT, o_for, k_seq, k_rg1, k_rg2, e_rg1, e_rg2, rg1_1, rg2_1, k_lc, k_lt, k_le, k_lc2, k_fnF, e_fnF, run1, e_seq, seq_nx, seq_rt, seq_ct, seq_bk, fin_nx, fin_rt, given_fz, given_ow, given_bw, e_var, e_op, e_un, e_call, e_c, lift1, e_asB, toB1, e_tand, e_tor, e_tnot, e_and, e_or, e_not, e_if, e_chain, chn1, e_nil, e_cons, e_tup, e_lst, e_fn, e_fnS, e_fnK, e_isi, isiR1, outR1, outS1, e_stG, e_sl, b_no, b_so, toI1, e_no, e_sx, e_ret, e_retN, e_sif, put_fz, put_ow, nxO1, e_set, asg_fz, asg_ow, e_asg, g_nm, g_nl, g_cn, obind1, g_tuT, g_tuL, e_par2, e_par3, stO1, e_stS, e_stT, bind1, ofR1, d_fz, d_ow, d_bw, frz_fz, frz_ow, frz_bw, nb_nil, nb_fz, nb_ow, nb_bw, v_add, v_sub, v_neg, v_lt, v_gt, v_le, v_ge, v_is, v_isNot, v_eqS, v_neS, v_eq, v_ne, v_eqB, v_neB, v_ixT, v_ixL, at0, at1, at2, at3, at4, at5, map1, v_lenL, v_lenT, v_abs, v_int, v_intB, v_max2, v_min2, v_max3, v_min3, v_tupL, v_tupT, v_lstL, v_lstT, k_int_none, k_int_bool, k_int_int, k_int_str, k_int_list, k_int_tuple, k_bool_none, k_bool_bool, k_bool_int, k_bool_str, k_bool_list, k_bool_tuple, k_str_none, k_str_bool, k_str_int, k_str_str, k_str_list, k_str_tuple, k_list_none, k_list_bool, k_list_int, k_list_str, k_list_list, k_list_tuple, k_tuple_none, k_tuple_bool, k_tuple_int, k_tuple_str, k_tuple_list, k_tuple_tuple, k_dict_none, k_dict_bool, k_dict_int, k_dict_str, k_dict_list, k_dict_tuple, Int.cast_ofNat_Int, Nat.reduceAdd, Nat.reduceLeDiff, e_lc, e_iseq, seqI_fl, seqI_ft, seqI_ol, seqI_ot, lcS1, lcN1, val_fz, val_ow, t_true, wipe0, wipe1, mkL1, noX1, loopS1, loop_nx, loop_ct, loop_bk, loop_rt, loop_exc, e_for, v_allD, v_anyD, bools_map, ints_map, bools0, bools1, ints0, ints1, size_eq, decide_true, decide_false, true_or, or_true, eq_self, and_true, true_and, List.all_cons, List.all_nil, List.any_cons, List.any_nil, id_eq, isN, List.map_cons, List.map_nil, List.length_cons, List.length_nil, List.getElem?_cons_zero, List.getElem?_cons_succ, List.set_cons_zero, List.set_cons_succ, decide_eq_true_eq, if_true, Bool.or_true, Bool.true_or, Bool.and_true, Bool.true_and, Bool.false_eq_true, if_false, Bool.not_true, Bool.not_false, Bool.or_false, Bool.false_or, Bool.and_false, Bool.false_and, BEq.rfl, e_sortK, k_sortK, e_lc2, k_lc2c, mkD1, e_dc, k_dc, e_dc0, e_stD, stD1, o_stD1f, o_stD1o, o_stD2, e_slk, lk1, e_elk, lke1, unlO_nx, unlO_bk, unlO_ct, unlO_rt, unl_nil, unl_cons, unl1_no, unl1_fz, unl1_ow, unl1_lk, e_items, items1, e_keysD, keysD1, e_en, k_enL, k_enT, k_enO, e_zp, k_zp, e_fnL, k_fnL, e_fnL0, e_fnC, e_fnC0, callC1, k_C, outC1, v_ixTA, v_ixLA, bind_some, boolsM, all_mapI, any_mapI, allT, e_app, app1, o_appf, o_appo, e_frz, frzo1, frzo2, vm, c])
    ⟨⟨(1 + r1).toNat, (1 + r2).toNat, none, by rw [show (((1 + r1).toNat : Nat) : Int) = 1 + r1 by omega, show (((1 + r2).toNat : Nat) : Int) = 1 + r2 by omega], ⟨by omega, by omega⟩, ⟨by omega, by omega⟩⟩, rfl⟩
  obtain ⟨d4, w4, q4, hd4, hw4⟩ := p_any [.int 2, .int 3, .int 4, .int 6] (by decide) (by decide) w3 hw2
  obtain ⟨most, rfl, hm⟩ : ∃ t : Int, d4 = .int t ∧ (0 < t ∧ t < 1000) := by
    simp only [List.mem_cons, List.not_mem_nil, or_false] at hd4
    rcases hd4 with rfl | rfl | rfl | rfl <;> exact ⟨_, rfl, by omega, by omega⟩
  have rm : rngOk (m : Int) = true := rng_nat (by omega)
  have rn : rngOk (n : Int) = true := rng_nat (by omega)
  have r6 : rngOk 6 = true := by decide
  obtain ⟨ρ5, w5, e5, F, x9, rfl, fl, fr, fv, hw5⟩ := loop_idx (b := gNm 9) (g := gRow) (P := fun k ρ w' => ∃ (F : List (List Int)) (x9 : Option EV), ρ = [none, some (.fz (.int hi)), some (.fz (.int wi)), some (.fz (.int many)), some (.fz (.int n)), some (.fz (.int m)), x6, some (.fz (.int most)), some (.ow (.list (F.map rowD))), x9, none] ∧ F.length = k ∧ (∀ r ∈ F, r.length = m) ∧ (∀ r ∈ F, ∀ x ∈ r, 0 ≤ x ∧ x ≤ 5) ∧ W3 w') 6 (ds := (rngI 0 n).map PyData.int) (k := 0)
    (ρ := [none, some (.fz (.int hi)), some (.fz (.int wi)), some (.fz (.int many)), some (.fz (.int n)), some (.fz (.int m)), x6, some (.fz (.int most)), some (.ow (.list [])), none, none]) (w := w4) (by rw [List.length_map, rngI_len]; omega) (by
      rintro d hd k hk ρ w' ⟨F, x9, rfl, fl, fr, fv, hw'⟩
      obtain ⟨r, w6, e6, rl, rv, hw6⟩ := p_row [none, some (.fz (.int hi)), some (.fz (.int wi)), some (.fz (.int many)), some (.fz (.int n)), some (.fz (.int m)), x6, some (.fz (.int most)), some (.ow (.list (F.map rowD))), some (.fz d), none] ⟨_, _, _, _, _, _, _, _, _, rfl, hm⟩ m w' hw'
      have c1 : r.length ≤ 16777216 := by omega
      have c2 : F.length < 16777216 := by omega
      refine ⟨_, _, w6, rfl, ?_, F ++ [r], some (.fz d), rfl, by rw [List.length_append, List.length_singleton, fl], ?_, ?_, hw6⟩
      · simp only [k_op1, k_op2, k_un, k_call, k_b, k_and, k_or, k_not, k_eand, k_eor, k_enot, k_if, k_c1, k_c2, k_c3, k_cons1, k_cons2, k_tup, k_lst, k_fn, k_fnS, k_fnK, k_isi, k_sl1, k_sl2, k_sl3, k_i, o_sx, o_ret, o_if, o_set, o_asg, o_par2, o_par3, o_stS, o_stT, o_for, k_seq, k_rg1, k_rg2, e_rg1, e_rg2, rg1_1, rg2_1, k_lc, k_lt, k_le, k_lc2, k_fnF, e_fnF, run1, e_seq, seq_nx, seq_rt, seq_ct, seq_bk, fin_nx, fin_rt, given_fz, given_ow, given_bw, e_var, e_op, e_un, e_call, e_c, lift1, e_asB, toB1, e_tand, e_tor, e_tnot, e_and, e_or, e_not, e_if, e_chain, chn1, e_nil, e_cons, e_tup, e_lst, e_fn, e_fnS, e_fnK, e_isi, isiR1, outR1, outS1, e_stG, e_sl, b_no, b_so, toI1, e_no, e_sx, e_ret, e_retN, e_sif, put_fz, put_ow, nxO1, e_set, asg_fz, asg_ow, e_asg, g_nm, g_nl, g_cn, obind1, g_tuT, g_tuL, e_par2, e_par3, stO1, e_stS, e_stT, bind1, ofR1, d_fz, d_ow, d_bw, frz_fz, frz_ow, frz_bw, nb_nil, nb_fz, nb_ow, nb_bw, v_add, v_sub, v_neg, v_lt, v_gt, v_le, v_ge, v_is, v_isNot, v_eqS, v_neS, v_eq, v_ne, v_eqB, v_neB, v_ixT, v_ixL, at0, at1, at2, at3, at4, at5, map1, v_lenL, v_lenT, v_abs, v_int, v_intB, v_max2, v_min2, v_max3, v_min3, v_tupL, v_tupT, v_lstL, v_lstT, k_int_none, k_int_bool, k_int_int, k_int_str, k_int_list, k_int_tuple, k_bool_none, k_bool_bool, k_bool_int, k_bool_str, k_bool_list, k_bool_tuple, k_str_none, k_str_bool, k_str_int, k_str_str, k_str_list, k_str_tuple, k_list_none, k_list_bool, k_list_int, k_list_str, k_list_list, k_list_tuple, k_tuple_none, k_tuple_bool, k_tuple_int, k_tuple_str, k_tuple_list, k_tuple_tuple, k_dict_none, k_dict_bool, k_dict_int, k_dict_str, k_dict_list, k_dict_tuple, Int.cast_ofNat_Int, Nat.reduceAdd, Nat.reduceLeDiff, e_lc, e_iseq, seqI_fl, seqI_ft, seqI_ol, seqI_ot, lcS1, lcN1, val_fz, val_ow, t_true, wipe0, wipe1, mkL1, noX1, loopS1, loop_nx, loop_ct, loop_bk, loop_rt, loop_exc, e_for, v_allD, v_anyD, bools_map, ints_map, bools0, bools1, ints0, ints1, size_eq, decide_true, decide_false, true_or, or_true, eq_self, and_true, true_and, List.all_cons, List.all_nil, List.any_cons, List.any_nil, id_eq, isN, List.map_cons, List.map_nil, List.length_cons, List.length_nil, List.getElem?_cons_zero, List.getElem?_cons_succ, List.set_cons_zero, List.set_cons_succ, decide_eq_true_eq, if_true, Bool.or_true, Bool.true_or, Bool.and_true, Bool.true_and, Bool.false_eq_true, if_false, Bool.not_true, Bool.not_false, Bool.or_false, Bool.false_or, Bool.and_false, Bool.false_and, BEq.rfl, e_sortK, k_sortK, e_lc2, k_lc2c, mkD1, e_dc, k_dc, e_dc0, e_stD, stD1, o_stD1f, o_stD1o, o_stD2, e_slk, lk1, e_elk, lke1, unlO_nx, unlO_bk, unlO_ct, unlO_rt, unl_nil, unl_cons, unl1_no, unl1_fz, unl1_ow, unl1_lk, e_items, items1, e_keysD, keysD1, e_en, k_enL, k_enT, k_enO, e_zp, k_zp, e_fnL, k_fnL, e_fnL0, e_fnC, e_fnC0, callC1, k_C, outC1, v_ixTA, v_ixLA, bind_some, boolsM, all_mapI, any_mapI, allT, e_app, app1, o_appf, o_appo, e_frz, frzo1, frzo2, rm, toNat_nat, rngD_map, e6, List.length_map, c1, c2]
        rw [List.map_append]
        rfl
      · intro r' hr'
        rcases List.mem_append.mp hr' with h | h
        · exact fr r' h
        · rw [List.mem_singleton.mp h]; exact rl
      · intro r' hr'
        rcases List.mem_append.mp hr' with h | h
        · exact fv r' h
        · rw [List.mem_singleton.mp h]; exact rv) ⟨[], none, rfl, rfl, by simp, by simp, hw4⟩
  rw [List.length_map, rngI_len, Nat.zero_add] at fl
  refine ⟨F, n, m, w5, ?_, ⟨fl, fr, by omega, by omega, by omega, by omega, ?_, fv⟩, bn.2, bm.2, hw5⟩
  · simp only [k_op1, k_op2, k_un, k_call, k_b, k_and, k_or, k_not, k_eand, k_eor, k_enot, k_if, k_c1, k_c2, k_c3, k_cons1, k_cons2, k_tup, k_lst, k_fn, k_fnS, k_fnK, k_isi, k_sl1, k_sl2, k_sl3, k_i, o_sx, o_ret, o_if, o_set, o_asg, o_par2, o_par3, o_stS, o_stT, o_for, k_seq, k_rg1, k_rg2, e_rg1, e_rg2, rg1_1, rg2_1, k_lc, k_lt, k_le, k_lc2, k_fnF, e_fnF, run1, e_seq, seq_nx, seq_rt, seq_ct, seq_bk, fin_nx, fin_rt, given_fz, given_ow, given_bw, e_var, e_op, e_un, e_call, e_c, lift1, e_asB, toB1, e_tand, e_tor, e_tnot, e_and, e_or, e_not, e_if, e_chain, chn1, e_nil, e_cons, e_tup, e_lst, e_fn, e_fnS, e_fnK, e_isi, isiR1, outR1, outS1, e_stG, e_sl, b_no, b_so, toI1, e_no, e_sx, e_ret, e_retN, e_sif, put_fz, put_ow, nxO1, e_set, asg_fz, asg_ow, e_asg, g_nm, g_nl, g_cn, obind1, g_tuT, g_tuL, e_par2, e_par3, stO1, e_stS, e_stT, bind1, ofR1, d_fz, d_ow, d_bw, frz_fz, frz_ow, frz_bw, nb_nil, nb_fz, nb_ow, nb_bw, v_add, v_sub, v_neg, v_lt, v_gt, v_le, v_ge, v_is, v_isNot, v_eqS, v_neS, v_eq, v_ne, v_eqB, v_neB, v_ixT, v_ixL, at0, at1, at2, at3, at4, at5, map1, v_lenL, v_lenT, v_abs, v_int, v_intB, v_max2, v_min2, v_max3, v_min3, v_tupL, v_tupT, v_lstL, v_lstT, k_int_none, k_int_bool, k_int_int, k_int_str, k_int_list, k_int_tuple, k_bool_none, k_bool_bool, k_bool_int, k_bool_str, k_bool_list, k_bool_tuple, k_str_none, k_str_bool, k_str_int, k_str_str, k_str_list, k_str_tuple, k_list_none, k_list_bool, k_list_int, k_list_str, k_list_list, k_list_tuple, k_tuple_none, k_tuple_bool, k_tuple_int, k_tuple_str, k_tuple_list, k_tuple_tuple, k_dict_none, k_dict_bool, k_dict_int, k_dict_str, k_dict_list, k_dict_tuple, Int.cast_ofNat_Int, Nat.reduceAdd, Nat.reduceLeDiff, e_lc, e_iseq, seqI_fl, seqI_ft, seqI_ol, seqI_ot, lcS1, lcN1, val_fz, val_ow, t_true, wipe0, wipe1, mkL1, noX1, loopS1, loop_nx, loop_ct, loop_bk, loop_rt, loop_exc, e_for, v_allD, v_anyD, bools_map, ints_map, bools0, bools1, ints0, ints1, size_eq, decide_true, decide_false, true_or, or_true, eq_self, and_true, true_and, List.all_cons, List.all_nil, List.any_cons, List.any_nil, id_eq, isN, List.map_cons, List.map_nil, List.length_cons, List.length_nil, List.getElem?_cons_zero, List.getElem?_cons_succ, List.set_cons_zero, List.set_cons_succ, decide_eq_true_eq, if_true, Bool.or_true, Bool.true_or, Bool.and_true, Bool.true_and, Bool.false_eq_true, if_false, Bool.not_true, Bool.not_false, Bool.or_false, Bool.false_or, Bool.and_false, Bool.false_and, BEq.rfl, e_sortK, k_sortK, e_lc2, k_lc2c, mkD1, e_dc, k_dc, e_dc0, e_stD, stD1, o_stD1f, o_stD1o, o_stD2, e_slk, lk1, e_elk, lke1, unlO_nx, unlO_bk, unlO_ct, unlO_rt, unl_nil, unl_cons, unl1_no, unl1_fz, unl1_ow, unl1_lk, e_items, items1, e_keysD, keysD1, e_en, k_enL, k_enT, k_enO, e_zp, k_zp, e_fnL, k_fnL, e_fnL0, e_fnC, e_fnC0, callC1, k_C, outC1, v_ixTA, v_ixLA, bind_some, boolsM, all_mapI, any_mapI, allT, e_app, app1, o_appf, o_appo, e_frz, frzo1, frzo2, q1, q2, r6]
    rw [show (6 : Int).toNat = 6 from rfl, e3]
    simp only [k_op1, k_op2, k_un, k_call, k_b, k_and, k_or, k_not, k_eand, k_eor, k_enot, k_if, k_c1, k_c2, k_c3, k_cons1, k_cons2, k_tup, k_lst, k_fn, k_fnS, k_fnK, k_isi, k_sl1, k_sl2, k_sl3, k_i, o_sx, o_ret, o_if, o_set, o_asg, o_par2, o_par3, o_stS, o_stT, o_for, k_seq, k_rg1, k_rg2, e_rg1, e_rg2, rg1_1, rg2_1, k_lc, k_lt, k_le, k_lc2, k_fnF, e_fnF, run1, e_seq, seq_nx, seq_rt, seq_ct, seq_bk, fin_nx, fin_rt, given_fz, given_ow, given_bw, e_var, e_op, e_un, e_call, e_c, lift1, e_asB, toB1, e_tand, e_tor, e_tnot, e_and, e_or, e_not, e_if, e_chain, chn1, e_nil, e_cons, e_tup, e_lst, e_fn, e_fnS, e_fnK, e_isi, isiR1, outR1, outS1, e_stG, e_sl, b_no, b_so, toI1, e_no, e_sx, e_ret, e_retN, e_sif, put_fz, put_ow, nxO1, e_set, asg_fz, asg_ow, e_asg, g_nm, g_nl, g_cn, obind1, g_tuT, g_tuL, e_par2, e_par3, stO1, e_stS, e_stT, bind1, ofR1, d_fz, d_ow, d_bw, frz_fz, frz_ow, frz_bw, nb_nil, nb_fz, nb_ow, nb_bw, v_add, v_sub, v_neg, v_lt, v_gt, v_le, v_ge, v_is, v_isNot, v_eqS, v_neS, v_eq, v_ne, v_eqB, v_neB, v_ixT, v_ixL, at0, at1, at2, at3, at4, at5, map1, v_lenL, v_lenT, v_abs, v_int, v_intB, v_max2, v_min2, v_max3, v_min3, v_tupL, v_tupT, v_lstL, v_lstT, k_int_none, k_int_bool, k_int_int, k_int_str, k_int_list, k_int_tuple, k_bool_none, k_bool_bool, k_bool_int, k_bool_str, k_bool_list, k_bool_tuple, k_str_none, k_str_bool, k_str_int, k_str_str, k_str_list, k_str_tuple, k_list_none, k_list_bool, k_list_int, k_list_str, k_list_list, k_list_tuple, k_tuple_none, k_tuple_bool, k_tuple_int, k_tuple_str, k_tuple_list, k_tuple_tuple, k_dict_none, k_dict_bool, k_dict_int, k_dict_str, k_dict_list, k_dict_tuple, Int.cast_ofNat_Int, Nat.reduceAdd, Nat.reduceLeDiff, e_lc, e_iseq, seqI_fl, seqI_ft, seqI_ol, seqI_ot, lcS1, lcN1, val_fz, val_ow, t_true, wipe0, wipe1, mkL1, noX1, loopS1, loop_nx, loop_ct, loop_bk, loop_rt, loop_exc, e_for, v_allD, v_anyD, bools_map, ints_map, bools0, bools1, ints0, ints1, size_eq, decide_true, decide_false, true_or, or_true, eq_self, and_true, true_and, List.all_cons, List.all_nil, List.any_cons, List.any_nil, id_eq, isN, List.map_cons, List.map_nil, List.length_cons, List.length_nil, List.getElem?_cons_zero, List.getElem?_cons_succ, List.set_cons_zero, List.set_cons_succ, decide_eq_true_eq, if_true, Bool.or_true, Bool.true_or, Bool.and_true, Bool.true_and, Bool.false_eq_true, if_false, Bool.not_true, Bool.not_false, Bool.or_false, Bool.false_or, Bool.and_false, Bool.false_and, BEq.rfl, e_sortK, k_sortK, e_lc2, k_lc2c, mkD1, e_dc, k_dc, e_dc0, e_stD, stD1, o_stD1f, o_stD1o, o_stD2, e_slk, lk1, e_elk, lke1, unlO_nx, unlO_bk, unlO_ct, unlO_rt, unl_nil, unl_cons, unl1_no, unl1_fz, unl1_ow, unl1_lk, e_items, items1, e_keysD, keysD1, e_en, k_enL, k_enT, k_enO, e_zp, k_zp, e_fnL, k_fnL, e_fnL0, e_fnC, e_fnC0, callC1, k_C, outC1, v_ixTA, v_ixLA, bind_some, boolsM, all_mapI, any_mapI, allT, e_app, app1, o_appf, o_appo, e_frz, frzo1, frzo2, q4, Nat.zero_le, rn, toNat_nat, rngD_map]
    rw [e5]
    simp only [k_op1, k_op2, k_un, k_call, k_b, k_and, k_or, k_not, k_eand, k_eor, k_enot, k_if, k_c1, k_c2, k_c3, k_cons1, k_cons2, k_tup, k_lst, k_fn, k_fnS, k_fnK, k_isi, k_sl1, k_sl2, k_sl3, k_i, o_sx, o_ret, o_if, o_set, o_asg, o_par2, o_par3, o_stS, o_stT, o_for, k_seq, k_rg1, k_rg2, e_rg1, e_rg2, rg1_1, rg2_1, k_lc, k_lt, k_le, k_lc2, k_fnF, e_fnF, run1, e_seq, seq_nx, seq_rt, seq_ct, seq_bk, fin_nx, fin_rt, given_fz, given_ow, given_bw, e_var, e_op, e_un, e_call, e_c, lift1, e_asB, toB1, e_tand, e_tor, e_tnot, e_and, e_or, e_not, e_if, e_chain, chn1, e_nil, e_cons, e_tup, e_lst, e_fn, e_fnS, e_fnK, e_isi, isiR1, outR1, outS1, e_stG, e_sl, b_no, b_so, toI1, e_no, e_sx, e_ret, e_retN, e_sif, put_fz, put_ow, nxO1, e_set, asg_fz, asg_ow, e_asg, g_nm, g_nl, g_cn, obind1, g_tuT, g_tuL, e_par2, e_par3, stO1, e_stS, e_stT, bind1, ofR1, d_fz, d_ow, d_bw, frz_fz, frz_ow, frz_bw, nb_nil, nb_fz, nb_ow, nb_bw, v_add, v_sub, v_neg, v_lt, v_gt, v_le, v_ge, v_is, v_isNot, v_eqS, v_neS, v_eq, v_ne, v_eqB, v_neB, v_ixT, v_ixL, at0, at1, at2, at3, at4, at5, map1, v_lenL, v_lenT, v_abs, v_int, v_intB, v_max2, v_min2, v_max3, v_min3, v_tupL, v_tupT, v_lstL, v_lstT, k_int_none, k_int_bool, k_int_int, k_int_str, k_int_list, k_int_tuple, k_bool_none, k_bool_bool, k_bool_int, k_bool_str, k_bool_list, k_bool_tuple, k_str_none, k_str_bool, k_str_int, k_str_str, k_str_list, k_str_tuple, k_list_none, k_list_bool, k_list_int, k_list_str, k_list_list, k_list_tuple, k_tuple_none, k_tuple_bool, k_tuple_int, k_tuple_str, k_tuple_list, k_tuple_tuple, k_dict_none, k_dict_bool, k_dict_int, k_dict_str, k_dict_list, k_dict_tuple, Int.cast_ofNat_Int, Nat.reduceAdd, Nat.reduceLeDiff, e_lc, e_iseq, seqI_fl, seqI_ft, seqI_ol, seqI_ot, lcS1, lcN1, val_fz, val_ow, t_true, wipe0, wipe1, mkL1, noX1, loopS1, loop_nx, loop_ct, loop_bk, loop_rt, loop_exc, e_for, v_allD, v_anyD, bools_map, ints_map, bools0, bools1, ints0, ints1, size_eq, decide_true, decide_false, true_or, or_true, eq_self, and_true, true_and, List.all_cons, List.all_nil, List.any_cons, List.any_nil, id_eq, isN, List.map_cons, List.map_nil, List.length_cons, List.length_nil, List.getElem?_cons_zero, List.getElem?_cons_succ, List.set_cons_zero, List.set_cons_succ, decide_eq_true_eq, if_true, Bool.or_true, Bool.true_or, Bool.and_true, Bool.true_and, Bool.false_eq_true, if_false, Bool.not_true, Bool.not_false, Bool.or_false, Bool.false_or, Bool.and_false, Bool.false_and, BEq.rfl, e_sortK, k_sortK, e_lc2, k_lc2c, mkD1, e_dc, k_dc, e_dc0, e_stD, stD1, o_stD1f, o_stD1o, o_stD2, e_slk, lk1, e_elk, lke1, unlO_nx, unlO_bk, unlO_ct, unlO_rt, unl_nil, unl_cons, unl1_no, unl1_fz, unl1_ow, unl1_lk, e_items, items1, e_keysD, keysD1, e_en, k_enL, k_enT, k_enO, e_zp, k_zp, e_fnL, k_fnL, e_fnL0, e_fnC, e_fnC0, callC1, k_C, outC1, v_ixTA, v_ixLA, bind_some, boolsM, all_mapI, any_mapI, allT, e_app, app1, o_appf, o_appo, e_frz, frzo1, frzo2]
  · have : (n : Int) * m ≤ hi * wi := Int.mul_le_mul bn.2 bm.2 (by omega) (by omega)
    have : ((n * m : Nat) : Int) ≤ 24 := by push_cast; omega
    omega
abbrev gCell : Sx := sSeq (sAsg (eFnS 2 S__law_any (aCons (eLst (aCons (eC (.int 0)) (aCons (eC (.int 0)) (aCons (eC (.int 0)) (aCons (eC (.int 1)) (aCons (eUn fNeg (eC (.int 1))) (aCons (eOp fSub (eFnS 2 S__law_deal (aCons (eC (.int 6)) (aNil))) (eVar 5)) (aNil)))))))) (aNil))) (gNm 6)) (sApp 4 (eCall fMin (aCons (eC (.int 5)) (aCons (eCall fMax (aCons (eC (.int 0)) (aCons (eOp fAdd (eVar 5) (eVar 6)) (aNil)))) (aNil)))))
theorem p_line (fl : D) (L : D) (rd : D) (row : List Int) (hrow : row.length ≤ 6) (x5 x6 : Option EV) (w : List Int) (hw : W3 w) : ∃ (r : List Int) (y5 y6 : Option EV) (w' : List Int), loopL (gNm 5) gCell (row.map PyData.int) [none, some (.fz fl), some (.ow L), some (.fz rd), some (.ow (.list [])), x5, x6] w = .nx [none, some (.fz fl), some (.ow L), some (.fz rd), some (.ow (.list (r.map PyData.int))), y5, y6] w' ∧ r.length = row.length ∧ (∀ x ∈ r, 0 ≤ x ∧ x ≤ 5) ∧ W3 w' := by
  obtain ⟨ρ', w', e, r, y5, y6, rfl, hl, hv, hw'⟩ := loop_idx (b := gNm 5) (g := gCell) (P := fun k ρ w' => ∃ (r : List Int) (y5 y6 : Option EV), ρ = [none, some (.fz fl), some (.ow L), some (.fz rd), some (.ow (.list (r.map PyData.int))), y5, y6] ∧ r.length = k ∧ (∀ x ∈ r, 0 ≤ x ∧ x ≤ 5) ∧ W3 w') 6 (ds := row.map PyData.int) (k := 0)
    (ρ := [none, some (.fz fl), some (.ow L), some (.fz rd), some (.ow (.list [])), x5, x6]) (w := w) (by rw [List.length_map]; omega) (by
      rintro d hd k hk ρ w ⟨r, y5, y6, rfl, hl, hv, hw⟩
      obtain ⟨nd, _, rfl⟩ := List.mem_map.mp hd
      obtain ⟨x, y, z, rfl⟩ := hw
      obtain ⟨r1, w1, q1, b1, hw1⟩ := p_deal x y z 6 (by decide) (by decide)
      obtain ⟨d2, w2, q2, hd2, hw2⟩ := p_any [.int 0, .int 0, .int 0, .int 1, .int (-1), .int (r1 - nd)] (by simp) (by simp) w1 hw1
      obtain ⟨st, rfl⟩ : ∃ t : Int, d2 = .int t := by
        simp only [List.mem_cons, List.not_mem_nil, or_false] at hd2
        rcases hd2 with rfl | rfl | rfl | rfl | rfl | rfl <;> exact ⟨_, rfl⟩
      have c2 : r.length < 16777216 := by omega
      refine ⟨_, _, w2, rfl, ?_, r ++ [if (if nd + st > 0 then nd + st else 0) < 5 then (if nd + st > 0 then nd + st else 0) else 5], some (.fz (.int nd)), some (.fz (.int st)), rfl, by rw [List.length_append, List.length_singleton, hl], ?_, hw2⟩
      · simp only [k_op1, k_op2, k_un, k_call, k_b, k_and, k_or, k_not, k_eand, k_eor, k_enot, k_if, k_c1, k_c2, k_c3, k_cons1, k_cons2, k_tup, k_lst, k_fn, k_fnS, k_fnK, k_isi, k_sl1, k_sl2, k_sl3, k_i, o_sx, o_ret, o_if, o_set, o_asg, o_par2, o_par3, o_stS, o_stT, o_for, k_seq, k_rg1, k_rg2, e_rg1, e_rg2, rg1_1, rg2_1, k_lc, k_lt, k_le, k_lc2, k_fnF, e_fnF, run1, e_seq, seq_nx, seq_rt, seq_ct, seq_bk, fin_nx, fin_rt, given_fz, given_ow, given_bw, e_var, e_op, e_un, e_call, e_c, lift1, e_asB, toB1, e_tand, e_tor, e_tnot, e_and, e_or, e_not, e_if, e_chain, chn1, e_nil, e_cons, e_tup, e_lst, e_fn, e_fnS, e_fnK, e_isi, isiR1, outR1, outS1, e_stG, e_sl, b_no, b_so, toI1, e_no, e_sx, e_ret, e_retN, e_sif, put_fz, put_ow, nxO1, e_set, asg_fz, asg_ow, e_asg, g_nm, g_nl, g_cn, obind1, g_tuT, g_tuL, e_par2, e_par3, stO1, e_stS, e_stT, bind1, ofR1, d_fz, d_ow, d_bw, frz_fz, frz_ow, frz_bw, nb_nil, nb_fz, nb_ow, nb_bw, v_add, v_sub, v_neg, v_lt, v_gt, v_le, v_ge, v_is, v_isNot, v_eqS, v_neS, v_eq, v_ne, v_eqB, v_neB, v_ixT, v_ixL, at0, at1, at2, at3, at4, at5, map1, v_lenL, v_lenT, v_abs, v_int, v_intB, v_max2, v_min2, v_max3, v_min3, v_tupL, v_tupT, v_lstL, v_lstT, k_int_none, k_int_bool, k_int_int, k_int_str, k_int_list, k_int_tuple, k_bool_none, k_bool_bool, k_bool_int, k_bool_str, k_bool_list, k_bool_tuple, k_str_none, k_str_bool, k_str_int, k_str_str, k_str_list, k_str_tuple, k_list_none, k_list_bool, k_list_int, k_list_str, k_list_list, k_list_tuple, k_tuple_none, k_tuple_bool, k_tuple_int, k_tuple_str, k_tuple_list, k_tuple_tuple, k_dict_none, k_dict_bool, k_dict_int, k_dict_str, k_dict_list, k_dict_tuple, Int.cast_ofNat_Int, Nat.reduceAdd, Nat.reduceLeDiff, e_lc, e_iseq, seqI_fl, seqI_ft, seqI_ol, seqI_ot, lcS1, lcN1, val_fz, val_ow, t_true, wipe0, wipe1, mkL1, noX1, loopS1, loop_nx, loop_ct, loop_bk, loop_rt, loop_exc, e_for, v_allD, v_anyD, bools_map, ints_map, bools0, bools1, ints0, ints1, size_eq, decide_true, decide_false, true_or, or_true, eq_self, and_true, true_and, List.all_cons, List.all_nil, List.any_cons, List.any_nil, id_eq, isN, List.map_cons, List.map_nil, List.length_cons, List.length_nil, List.getElem?_cons_zero, List.getElem?_cons_succ, List.set_cons_zero, List.set_cons_succ, decide_eq_true_eq, if_true, Bool.or_true, Bool.true_or, Bool.and_true, Bool.true_and, Bool.false_eq_true, if_false, Bool.not_true, Bool.not_false, Bool.or_false, Bool.false_or, Bool.and_false, Bool.false_and, BEq.rfl, e_sortK, k_sortK, e_lc2, k_lc2c, mkD1, e_dc, k_dc, e_dc0, e_stD, stD1, o_stD1f, o_stD1o, o_stD2, e_slk, lk1, e_elk, lke1, unlO_nx, unlO_bk, unlO_ct, unlO_rt, unl_nil, unl_cons, unl1_no, unl1_fz, unl1_ow, unl1_lk, e_items, items1, e_keysD, keysD1, e_en, k_enL, k_enT, k_enO, e_zp, k_zp, e_fnL, k_fnL, e_fnL0, e_fnC, e_fnC0, callC1, k_C, outC1, v_ixTA, v_ixLA, bind_some, boolsM, all_mapI, any_mapI, allT, e_app, app1, o_appf, o_appo, e_frz, frzo1, frzo2, q1, q2, List.length_map, c2, indep, pure?]
        rw [List.map_append]
        rfl
      · intro v hv'
        rcases List.mem_append.mp hv' with h | h
        · exact hv v h
        · rw [List.mem_singleton.mp h]
          constructor <;> split <;> (try split) <;> omega) ⟨[], x5, x6, rfl, rfl, by simp, hw⟩
  exact ⟨r, y5, y6, w', e, by rw [hl, List.length_map, Nat.zero_add], hv, hw'⟩
abbrev gNear : Sx := sSeq (sSet 4 (eLst (aNil))) (sSeq (sFor (iSeq (eVar 3)) (gNm 5) gCell) (sFrz 4 (sApp 2 (eCall fTuple (aCons (eVar 4) (aNil))))))
theorem p_near {F : List (List Int)} {n m : Nat} (h : Fl F n m) (w : List Int) (hw : W3 w) : ∃ (F' : List (List Int)) (w' : List Int), S__law_near [] [.fz (flD F)] w = .ok (.fz (flD F'), w') ∧ Fl F' n m ∧ W3 w' := by
  rw [u__law_near]
  unfold g__law_near
  have hn6 := h.n6
  obtain ⟨ρ', w', e, F', x3, x4, x5, x6, rfl, fl, fr, fv, hw'⟩ := loop_idx (b := gNm 3) (g := gNear) (P := fun k ρ w' => ∃ (F' : List (List Int)) (x3 x4 x5 x6 : Option EV), ρ = [none, some (.fz (flD F)), some (.ow (.list (F'.map rowD))), x3, x4, x5, x6] ∧ F'.length = k ∧ (∀ r ∈ F', r.length = m) ∧ (∀ r ∈ F', ∀ x ∈ r, 0 ≤ x ∧ x ≤ 5) ∧ W3 w') 6 (ds := F.map rowD) (k := 0)
    (ρ := [none, some (.fz (flD F)), some (.ow (.list [])), none, none, none, none]) (w := w) (by rw [List.length_map, h.len]; omega) (by
      rintro d hd k hk ρ w ⟨F', x3, x4, x5, x6, rfl, fl, fr, fv, hw⟩
      obtain ⟨row, hrow, rfl⟩ := List.mem_map.mp hd
      have rl := h.row row hrow
      obtain ⟨r, y5, y6, w1, e1, l1, v1, hw1⟩ := p_line (flD F) (.list (F'.map rowD)) (rowD row) row (by rw [rl]; exact h.m6) x5 x6 w hw
      have c2 : F'.length < 16777216 := by omega
      refine ⟨_, _, w1, rfl, ?_, F' ++ [r], some (.fz (rowD row)), some (.fz (.list (r.map PyData.int))), y5, y6, rfl, by rw [List.length_append, List.length_singleton, fl], ?_, ?_, hw1⟩
      · simp only [k_op1, k_op2, k_un, k_call, k_b, k_and, k_or, k_not, k_eand, k_eor, k_enot, k_if, k_c1, k_c2, k_c3, k_cons1, k_cons2, k_tup, k_lst, k_fn, k_fnS, k_fnK, k_isi, k_sl1, k_sl2, k_sl3, k_i, o_sx, o_ret, o_if, o_set, o_asg, o_par2, o_par3, o_stS, o_stT, o_for, k_seq, k_rg1, k_rg2, e_rg1, e_rg2, rg1_1, rg2_1, k_lc, k_lt, k_le, k_lc2, k_fnF, e_fnF, run1, e_seq, seq_nx, seq_rt, seq_ct, seq_bk, fin_nx, fin_rt, given_fz, given_ow, given_bw, e_var, e_op, e_un, e_call, e_c, lift1, e_asB, toB1, e_tand, e_tor, e_tnot, e_and, e_or, e_not, e_if, e_chain, chn1, e_nil, e_cons, e_tup, e_lst, e_fn, e_fnS, e_fnK, e_isi, isiR1, outR1, outS1, e_stG, e_sl, b_no, b_so, toI1, e_no, e_sx, e_ret, e_retN, e_sif, put_fz, put_ow, nxO1, e_set, asg_fz, asg_ow, e_asg, g_nm, g_nl, g_cn, obind1, g_tuT, g_tuL, e_par2, e_par3, stO1, e_stS, e_stT, bind1, ofR1, d_fz, d_ow, d_bw, frz_fz, frz_ow, frz_bw, nb_nil, nb_fz, nb_ow, nb_bw, v_add, v_sub, v_neg, v_lt, v_gt, v_le, v_ge, v_is, v_isNot, v_eqS, v_neS, v_eq, v_ne, v_eqB, v_neB, v_ixT, v_ixL, at0, at1, at2, at3, at4, at5, map1, v_lenL, v_lenT, v_abs, v_int, v_intB, v_max2, v_min2, v_max3, v_min3, v_tupL, v_tupT, v_lstL, v_lstT, k_int_none, k_int_bool, k_int_int, k_int_str, k_int_list, k_int_tuple, k_bool_none, k_bool_bool, k_bool_int, k_bool_str, k_bool_list, k_bool_tuple, k_str_none, k_str_bool, k_str_int, k_str_str, k_str_list, k_str_tuple, k_list_none, k_list_bool, k_list_int, k_list_str, k_list_list, k_list_tuple, k_tuple_none, k_tuple_bool, k_tuple_int, k_tuple_str, k_tuple_list, k_tuple_tuple, k_dict_none, k_dict_bool, k_dict_int, k_dict_str, k_dict_list, k_dict_tuple, Int.cast_ofNat_Int, Nat.reduceAdd, Nat.reduceLeDiff, e_lc, e_iseq, seqI_fl, seqI_ft, seqI_ol, seqI_ot, lcS1, lcN1, val_fz, val_ow, t_true, wipe0, wipe1, mkL1, noX1, loopS1, loop_nx, loop_ct, loop_bk, loop_rt, loop_exc, e_for, v_allD, v_anyD, bools_map, ints_map, bools0, bools1, ints0, ints1, size_eq, decide_true, decide_false, true_or, or_true, eq_self, and_true, true_and, List.all_cons, List.all_nil, List.any_cons, List.any_nil, id_eq, isN, List.map_cons, List.map_nil, List.length_cons, List.length_nil, List.getElem?_cons_zero, List.getElem?_cons_succ, List.set_cons_zero, List.set_cons_succ, decide_eq_true_eq, if_true, Bool.or_true, Bool.true_or, Bool.and_true, Bool.true_and, Bool.false_eq_true, if_false, Bool.not_true, Bool.not_false, Bool.or_false, Bool.false_or, Bool.and_false, Bool.false_and, BEq.rfl, e_sortK, k_sortK, e_lc2, k_lc2c, mkD1, e_dc, k_dc, e_dc0, e_stD, stD1, o_stD1f, o_stD1o, o_stD2, e_slk, lk1, e_elk, lke1, unlO_nx, unlO_bk, unlO_ct, unlO_rt, unl_nil, unl_cons, unl1_no, unl1_fz, unl1_ow, unl1_lk, e_items, items1, e_keysD, keysD1, e_en, k_enL, k_enT, k_enO, e_zp, k_zp, e_fnL, k_fnL, e_fnL0, e_fnC, e_fnC0, callC1, k_C, outC1, v_ixTA, v_ixLA, bind_some, boolsM, all_mapI, any_mapI, allT, e_app, app1, o_appf, o_appo, e_frz, frzo1, frzo2, Nat.zero_le]
        rw [e1]
        simp only [k_op1, k_op2, k_un, k_call, k_b, k_and, k_or, k_not, k_eand, k_eor, k_enot, k_if, k_c1, k_c2, k_c3, k_cons1, k_cons2, k_tup, k_lst, k_fn, k_fnS, k_fnK, k_isi, k_sl1, k_sl2, k_sl3, k_i, o_sx, o_ret, o_if, o_set, o_asg, o_par2, o_par3, o_stS, o_stT, o_for, k_seq, k_rg1, k_rg2, e_rg1, e_rg2, rg1_1, rg2_1, k_lc, k_lt, k_le, k_lc2, k_fnF, e_fnF, run1, e_seq, seq_nx, seq_rt, seq_ct, seq_bk, fin_nx, fin_rt, given_fz, given_ow, given_bw, e_var, e_op, e_un, e_call, e_c, lift1, e_asB, toB1, e_tand, e_tor, e_tnot, e_and, e_or, e_not, e_if, e_chain, chn1, e_nil, e_cons, e_tup, e_lst, e_fn, e_fnS, e_fnK, e_isi, isiR1, outR1, outS1, e_stG, e_sl, b_no, b_so, toI1, e_no, e_sx, e_ret, e_retN, e_sif, put_fz, put_ow, nxO1, e_set, asg_fz, asg_ow, e_asg, g_nm, g_nl, g_cn, obind1, g_tuT, g_tuL, e_par2, e_par3, stO1, e_stS, e_stT, bind1, ofR1, d_fz, d_ow, d_bw, frz_fz, frz_ow, frz_bw, nb_nil, nb_fz, nb_ow, nb_bw, v_add, v_sub, v_neg, v_lt, v_gt, v_le, v_ge, v_is, v_isNot, v_eqS, v_neS, v_eq, v_ne, v_eqB, v_neB, v_ixT, v_ixL, at0, at1, at2, at3, at4, at5, map1, v_lenL, v_lenT, v_abs, v_int, v_intB, v_max2, v_min2, v_max3, v_min3, v_tupL, v_tupT, v_lstL, v_lstT, k_int_none, k_int_bool, k_int_int, k_int_str, k_int_list, k_int_tuple, k_bool_none, k_bool_bool, k_bool_int, k_bool_str, k_bool_list, k_bool_tuple, k_str_none, k_str_bool, k_str_int, k_str_str, k_str_list, k_str_tuple, k_list_none, k_list_bool, k_list_int, k_list_str, k_list_list, k_list_tuple, k_tuple_none, k_tuple_bool, k_tuple_int, k_tuple_str, k_tuple_list, k_tuple_tuple, k_dict_none, k_dict_bool, k_dict_int, k_dict_str, k_dict_list, k_dict_tuple, Int.cast_ofNat_Int, Nat.reduceAdd, Nat.reduceLeDiff, e_lc, e_iseq, seqI_fl, seqI_ft, seqI_ol, seqI_ot, lcS1, lcN1, val_fz, val_ow, t_true, wipe0, wipe1, mkL1, noX1, loopS1, loop_nx, loop_ct, loop_bk, loop_rt, loop_exc, e_for, v_allD, v_anyD, bools_map, ints_map, bools0, bools1, ints0, ints1, size_eq, decide_true, decide_false, true_or, or_true, eq_self, and_true, true_and, List.all_cons, List.all_nil, List.any_cons, List.any_nil, id_eq, isN, List.map_cons, List.map_nil, List.length_cons, List.length_nil, List.getElem?_cons_zero, List.getElem?_cons_succ, List.set_cons_zero, List.set_cons_succ, decide_eq_true_eq, if_true, Bool.or_true, Bool.true_or, Bool.and_true, Bool.true_and, Bool.false_eq_true, if_false, Bool.not_true, Bool.not_false, Bool.or_false, Bool.false_or, Bool.and_false, Bool.false_and, BEq.rfl, e_sortK, k_sortK, e_lc2, k_lc2c, mkD1, e_dc, k_dc, e_dc0, e_stD, stD1, o_stD1f, o_stD1o, o_stD2, e_slk, lk1, e_elk, lke1, unlO_nx, unlO_bk, unlO_ct, unlO_rt, unl_nil, unl_cons, unl1_no, unl1_fz, unl1_ow, unl1_lk, e_items, items1, e_keysD, keysD1, e_en, k_enL, k_enT, k_enO, e_zp, k_zp, e_fnL, k_fnL, e_fnL0, e_fnC, e_fnC0, callC1, k_C, outC1, v_ixTA, v_ixLA, bind_some, boolsM, all_mapI, any_mapI, allT, e_app, app1, o_appf, o_appo, e_frz, frzo1, frzo2, List.length_map, c2]
        rw [List.map_append]
        rfl
      · intro r' hr'
        rcases List.mem_append.mp hr' with h | h
        · exact fr r' h
        · rw [List.mem_singleton.mp h, l1, rl]
      · intro r' hr'
        rcases List.mem_append.mp hr' with h | h
        · exact fv r' h
        · rw [List.mem_singleton.mp h]; exact v1) ⟨[], none, none, none, none, rfl, rfl, by simp, by simp, hw⟩
  rw [List.length_map, h.len, Nat.zero_add] at fl
  refine ⟨F', w', ?_, ⟨fl, fr, h.n1, h.n6, h.m1, h.m6, h.cap, fv⟩, hw'⟩
  simp only [k_op1, k_op2, k_un, k_call, k_b, k_and, k_or, k_not, k_eand, k_eor, k_enot, k_if, k_c1, k_c2, k_c3, k_cons1, k_cons2, k_tup, k_lst, k_fn, k_fnS, k_fnK, k_isi, k_sl1, k_sl2, k_sl3, k_i, o_sx, o_ret, o_if, o_set, o_asg, o_par2, o_par3, o_stS, o_stT, o_for, k_seq, k_rg1, k_rg2, e_rg1, e_rg2, rg1_1, rg2_1, k_lc, k_lt, k_le, k_lc2, k_fnF, e_fnF, run1, e_seq, seq_nx, seq_rt, seq_ct, seq_bk, fin_nx, fin_rt, given_fz, given_ow, given_bw, e_var, e_op, e_un, e_call, e_c, lift1, e_asB, toB1, e_tand, e_tor, e_tnot, e_and, e_or, e_not, e_if, e_chain, chn1, e_nil, e_cons, e_tup, e_lst, e_fn, e_fnS, e_fnK, e_isi, isiR1, outR1, outS1, e_stG, e_sl, b_no, b_so, toI1, e_no, e_sx, e_ret, e_retN, e_sif, put_fz, put_ow, nxO1, e_set, asg_fz, asg_ow, e_asg, g_nm, g_nl, g_cn, obind1, g_tuT, g_tuL, e_par2, e_par3, stO1, e_stS, e_stT, bind1, ofR1, d_fz, d_ow, d_bw, frz_fz, frz_ow, frz_bw, nb_nil, nb_fz, nb_ow, nb_bw, v_add, v_sub, v_neg, v_lt, v_gt, v_le, v_ge, v_is, v_isNot, v_eqS, v_neS, v_eq, v_ne, v_eqB, v_neB, v_ixT, v_ixL, at0, at1, at2, at3, at4, at5, map1, v_lenL, v_lenT, v_abs, v_int, v_intB, v_max2, v_min2, v_max3, v_min3, v_tupL, v_tupT, v_lstL, v_lstT, k_int_none, k_int_bool, k_int_int, k_int_str, k_int_list, k_int_tuple, k_bool_none, k_bool_bool, k_bool_int, k_bool_str, k_bool_list, k_bool_tuple, k_str_none, k_str_bool, k_str_int, k_str_str, k_str_list, k_str_tuple, k_list_none, k_list_bool, k_list_int, k_list_str, k_list_list, k_list_tuple, k_tuple_none, k_tuple_bool, k_tuple_int, k_tuple_str, k_tuple_list, k_tuple_tuple, k_dict_none, k_dict_bool, k_dict_int, k_dict_str, k_dict_list, k_dict_tuple, Int.cast_ofNat_Int, Nat.reduceAdd, Nat.reduceLeDiff, e_lc, e_iseq, seqI_fl, seqI_ft, seqI_ol, seqI_ot, lcS1, lcN1, val_fz, val_ow, t_true, wipe0, wipe1, mkL1, noX1, loopS1, loop_nx, loop_ct, loop_bk, loop_rt, loop_exc, e_for, v_allD, v_anyD, bools_map, ints_map, bools0, bools1, ints0, ints1, size_eq, decide_true, decide_false, true_or, or_true, eq_self, and_true, true_and, List.all_cons, List.all_nil, List.any_cons, List.any_nil, id_eq, isN, List.map_cons, List.map_nil, List.length_cons, List.length_nil, List.getElem?_cons_zero, List.getElem?_cons_succ, List.set_cons_zero, List.set_cons_succ, decide_eq_true_eq, if_true, Bool.or_true, Bool.true_or, Bool.and_true, Bool.true_and, Bool.false_eq_true, if_false, Bool.not_true, Bool.not_false, Bool.or_false, Bool.false_or, Bool.and_false, Bool.false_and, BEq.rfl, e_sortK, k_sortK, e_lc2, k_lc2c, mkD1, e_dc, k_dc, e_dc0, e_stD, stD1, o_stD1f, o_stD1o, o_stD2, e_slk, lk1, e_elk, lke1, unlO_nx, unlO_bk, unlO_ct, unlO_rt, unl_nil, unl_cons, unl1_no, unl1_fz, unl1_ow, unl1_lk, e_items, items1, e_keysD, keysD1, e_en, k_enL, k_enT, k_enO, e_zp, k_zp, e_fnL, k_fnL, e_fnL0, e_fnC, e_fnC0, callC1, k_C, outC1, v_ixTA, v_ixLA, bind_some, boolsM, all_mapI, any_mapI, allT, e_app, app1, o_appf, o_appo, e_frz, frzo1, frzo2, Nat.zero_le]
  rw [e]
  simp only [k_op1, k_op2, k_un, k_call, k_b, k_and, k_or, k_not, k_eand, k_eor, k_enot, k_if, k_c1, k_c2, k_c3, k_cons1, k_cons2, k_tup, k_lst, k_fn, k_fnS, k_fnK, k_isi, k_sl1, k_sl2, k_sl3, k_i, o_sx, o_ret, o_if, o_set, o_asg, o_par2, o_par3, o_stS, o_stT, o_for, k_seq, k_rg1, k_rg2, e_rg1, e_rg2, rg1_1, rg2_1, k_lc, k_lt, k_le, k_lc2, k_fnF, e_fnF, run1, e_seq, seq_nx, seq_rt, seq_ct, seq_bk, fin_nx, fin_rt, given_fz, given_ow, given_bw, e_var, e_op, e_un, e_call, e_c, lift1, e_asB, toB1, e_tand, e_tor, e_tnot, e_and, e_or, e_not, e_if, e_chain, chn1, e_nil, e_cons, e_tup, e_lst, e_fn, e_fnS, e_fnK, e_isi, isiR1, outR1, outS1, e_stG, e_sl, b_no, b_so, toI1, e_no, e_sx, e_ret, e_retN, e_sif, put_fz, put_ow, nxO1, e_set, asg_fz, asg_ow, e_asg, g_nm, g_nl, g_cn, obind1, g_tuT, g_tuL, e_par2, e_par3, stO1, e_stS, e_stT, bind1, ofR1, d_fz, d_ow, d_bw, frz_fz, frz_ow, frz_bw, nb_nil, nb_fz, nb_ow, nb_bw, v_add, v_sub, v_neg, v_lt, v_gt, v_le, v_ge, v_is, v_isNot, v_eqS, v_neS, v_eq, v_ne, v_eqB, v_neB, v_ixT, v_ixL, at0, at1, at2, at3, at4, at5, map1, v_lenL, v_lenT, v_abs, v_int, v_intB, v_max2, v_min2, v_max3, v_min3, v_tupL, v_tupT, v_lstL, v_lstT, k_int_none, k_int_bool, k_int_int, k_int_str, k_int_list, k_int_tuple, k_bool_none, k_bool_bool, k_bool_int, k_bool_str, k_bool_list, k_bool_tuple, k_str_none, k_str_bool, k_str_int, k_str_str, k_str_list, k_str_tuple, k_list_none, k_list_bool, k_list_int, k_list_str, k_list_list, k_list_tuple, k_tuple_none, k_tuple_bool, k_tuple_int, k_tuple_str, k_tuple_list, k_tuple_tuple, k_dict_none, k_dict_bool, k_dict_int, k_dict_str, k_dict_list, k_dict_tuple, Int.cast_ofNat_Int, Nat.reduceAdd, Nat.reduceLeDiff, e_lc, e_iseq, seqI_fl, seqI_ft, seqI_ol, seqI_ot, lcS1, lcN1, val_fz, val_ow, t_true, wipe0, wipe1, mkL1, noX1, loopS1, loop_nx, loop_ct, loop_bk, loop_rt, loop_exc, e_for, v_allD, v_anyD, bools_map, ints_map, bools0, bools1, ints0, ints1, size_eq, decide_true, decide_false, true_or, or_true, eq_self, and_true, true_and, List.all_cons, List.all_nil, List.any_cons, List.any_nil, id_eq, isN, List.map_cons, List.map_nil, List.length_cons, List.length_nil, List.getElem?_cons_zero, List.getElem?_cons_succ, List.set_cons_zero, List.set_cons_succ, decide_eq_true_eq, if_true, Bool.or_true, Bool.true_or, Bool.and_true, Bool.true_and, Bool.false_eq_true, if_false, Bool.not_true, Bool.not_false, Bool.or_false, Bool.false_or, Bool.and_false, Bool.false_and, BEq.rfl, e_sortK, k_sortK, e_lc2, k_lc2c, mkD1, e_dc, k_dc, e_dc0, e_stD, stD1, o_stD1f, o_stD1o, o_stD2, e_slk, lk1, e_elk, lke1, unlO_nx, unlO_bk, unlO_ct, unlO_rt, unl_nil, unl_cons, unl1_no, unl1_fz, unl1_ow, unl1_lk, e_items, items1, e_keysD, keysD1, e_en, k_enL, k_enT, k_enO, e_zp, k_zp, e_fnL, k_fnL, e_fnL0, e_fnC, e_fnC0, callC1, k_C, outC1, v_ixTA, v_ixLA, bind_some, boolsM, all_mapI, any_mapI, allT, e_app, app1, o_appf, o_appo, e_frz, frzo1, frzo2]
def gLap : Sx := sSeq (sAsg (eFnS 4 S__law_floor (aCons (eC (.int 3)) (aCons (eC (.int 3)) (aCons (eC (.int 9)) (aNil))))) (gNm 2)) (sSeq (sAsg (eFnS 2 S__law_near (aCons (eVar 2) (aNil))) (gNm 3)) (sSeq (sAsg (eLc [8] (iSeq (eFn 1 S__law_snugs (aCons (eVar 3) (aNil)))) (gNm 8) (tNot' (asB (eFn 2 S__law_is_snug (aCons (eVar 2) (aCons (eVar 8) (aNil)))))) (eVar 8)) (gNm 4)) (sSeq (sAsg (eLst (aCons (eOp fEq (eVar 4) (eLst (aNil))) (aCons (eIf (asB (eOp fNe (eVar 4) (eLst (aNil)))) (eOp fIxA (eVar 4) (eC (.int 0))) (eC .none)) (aNil)))) (gNm 5)) (sSeq (sAsg (eLst (aCons (eFn 2 S_is_drier (aCons (eVar 2) (aCons (eVar 3) (aNil)))) (aCons (eFn 2 S_telling_lot (aCons (eVar 2) (aCons (eVar 3) (aNil)))) (aNil)))) (gNm 6)) (sSeq (sAsg (eLst (aCons (eFnK 2 2 [1, 0] S_is_drier (aCons (eVar 3) (aCons (eVar 2) (aNil)))) (aCons (eFnK 2 2 [1, 0] S_telling_lot (aCons (eVar 3) (aCons (eVar 2) (aNil)))) (aNil)))) (gNm 7)) (sIf (asB (eOp fNe (eCall fRepr (aCons (eLst (aCons (eVar 6) (aCons (eVar 7) (aNil)))) (aNil))) (eCall fRepr (aCons (eLst (aCons (eVar 5) (aCons (eVar 5) (aNil)))) (aNil))))) (sRet (eC (.bool false))) (sNo)))))))
theorem p_lap (d : D) (e2 e3 e4 e5 e6 e7 : Option EV) (w : List Int) (hw : W3 w) : ∃ f2 f3 f4 f5 f6 f7 w', gLap [none, some (.fz d), e2, e3, e4, e5, e6, e7, none] w = .nx [none, some (.fz d), f2, f3, f4, f5, f6, f7, none] w' ∧ W3 w' := by
  obtain ⟨F, n, m, w1, q1, h, bn, bm, hw1⟩ := p_floor 3 3 9 (by decide) (by decide) (by decide) w hw
  obtain ⟨F', w2, q2, h', hw2⟩ := p_near h w1 hw1
  have c : n * m ≤ 12 := by
    have : n * m ≤ 3 * 3 := Nat.mul_le_mul (by omega) (by omega)
    omega
  have hsub : ∀ l ∈ lots (tiles n m), Sm l := fun l hl => (tiles_sm h.n6 h.m6).sub fun t ht => (mem_lots.mp hl).subset ht
  have eB : ((lots (tiles n m)).filter fun l => snugB F' n m l && !l.isEmpty).filter (fun l => !(snugB F n m l && !l.isEmpty)) = (lots (tiles n m)).filter fun l => !l.isEmpty && (snugB F' n m l && !snugB F n m l) := by
    rw [List.filter_filter]
    refine List.filter_congr fun l _ => ?_
    cases snugB F' n m l <;> cases snugB F n m l <;> cases l.isEmpty <;> rfl
  have hB : ((lots (tiles n m)).filter fun l => !l.isEmpty && (snugB F' n m l && !snugB F n m l)).length ≤ 16777216 := by
    have h1 := List.length_filter_le (fun l => !l.isEmpty && (snugB F' n m l && !snugB F n m l)) (lots (tiles n m))
    rw [lots_len, tiles_len] at h1
    have : 2 ^ (n * m) ≤ 2 ^ 12 := Nat.pow_le_pow_right (by decide) c
    omega
  have lc : lcL (gNm 8) (tNot' (asB (eFn 2 S__law_is_snug (aCons (eVar 2) (aCons (eVar 8) (aNil)))))) (eVar 8) (((lots (tiles n m)).filter fun l => snugB F' n m l && !l.isEmpty).map lotT) [none, some (.fz d), some (.fz (flD F)), some (.fz (flD F')), e4, e5, e6, e7, none] w2 = .ok ((((lots (tiles n m)).filter fun l => !l.isEmpty && (snugB F' n m l && !snugB F n m l))).map lotT, w2) := by
    rw [← eB]
    refine lc_filterE lotT _ lotT fun l hl => ⟨_, rfl, ?_, fun _ => ⟨.fz (lotT l), rfl, rfl⟩⟩
    have hs := mem_lots.mp (List.mem_filter.mp hl).1
    simp only [k_op1, k_op2, k_un, k_call, k_b, k_and, k_or, k_not, k_eand, k_eor, k_enot, k_if, k_c1, k_c2, k_c3, k_cons1, k_cons2, k_tup, k_lst, k_fn, k_fnS, k_fnK, k_isi, k_sl1, k_sl2, k_sl3, k_i, o_sx, o_ret, o_if, o_set, o_asg, o_par2, o_par3, o_stS, o_stT, o_for, k_seq, k_rg1, k_rg2, e_rg1, e_rg2, rg1_1, rg2_1, k_lc, k_lt, k_le, k_lc2, k_fnF, e_fnF, run1, e_seq, seq_nx, seq_rt, seq_ct, seq_bk, fin_nx, fin_rt, given_fz, given_ow, given_bw, e_var, e_op, e_un, e_call, e_c, lift1, e_asB, toB1, e_tand, e_tor, e_tnot, e_and, e_or, e_not, e_if, e_chain, chn1, e_nil, e_cons, e_tup, e_lst, e_fn, e_fnS, e_fnK, e_isi, isiR1, outR1, outS1, e_stG, e_sl, b_no, b_so, toI1, e_no, e_sx, e_ret, e_retN, e_sif, put_fz, put_ow, nxO1, e_set, asg_fz, asg_ow, e_asg, g_nm, g_nl, g_cn, obind1, g_tuT, g_tuL, e_par2, e_par3, stO1, e_stS, e_stT, bind1, ofR1, d_fz, d_ow, d_bw, frz_fz, frz_ow, frz_bw, nb_nil, nb_fz, nb_ow, nb_bw, v_add, v_sub, v_neg, v_lt, v_gt, v_le, v_ge, v_is, v_isNot, v_eqS, v_neS, v_eq, v_ne, v_eqB, v_neB, v_ixT, v_ixL, at0, at1, at2, at3, at4, at5, map1, v_lenL, v_lenT, v_abs, v_int, v_intB, v_max2, v_min2, v_max3, v_min3, v_tupL, v_tupT, v_lstL, v_lstT, k_int_none, k_int_bool, k_int_int, k_int_str, k_int_list, k_int_tuple, k_bool_none, k_bool_bool, k_bool_int, k_bool_str, k_bool_list, k_bool_tuple, k_str_none, k_str_bool, k_str_int, k_str_str, k_str_list, k_str_tuple, k_list_none, k_list_bool, k_list_int, k_list_str, k_list_list, k_list_tuple, k_tuple_none, k_tuple_bool, k_tuple_int, k_tuple_str, k_tuple_list, k_tuple_tuple, k_dict_none, k_dict_bool, k_dict_int, k_dict_str, k_dict_list, k_dict_tuple, Int.cast_ofNat_Int, Nat.reduceAdd, Nat.reduceLeDiff, e_lc, e_iseq, seqI_fl, seqI_ft, seqI_ol, seqI_ot, lcS1, lcN1, val_fz, val_ow, t_true, wipe0, wipe1, mkL1, noX1, loopS1, loop_nx, loop_ct, loop_bk, loop_rt, loop_exc, e_for, v_allD, v_anyD, bools_map, ints_map, bools0, bools1, ints0, ints1, size_eq, decide_true, decide_false, true_or, or_true, eq_self, and_true, true_and, List.all_cons, List.all_nil, List.any_cons, List.any_nil, id_eq, isN, List.map_cons, List.map_nil, List.length_cons, List.length_nil, List.getElem?_cons_zero, List.getElem?_cons_succ, List.set_cons_zero, List.set_cons_succ, decide_eq_true_eq, if_true, Bool.or_true, Bool.true_or, Bool.and_true, Bool.true_and, Bool.false_eq_true, if_false, Bool.not_true, Bool.not_false, Bool.or_false, Bool.false_or, Bool.and_false, Bool.false_and, BEq.rfl, e_sortK, k_sortK, e_lc2, k_lc2c, mkD1, e_dc, k_dc, e_dc0, e_stD, stD1, o_stD1f, o_stD1o, o_stD2, e_slk, lk1, e_elk, lke1, unlO_nx, unlO_bk, unlO_ct, unlO_rt, unl_nil, unl_cons, unl1_no, unl1_fz, unl1_ow, unl1_lk, e_items, items1, e_keysD, keysD1, e_en, k_enL, k_enT, k_enO, e_zp, k_zp, e_fnL, k_fnL, e_fnL0, e_fnC, e_fnC0, callC1, k_C, outC1, v_ixTA, v_ixLA, bind_some, boolsM, all_mapI, any_mapI, allT, e_app, app1, o_appf, o_appo, e_frz, frzo1, frzo2, pl_snug h hs, indep, pure?]
  have cB : cmpD (.list (((lots (tiles n m)).filter fun l => !l.isEmpty && (snugB F' n m l && !snugB F n m l)).map lotT)) = true := cmp_lots fun l hl => hsub l (List.mem_filter.mp hl).1
  have rest : ∃ f2 f3 f4 f5 f6 f7, gLap [none, some (.fz d), e2, e3, e4, e5, e6, e7, none] w = .nx [none, some (.fz d), f2, f3, f4, f5, f6, f7, none] w2 := by
    have tl : telling F F' n m = (lots (tiles n m)).find? fun l => !l.isEmpty && (snugB F' n m l && !snugB F n m l) := rfl
    unfold gLap
    simp only [k_op1, k_op2, k_un, k_call, k_b, k_and, k_or, k_not, k_eand, k_eor, k_enot, k_if, k_c1, k_c2, k_c3, k_cons1, k_cons2, k_tup, k_lst, k_fn, k_fnS, k_fnK, k_isi, k_sl1, k_sl2, k_sl3, k_i, o_sx, o_ret, o_if, o_set, o_asg, o_par2, o_par3, o_stS, o_stT, o_for, k_seq, k_rg1, k_rg2, e_rg1, e_rg2, rg1_1, rg2_1, k_lc, k_lt, k_le, k_lc2, k_fnF, e_fnF, run1, e_seq, seq_nx, seq_rt, seq_ct, seq_bk, fin_nx, fin_rt, given_fz, given_ow, given_bw, e_var, e_op, e_un, e_call, e_c, lift1, e_asB, toB1, e_tand, e_tor, e_tnot, e_and, e_or, e_not, e_if, e_chain, chn1, e_nil, e_cons, e_tup, e_lst, e_fn, e_fnS, e_fnK, e_isi, isiR1, outR1, outS1, e_stG, e_sl, b_no, b_so, toI1, e_no, e_sx, e_ret, e_retN, e_sif, put_fz, put_ow, nxO1, e_set, asg_fz, asg_ow, e_asg, g_nm, g_nl, g_cn, obind1, g_tuT, g_tuL, e_par2, e_par3, stO1, e_stS, e_stT, bind1, ofR1, d_fz, d_ow, d_bw, frz_fz, frz_ow, frz_bw, nb_nil, nb_fz, nb_ow, nb_bw, v_add, v_sub, v_neg, v_lt, v_gt, v_le, v_ge, v_is, v_isNot, v_eqS, v_neS, v_eq, v_ne, v_eqB, v_neB, v_ixT, v_ixL, at0, at1, at2, at3, at4, at5, map1, v_lenL, v_lenT, v_abs, v_int, v_intB, v_max2, v_min2, v_max3, v_min3, v_tupL, v_tupT, v_lstL, v_lstT, k_int_none, k_int_bool, k_int_int, k_int_str, k_int_list, k_int_tuple, k_bool_none, k_bool_bool, k_bool_int, k_bool_str, k_bool_list, k_bool_tuple, k_str_none, k_str_bool, k_str_int, k_str_str, k_str_list, k_str_tuple, k_list_none, k_list_bool, k_list_int, k_list_str, k_list_list, k_list_tuple, k_tuple_none, k_tuple_bool, k_tuple_int, k_tuple_str, k_tuple_list, k_tuple_tuple, k_dict_none, k_dict_bool, k_dict_int, k_dict_str, k_dict_list, k_dict_tuple, Int.cast_ofNat_Int, Nat.reduceAdd, Nat.reduceLeDiff, e_lc, e_iseq, seqI_fl, seqI_ft, seqI_ol, seqI_ot, lcS1, lcN1, val_fz, val_ow, t_true, wipe0, wipe1, mkL1, noX1, loopS1, loop_nx, loop_ct, loop_bk, loop_rt, loop_exc, e_for, v_allD, v_anyD, bools_map, ints_map, bools0, bools1, ints0, ints1, size_eq, decide_true, decide_false, true_or, or_true, eq_self, and_true, true_and, List.all_cons, List.all_nil, List.any_cons, List.any_nil, id_eq, isN, List.map_cons, List.map_nil, List.length_cons, List.length_nil, List.getElem?_cons_zero, List.getElem?_cons_succ, List.set_cons_zero, List.set_cons_succ, decide_eq_true_eq, if_true, Bool.or_true, Bool.true_or, Bool.and_true, Bool.true_and, Bool.false_eq_true, if_false, Bool.not_true, Bool.not_false, Bool.or_false, Bool.false_or, Bool.and_false, Bool.false_and, BEq.rfl, e_sortK, k_sortK, e_lc2, k_lc2c, mkD1, e_dc, k_dc, e_dc0, e_stD, stD1, o_stD1f, o_stD1o, o_stD2, e_slk, lk1, e_elk, lke1, unlO_nx, unlO_bk, unlO_ct, unlO_rt, unl_nil, unl_cons, unl1_no, unl1_fz, unl1_ow, unl1_lk, e_items, items1, e_keysD, keysD1, e_en, k_enL, k_enT, k_enO, e_zp, k_zp, e_fnL, k_fnL, e_fnL0, e_fnC, e_fnC0, callC1, k_C, outC1, v_ixTA, v_ixLA, bind_some, boolsM, all_mapI, any_mapI, allT, e_app, app1, o_appf, o_appo, e_frz, frzo1, frzo2, q1, q2, pl_snugs h' c, indep, pure?, lc, List.length_map, hB]
    rcases head_filter (q := fun l => !l.isEmpty && (snugB F' n m l && !snugB F n m l)) (l := lots (tiles n m)) with ⟨x, r, e1, e2⟩ | ⟨e1, e2⟩
    · rw [e1, List.map_cons] at cB
      have ne := v_neNilL cB
      have eq := v_eqNilL cB
      have sx : Sm x := hsub x (List.mem_of_find?_eq_some e2)
      have lx : x.length ≤ 24 := by
        have := (mem_lots.mp (List.mem_of_find?_eq_some e2)).length_le
        rw [tiles_len] at this
        omega
      have rp := v_reprL (ds := [.list [.bool false, lotT x], .list [.bool false, lotT x]]) (by simp [tdy, tdys, tdy_prs sx]) (by have := depth_lot x; simp only [PyData.depth, PyData.depthAll] at *; omega) (by simp only [PyData.bulk, PyData.bulkAll, bulk_prs]; omega)
      rw [e1]
      simp only [k_op1, k_op2, k_un, k_call, k_b, k_and, k_or, k_not, k_eand, k_eor, k_enot, k_if, k_c1, k_c2, k_c3, k_cons1, k_cons2, k_tup, k_lst, k_fn, k_fnS, k_fnK, k_isi, k_sl1, k_sl2, k_sl3, k_i, o_sx, o_ret, o_if, o_set, o_asg, o_par2, o_par3, o_stS, o_stT, o_for, k_seq, k_rg1, k_rg2, e_rg1, e_rg2, rg1_1, rg2_1, k_lc, k_lt, k_le, k_lc2, k_fnF, e_fnF, run1, e_seq, seq_nx, seq_rt, seq_ct, seq_bk, fin_nx, fin_rt, given_fz, given_ow, given_bw, e_var, e_op, e_un, e_call, e_c, lift1, e_asB, toB1, e_tand, e_tor, e_tnot, e_and, e_or, e_not, e_if, e_chain, chn1, e_nil, e_cons, e_tup, e_lst, e_fn, e_fnS, e_fnK, e_isi, isiR1, outR1, outS1, e_stG, e_sl, b_no, b_so, toI1, e_no, e_sx, e_ret, e_retN, e_sif, put_fz, put_ow, nxO1, e_set, asg_fz, asg_ow, e_asg, g_nm, g_nl, g_cn, obind1, g_tuT, g_tuL, e_par2, e_par3, stO1, e_stS, e_stT, bind1, ofR1, d_fz, d_ow, d_bw, frz_fz, frz_ow, frz_bw, nb_nil, nb_fz, nb_ow, nb_bw, v_add, v_sub, v_neg, v_lt, v_gt, v_le, v_ge, v_is, v_isNot, v_eqS, v_neS, v_eq, v_ne, v_eqB, v_neB, v_ixT, v_ixL, at0, at1, at2, at3, at4, at5, map1, v_lenL, v_lenT, v_abs, v_int, v_intB, v_max2, v_min2, v_max3, v_min3, v_tupL, v_tupT, v_lstL, v_lstT, k_int_none, k_int_bool, k_int_int, k_int_str, k_int_list, k_int_tuple, k_bool_none, k_bool_bool, k_bool_int, k_bool_str, k_bool_list, k_bool_tuple, k_str_none, k_str_bool, k_str_int, k_str_str, k_str_list, k_str_tuple, k_list_none, k_list_bool, k_list_int, k_list_str, k_list_list, k_list_tuple, k_tuple_none, k_tuple_bool, k_tuple_int, k_tuple_str, k_tuple_list, k_tuple_tuple, k_dict_none, k_dict_bool, k_dict_int, k_dict_str, k_dict_list, k_dict_tuple, Int.cast_ofNat_Int, Nat.reduceAdd, Nat.reduceLeDiff, e_lc, e_iseq, seqI_fl, seqI_ft, seqI_ol, seqI_ot, lcS1, lcN1, val_fz, val_ow, t_true, wipe0, wipe1, mkL1, noX1, loopS1, loop_nx, loop_ct, loop_bk, loop_rt, loop_exc, e_for, v_allD, v_anyD, bools_map, ints_map, bools0, bools1, ints0, ints1, size_eq, decide_true, decide_false, true_or, or_true, eq_self, and_true, true_and, List.all_cons, List.all_nil, List.any_cons, List.any_nil, id_eq, isN, List.map_cons, List.map_nil, List.length_cons, List.length_nil, List.getElem?_cons_zero, List.getElem?_cons_succ, List.set_cons_zero, List.set_cons_succ, decide_eq_true_eq, if_true, Bool.or_true, Bool.true_or, Bool.and_true, Bool.true_and, Bool.false_eq_true, if_false, Bool.not_true, Bool.not_false, Bool.or_false, Bool.false_or, Bool.and_false, Bool.false_and, BEq.rfl, e_sortK, k_sortK, e_lc2, k_lc2c, mkD1, e_dc, k_dc, e_dc0, e_stD, stD1, o_stD1f, o_stD1o, o_stD2, e_slk, lk1, e_elk, lke1, unlO_nx, unlO_bk, unlO_ct, unlO_rt, unl_nil, unl_cons, unl1_no, unl1_fz, unl1_ow, unl1_lk, e_items, items1, e_keysD, keysD1, e_en, k_enL, k_enT, k_enO, e_zp, k_zp, e_fnL, k_fnL, e_fnL0, e_fnC, e_fnC0, callC1, k_C, outC1, v_ixTA, v_ixLA, bind_some, boolsM, all_mapI, any_mapI, allT, e_app, app1, o_appf, o_appo, e_frz, frzo1, frzo2, eq, ne, List.isEmpty_cons, p_drier h h' c, p_telling h h' c, tl, e2, tellD, Option.isNone_some, indep, pure?, pure_tell, pures_prs, pick, List.filterMap_cons, List.filterMap_nil, rp, v_neS]
      exact ⟨_, _, _, _, _, _, rfl⟩
    · rw [e1, List.map_nil] at cB
      have ne := v_neNilL cB
      have eq := v_eqNilL cB
      have rp := v_reprL (ds := [.list [.bool true, .none], .list [.bool true, .none]]) (by simp [tdy, tdys]) (by simp [PyData.depth, PyData.depthAll]) (by simp [PyData.bulk, PyData.bulkAll])
      rw [e1]
      simp only [k_op1, k_op2, k_un, k_call, k_b, k_and, k_or, k_not, k_eand, k_eor, k_enot, k_if, k_c1, k_c2, k_c3, k_cons1, k_cons2, k_tup, k_lst, k_fn, k_fnS, k_fnK, k_isi, k_sl1, k_sl2, k_sl3, k_i, o_sx, o_ret, o_if, o_set, o_asg, o_par2, o_par3, o_stS, o_stT, o_for, k_seq, k_rg1, k_rg2, e_rg1, e_rg2, rg1_1, rg2_1, k_lc, k_lt, k_le, k_lc2, k_fnF, e_fnF, run1, e_seq, seq_nx, seq_rt, seq_ct, seq_bk, fin_nx, fin_rt, given_fz, given_ow, given_bw, e_var, e_op, e_un, e_call, e_c, lift1, e_asB, toB1, e_tand, e_tor, e_tnot, e_and, e_or, e_not, e_if, e_chain, chn1, e_nil, e_cons, e_tup, e_lst, e_fn, e_fnS, e_fnK, e_isi, isiR1, outR1, outS1, e_stG, e_sl, b_no, b_so, toI1, e_no, e_sx, e_ret, e_retN, e_sif, put_fz, put_ow, nxO1, e_set, asg_fz, asg_ow, e_asg, g_nm, g_nl, g_cn, obind1, g_tuT, g_tuL, e_par2, e_par3, stO1, e_stS, e_stT, bind1, ofR1, d_fz, d_ow, d_bw, frz_fz, frz_ow, frz_bw, nb_nil, nb_fz, nb_ow, nb_bw, v_add, v_sub, v_neg, v_lt, v_gt, v_le, v_ge, v_is, v_isNot, v_eqS, v_neS, v_eq, v_ne, v_eqB, v_neB, v_ixT, v_ixL, at0, at1, at2, at3, at4, at5, map1, v_lenL, v_lenT, v_abs, v_int, v_intB, v_max2, v_min2, v_max3, v_min3, v_tupL, v_tupT, v_lstL, v_lstT, k_int_none, k_int_bool, k_int_int, k_int_str, k_int_list, k_int_tuple, k_bool_none, k_bool_bool, k_bool_int, k_bool_str, k_bool_list, k_bool_tuple, k_str_none, k_str_bool, k_str_int, k_str_str, k_str_list, k_str_tuple, k_list_none, k_list_bool, k_list_int, k_list_str, k_list_list, k_list_tuple, k_tuple_none, k_tuple_bool, k_tuple_int, k_tuple_str, k_tuple_list, k_tuple_tuple, k_dict_none, k_dict_bool, k_dict_int, k_dict_str, k_dict_list, k_dict_tuple, Int.cast_ofNat_Int, Nat.reduceAdd, Nat.reduceLeDiff, e_lc, e_iseq, seqI_fl, seqI_ft, seqI_ol, seqI_ot, lcS1, lcN1, val_fz, val_ow, t_true, wipe0, wipe1, mkL1, noX1, loopS1, loop_nx, loop_ct, loop_bk, loop_rt, loop_exc, e_for, v_allD, v_anyD, bools_map, ints_map, bools0, bools1, ints0, ints1, size_eq, decide_true, decide_false, true_or, or_true, eq_self, and_true, true_and, List.all_cons, List.all_nil, List.any_cons, List.any_nil, id_eq, isN, List.map_cons, List.map_nil, List.length_cons, List.length_nil, List.getElem?_cons_zero, List.getElem?_cons_succ, List.set_cons_zero, List.set_cons_succ, decide_eq_true_eq, if_true, Bool.or_true, Bool.true_or, Bool.and_true, Bool.true_and, Bool.false_eq_true, if_false, Bool.not_true, Bool.not_false, Bool.or_false, Bool.false_or, Bool.and_false, Bool.false_and, BEq.rfl, e_sortK, k_sortK, e_lc2, k_lc2c, mkD1, e_dc, k_dc, e_dc0, e_stD, stD1, o_stD1f, o_stD1o, o_stD2, e_slk, lk1, e_elk, lke1, unlO_nx, unlO_bk, unlO_ct, unlO_rt, unl_nil, unl_cons, unl1_no, unl1_fz, unl1_ow, unl1_lk, e_items, items1, e_keysD, keysD1, e_en, k_enL, k_enT, k_enO, e_zp, k_zp, e_fnL, k_fnL, e_fnL0, e_fnC, e_fnC0, callC1, k_C, outC1, v_ixTA, v_ixLA, bind_some, boolsM, all_mapI, any_mapI, allT, e_app, app1, o_appf, o_appo, e_frz, frzo1, frzo2, eq, ne, List.isEmpty_nil, p_drier h h' c, p_telling h h' c, tl, e2, tellD, Option.isNone_none, indep, pure?, pick, List.filterMap_cons, List.filterMap_nil, rp, v_neS]
      exact ⟨_, _, _, _, _, _, rfl⟩
  obtain ⟨f2, f3, f4, f5, f6, f7, e⟩ := rest
  exact ⟨f2, f3, f4, f5, f6, f7, w2, e, hw2⟩
theorem p_right (w : List Int) (h : W3 w) : ∃ w', S__law_right [] [] w = .ok (.fz (.bool true), w') := by
  rw [u__law_right]
  unfold g__law_right
  obtain ⟨ρ', w', e, ⟨x1, x2, x3, x4, x5, x6, x7, rfl⟩, _⟩ := loop_all (b := gNm 1) (g := gLap) (P := fun ρ w => (∃ e1 e2 e3 e4 e5 e6 e7, ρ = [none, e1, e2, e3, e4, e5, e6, e7, none]) ∧ W3 w) (ds := rngD 0 8)
    (ρ := [none, none, none, none, none, none, none, none, none]) (w := w) (by
      rintro lap _ ρ w ⟨⟨e1, e2, e3, e4, e5, e6, e7, rfl⟩, hw⟩
      obtain ⟨f2, f3, f4, f5, f6, f7, w', h1, h2⟩ := p_lap lap e2 e3 e4 e5 e6 e7 w hw
      exact ⟨_, _, w', rfl, h1, ⟨_, _, _, _, _, _, _, rfl⟩, h2⟩) ⟨⟨_, _, _, _, _, _, _, rfl⟩, h⟩
  have r1 : rngOk 8 = true := by decide
  unfold gLap at e
  simp only [k_op1, k_op2, k_un, k_call, k_b, k_and, k_or, k_not, k_eand, k_eor, k_enot, k_if, k_c1, k_c2, k_c3, k_cons1, k_cons2, k_tup, k_lst, k_fn, k_fnS, k_fnK, k_isi, k_sl1, k_sl2, k_sl3, k_i, o_sx, o_ret, o_if, o_set, o_asg, o_par2, o_par3, o_stS, o_stT, o_for, k_seq, k_rg1, k_rg2, e_rg1, e_rg2, rg1_1, rg2_1, k_lc, k_lt, k_le, k_lc2, k_fnF, e_fnF, run1, e_seq, seq_nx, seq_rt, seq_ct, seq_bk, fin_nx, fin_rt, given_fz, given_ow, given_bw, e_var, e_op, e_un, e_call, e_c, lift1, e_asB, toB1, e_tand, e_tor, e_tnot, e_and, e_or, e_not, e_if, e_chain, chn1, e_nil, e_cons, e_tup, e_lst, e_fn, e_fnS, e_fnK, e_isi, isiR1, outR1, outS1, e_stG, e_sl, b_no, b_so, toI1, e_no, e_sx, e_ret, e_retN, e_sif, put_fz, put_ow, nxO1, e_set, asg_fz, asg_ow, e_asg, g_nm, g_nl, g_cn, obind1, g_tuT, g_tuL, e_par2, e_par3, stO1, e_stS, e_stT, bind1, ofR1, d_fz, d_ow, d_bw, frz_fz, frz_ow, frz_bw, nb_nil, nb_fz, nb_ow, nb_bw, v_add, v_sub, v_neg, v_lt, v_gt, v_le, v_ge, v_is, v_isNot, v_eqS, v_neS, v_eq, v_ne, v_eqB, v_neB, v_ixT, v_ixL, at0, at1, at2, at3, at4, at5, map1, v_lenL, v_lenT, v_abs, v_int, v_intB, v_max2, v_min2, v_max3, v_min3, v_tupL, v_tupT, v_lstL, v_lstT, k_int_none, k_int_bool, k_int_int, k_int_str, k_int_list, k_int_tuple, k_bool_none, k_bool_bool, k_bool_int, k_bool_str, k_bool_list, k_bool_tuple, k_str_none, k_str_bool, k_str_int, k_str_str, k_str_list, k_str_tuple, k_list_none, k_list_bool, k_list_int, k_list_str, k_list_list, k_list_tuple, k_tuple_none, k_tuple_bool, k_tuple_int, k_tuple_str, k_tuple_list, k_tuple_tuple, k_dict_none, k_dict_bool, k_dict_int, k_dict_str, k_dict_list, k_dict_tuple, Int.cast_ofNat_Int, Nat.reduceAdd, Nat.reduceLeDiff, e_lc, e_iseq, seqI_fl, seqI_ft, seqI_ol, seqI_ot, lcS1, lcN1, val_fz, val_ow, t_true, wipe0, wipe1, mkL1, noX1, loopS1, loop_nx, loop_ct, loop_bk, loop_rt, loop_exc, e_for, v_allD, v_anyD, bools_map, ints_map, bools0, bools1, ints0, ints1, size_eq, decide_true, decide_false, true_or, or_true, eq_self, and_true, true_and, List.all_cons, List.all_nil, List.any_cons, List.any_nil, id_eq, isN, List.map_cons, List.map_nil, List.length_cons, List.length_nil, List.getElem?_cons_zero, List.getElem?_cons_succ, List.set_cons_zero, List.set_cons_succ, decide_eq_true_eq, if_true, Bool.or_true, Bool.true_or, Bool.and_true, Bool.true_and, Bool.false_eq_true, if_false, Bool.not_true, Bool.not_false, Bool.or_false, Bool.false_or, Bool.and_false, Bool.false_and, BEq.rfl, e_sortK, k_sortK, e_lc2, k_lc2c, mkD1, e_dc, k_dc, e_dc0, e_stD, stD1, o_stD1f, o_stD1o, o_stD2, e_slk, lk1, e_elk, lke1, unlO_nx, unlO_bk, unlO_ct, unlO_rt, unl_nil, unl_cons, unl1_no, unl1_fz, unl1_ow, unl1_lk, e_items, items1, e_keysD, keysD1, e_en, k_enL, k_enT, k_enO, e_zp, k_zp, e_fnL, k_fnL, e_fnL0, e_fnC, e_fnC0, callC1, k_C, outC1, v_ixTA, v_ixLA, bind_some, boolsM, all_mapI, any_mapI, allT, e_app, app1, o_appf, o_appo, e_frz, frzo1, frzo2, r1]
  rw [show (8 : Int).toNat = 8 from rfl, e]
  simp only [k_op1, k_op2, k_un, k_call, k_b, k_and, k_or, k_not, k_eand, k_eor, k_enot, k_if, k_c1, k_c2, k_c3, k_cons1, k_cons2, k_tup, k_lst, k_fn, k_fnS, k_fnK, k_isi, k_sl1, k_sl2, k_sl3, k_i, o_sx, o_ret, o_if, o_set, o_asg, o_par2, o_par3, o_stS, o_stT, o_for, k_seq, k_rg1, k_rg2, e_rg1, e_rg2, rg1_1, rg2_1, k_lc, k_lt, k_le, k_lc2, k_fnF, e_fnF, run1, e_seq, seq_nx, seq_rt, seq_ct, seq_bk, fin_nx, fin_rt, given_fz, given_ow, given_bw, e_var, e_op, e_un, e_call, e_c, lift1, e_asB, toB1, e_tand, e_tor, e_tnot, e_and, e_or, e_not, e_if, e_chain, chn1, e_nil, e_cons, e_tup, e_lst, e_fn, e_fnS, e_fnK, e_isi, isiR1, outR1, outS1, e_stG, e_sl, b_no, b_so, toI1, e_no, e_sx, e_ret, e_retN, e_sif, put_fz, put_ow, nxO1, e_set, asg_fz, asg_ow, e_asg, g_nm, g_nl, g_cn, obind1, g_tuT, g_tuL, e_par2, e_par3, stO1, e_stS, e_stT, bind1, ofR1, d_fz, d_ow, d_bw, frz_fz, frz_ow, frz_bw, nb_nil, nb_fz, nb_ow, nb_bw, v_add, v_sub, v_neg, v_lt, v_gt, v_le, v_ge, v_is, v_isNot, v_eqS, v_neS, v_eq, v_ne, v_eqB, v_neB, v_ixT, v_ixL, at0, at1, at2, at3, at4, at5, map1, v_lenL, v_lenT, v_abs, v_int, v_intB, v_max2, v_min2, v_max3, v_min3, v_tupL, v_tupT, v_lstL, v_lstT, k_int_none, k_int_bool, k_int_int, k_int_str, k_int_list, k_int_tuple, k_bool_none, k_bool_bool, k_bool_int, k_bool_str, k_bool_list, k_bool_tuple, k_str_none, k_str_bool, k_str_int, k_str_str, k_str_list, k_str_tuple, k_list_none, k_list_bool, k_list_int, k_list_str, k_list_list, k_list_tuple, k_tuple_none, k_tuple_bool, k_tuple_int, k_tuple_str, k_tuple_list, k_tuple_tuple, k_dict_none, k_dict_bool, k_dict_int, k_dict_str, k_dict_list, k_dict_tuple, Int.cast_ofNat_Int, Nat.reduceAdd, Nat.reduceLeDiff, e_lc, e_iseq, seqI_fl, seqI_ft, seqI_ol, seqI_ot, lcS1, lcN1, val_fz, val_ow, t_true, wipe0, wipe1, mkL1, noX1, loopS1, loop_nx, loop_ct, loop_bk, loop_rt, loop_exc, e_for, v_allD, v_anyD, bools_map, ints_map, bools0, bools1, ints0, ints1, size_eq, decide_true, decide_false, true_or, or_true, eq_self, and_true, true_and, List.all_cons, List.all_nil, List.any_cons, List.any_nil, id_eq, isN, List.map_cons, List.map_nil, List.length_cons, List.length_nil, List.getElem?_cons_zero, List.getElem?_cons_succ, List.set_cons_zero, List.set_cons_succ, decide_eq_true_eq, if_true, Bool.or_true, Bool.true_or, Bool.and_true, Bool.true_and, Bool.false_eq_true, if_false, Bool.not_true, Bool.not_false, Bool.or_false, Bool.false_or, Bool.and_false, Bool.false_and, BEq.rfl, e_sortK, k_sortK, e_lc2, k_lc2c, mkD1, e_dc, k_dc, e_dc0, e_stD, stD1, o_stD1f, o_stD1o, o_stD2, e_slk, lk1, e_elk, lke1, unlO_nx, unlO_bk, unlO_ct, unlO_rt, unl_nil, unl_cons, unl1_no, unl1_fz, unl1_ow, unl1_lk, e_items, items1, e_keysD, keysD1, e_en, k_enL, k_enT, k_enO, e_zp, k_zp, e_fnL, k_fnL, e_fnL0, e_fnC, e_fnC0, callC1, k_C, outC1, v_ixTA, v_ixLA, bind_some, boolsM, all_mapI, any_mapI, allT, e_app, app1, o_appf, o_appo, e_frz, frzo1, frzo2]
  exact ⟨_, rfl⟩
theorem p_law (zs : List Int) : S_law [] [.fz (.list (zs.map PyData.int))] [] = .ok (.fz (.bool true), []) := by
  rw [u_law]
  unfold g_law
  have key : ∀ (n : Nat), lcL (gNm 1) (tTrue) (eFnF S__law_right (aCons (eFn 2 S__law_pail (aCons (eVar 0) (aCons (eVar 1) (aNil)))) (aNil))) ((rngI 0 n).map PyData.int) [some (.fz (.list (zs.map PyData.int))), none] [] = .ok (((rngI 0 n).map (fun _ => true)).map PyData.bool, []) := by
    intro n
    rw [List.map_map]
    refine lc_mapE PyData.int _ fun k hk => ⟨[some (.fz (.list (zs.map PyData.int))), some (.fz (.int k))], .fz (.bool true), rfl, rfl, ?_, rfl⟩
    obtain ⟨x, y, z, e⟩ := p_pail zs k (rngI_mem.mp hk).1 []
    obtain ⟨w', e2⟩ := p_right [x, y, z] ⟨x, y, z, rfl⟩
    simp only [k_op1, k_op2, k_un, k_call, k_b, k_and, k_or, k_not, k_eand, k_eor, k_enot, k_if, k_c1, k_c2, k_c3, k_cons1, k_cons2, k_tup, k_lst, k_fn, k_fnS, k_fnK, k_isi, k_sl1, k_sl2, k_sl3, k_i, o_sx, o_ret, o_if, o_set, o_asg, o_par2, o_par3, o_stS, o_stT, o_for, k_seq, k_rg1, k_rg2, e_rg1, e_rg2, rg1_1, rg2_1, k_lc, k_lt, k_le, k_lc2, k_fnF, e_fnF, run1, e_seq, seq_nx, seq_rt, seq_ct, seq_bk, fin_nx, fin_rt, given_fz, given_ow, given_bw, e_var, e_op, e_un, e_call, e_c, lift1, e_asB, toB1, e_tand, e_tor, e_tnot, e_and, e_or, e_not, e_if, e_chain, chn1, e_nil, e_cons, e_tup, e_lst, e_fn, e_fnS, e_fnK, e_isi, isiR1, outR1, outS1, e_stG, e_sl, b_no, b_so, toI1, e_no, e_sx, e_ret, e_retN, e_sif, put_fz, put_ow, nxO1, e_set, asg_fz, asg_ow, e_asg, g_nm, g_nl, g_cn, obind1, g_tuT, g_tuL, e_par2, e_par3, stO1, e_stS, e_stT, bind1, ofR1, d_fz, d_ow, d_bw, frz_fz, frz_ow, frz_bw, nb_nil, nb_fz, nb_ow, nb_bw, v_add, v_sub, v_neg, v_lt, v_gt, v_le, v_ge, v_is, v_isNot, v_eqS, v_neS, v_eq, v_ne, v_eqB, v_neB, v_ixT, v_ixL, at0, at1, at2, at3, at4, at5, map1, v_lenL, v_lenT, v_abs, v_int, v_intB, v_max2, v_min2, v_max3, v_min3, v_tupL, v_tupT, v_lstL, v_lstT, k_int_none, k_int_bool, k_int_int, k_int_str, k_int_list, k_int_tuple, k_bool_none, k_bool_bool, k_bool_int, k_bool_str, k_bool_list, k_bool_tuple, k_str_none, k_str_bool, k_str_int, k_str_str, k_str_list, k_str_tuple, k_list_none, k_list_bool, k_list_int, k_list_str, k_list_list, k_list_tuple, k_tuple_none, k_tuple_bool, k_tuple_int, k_tuple_str, k_tuple_list, k_tuple_tuple, k_dict_none, k_dict_bool, k_dict_int, k_dict_str, k_dict_list, k_dict_tuple, Int.cast_ofNat_Int, Nat.reduceAdd, Nat.reduceLeDiff, e_lc, e_iseq, seqI_fl, seqI_ft, seqI_ol, seqI_ot, lc_step, lc_nil, lcS1, lcN1, val_fz, val_ow, t_true, wipe0, wipe1, mkL1, noX1, loop_step, loop_nil, loopS1, loop_nx, loop_ct, loop_bk, loop_rt, loop_exc, e_for, v_allD, v_anyD, bools_map, ints_map, bools0, bools1, ints0, ints1, size_eq, decide_true, decide_false, true_or, or_true, eq_self, and_true, true_and, List.all_cons, List.all_nil, List.any_cons, List.any_nil, id_eq, isN, List.map_cons, List.map_nil, List.length_cons, List.length_nil, List.getElem?_cons_zero, List.getElem?_cons_succ, List.set_cons_zero, List.set_cons_succ, decide_eq_true_eq, if_true, Bool.or_true, Bool.true_or, Bool.and_true, Bool.true_and, Bool.false_eq_true, if_false, Bool.not_true, Bool.not_false, Bool.or_false, Bool.false_or, Bool.and_false, Bool.false_and, BEq.rfl, e_sortK, k_sortK, e_lc2, k_lc2c, mkD1, e_dc, k_dc, e_dc0, e_stD, stD1, o_stD1f, o_stD1o, o_stD2, e_slk, lk1, e_elk, lke1, unlO_nx, unlO_bk, unlO_ct, unlO_rt, unl_nil, unl_cons, unl1_no, unl1_fz, unl1_ow, unl1_lk, e_items, items1, e_keysD, keysD1, e_en, k_enL, k_enT, k_enO, e_zp, k_zp, e_fnL, k_fnL, e_fnL0, e_fnC, e_fnC0, callC1, k_C, outC1, v_ixTA, v_ixLA, bind_some, boolsM, all_mapI, any_mapI, allT, e_app, app1, o_appf, o_appo, e_frz, frzo1, frzo2, e_fnF, e, e2]
  have alls : ∀ n : Nat, ((rngI 0 n).map (fun _ => true)).all id = true := fun n => by
    rw [List.all_eq_true]
    intro b hb
    obtain ⟨_, _, rfl⟩ := List.mem_map.mp hb
    rfl
  have r1 : rngOk (if (if (3 : Int) < (zs.length : Int) then 3 else (zs.length : Int)) > 2 then (if (3 : Int) < (zs.length : Int) then 3 else (zs.length : Int)) else 2) = true := by
    apply rng_ok <;> (split <;> split <;> omega)
  have f1 : (if (if (3 : Int) < (zs.length : Int) then 3 else (zs.length : Int)) > 2 then (if (3 : Int) < (zs.length : Int) then 3 else (zs.length : Int)) else 2).toNat ≤ 16777216 := by split <;> split <;> omega
  simp only [k_op1, k_op2, k_un, k_call, k_b, k_and, k_or, k_not, k_eand, k_eor, k_enot, k_if, k_c1, k_c2, k_c3, k_cons1, k_cons2, k_tup, k_lst, k_fn, k_fnS, k_fnK, k_isi, k_sl1, k_sl2, k_sl3, k_i, o_sx, o_ret, o_if, o_set, o_asg, o_par2, o_par3, o_stS, o_stT, o_for, k_seq, k_rg1, k_rg2, e_rg1, e_rg2, rg1_1, rg2_1, k_lc, k_lt, k_le, k_lc2, k_fnF, e_fnF, run1, e_seq, seq_nx, seq_rt, seq_ct, seq_bk, fin_nx, fin_rt, given_fz, given_ow, given_bw, e_var, e_op, e_un, e_call, e_c, lift1, e_asB, toB1, e_tand, e_tor, e_tnot, e_and, e_or, e_not, e_if, e_chain, chn1, e_nil, e_cons, e_tup, e_lst, e_fn, e_fnS, e_fnK, e_isi, isiR1, outR1, outS1, e_stG, e_sl, b_no, b_so, toI1, e_no, e_sx, e_ret, e_retN, e_sif, put_fz, put_ow, nxO1, e_set, asg_fz, asg_ow, e_asg, g_nm, g_nl, g_cn, obind1, g_tuT, g_tuL, e_par2, e_par3, stO1, e_stS, e_stT, bind1, ofR1, d_fz, d_ow, d_bw, frz_fz, frz_ow, frz_bw, nb_nil, nb_fz, nb_ow, nb_bw, v_add, v_sub, v_neg, v_lt, v_gt, v_le, v_ge, v_is, v_isNot, v_eqS, v_neS, v_eq, v_ne, v_eqB, v_neB, v_ixT, v_ixL, at0, at1, at2, at3, at4, at5, map1, v_lenL, v_lenT, v_abs, v_int, v_intB, v_max2, v_min2, v_max3, v_min3, v_tupL, v_tupT, v_lstL, v_lstT, k_int_none, k_int_bool, k_int_int, k_int_str, k_int_list, k_int_tuple, k_bool_none, k_bool_bool, k_bool_int, k_bool_str, k_bool_list, k_bool_tuple, k_str_none, k_str_bool, k_str_int, k_str_str, k_str_list, k_str_tuple, k_list_none, k_list_bool, k_list_int, k_list_str, k_list_list, k_list_tuple, k_tuple_none, k_tuple_bool, k_tuple_int, k_tuple_str, k_tuple_list, k_tuple_tuple, k_dict_none, k_dict_bool, k_dict_int, k_dict_str, k_dict_list, k_dict_tuple, Int.cast_ofNat_Int, Nat.reduceAdd, Nat.reduceLeDiff, e_lc, e_iseq, seqI_fl, seqI_ft, seqI_ol, seqI_ot, lc_step, lc_nil, lcS1, lcN1, val_fz, val_ow, t_true, wipe0, wipe1, mkL1, noX1, loop_step, loop_nil, loopS1, loop_nx, loop_ct, loop_bk, loop_rt, loop_exc, e_for, v_allD, v_anyD, bools_map, ints_map, bools0, bools1, ints0, ints1, size_eq, decide_true, decide_false, true_or, or_true, eq_self, and_true, true_and, List.all_cons, List.all_nil, List.any_cons, List.any_nil, id_eq, isN, List.map_cons, List.map_nil, List.length_cons, List.length_nil, List.getElem?_cons_zero, List.getElem?_cons_succ, List.set_cons_zero, List.set_cons_succ, decide_eq_true_eq, if_true, Bool.or_true, Bool.true_or, Bool.and_true, Bool.true_and, Bool.false_eq_true, if_false, Bool.not_true, Bool.not_false, Bool.or_false, Bool.false_or, Bool.and_false, Bool.false_and, BEq.rfl, e_sortK, k_sortK, e_lc2, k_lc2c, mkD1, e_dc, k_dc, e_dc0, e_stD, stD1, o_stD1f, o_stD1o, o_stD2, e_slk, lk1, e_elk, lke1, unlO_nx, unlO_bk, unlO_ct, unlO_rt, unl_nil, unl_cons, unl1_no, unl1_fz, unl1_ow, unl1_lk, e_items, items1, e_keysD, keysD1, e_en, k_enL, k_enT, k_enO, e_zp, k_zp, e_fnL, k_fnL, e_fnL0, e_fnC, e_fnC0, callC1, k_C, outC1, v_ixTA, v_ixLA, bind_some, boolsM, all_mapI, any_mapI, allT, e_app, app1, o_appf, o_appo, e_frz, frzo1, frzo2, e_rg1, rg1_1, List.length_map, r1, rngD_map, key, rngI_len, f1, v_all, alls]
end Dk31
namespace Dk31
open PySem PySem.Spec PyProof.Rows L2 DL
/-! what the walk leans on -/
structure Wd (mg : PySem.Str → Option Value) (K : PySem.W.Frag) (q : Nat → FuncData) : Prop where
  m_abs : mg "abs" = none
  m_all : mg "all" = none
  m_bool : mg "bool" = none
  m_divmod : mg "divmod" = none
  m_int : mg "int" = none
  m_isinstance : mg "isinstance" = none
  m_len : mg "len" = none
  m_max : mg "max" = none
  m_min : mg "min" = none
  m_range : mg "range" = none
  m_repr : mg "repr" = none
  m_sorted : mg "sorted" = none
  m_tuple : mg "tuple" = none
  c_FEW_TILES : ∃ t, mg "FEW_TILES" = some (.int 12 t)
  c_MOST_NEED : ∃ t, mg "MOST_NEED" = some (.int 5 t)
  c_MOST_ROWS : ∃ t, mg "MOST_ROWS" = some (.int 6 t)
  c_MOST_TILES : ∃ t, mg "MOST_TILES" = some (.int 24 t)
  c_MOST_WIDE : ∃ t, mg "MOST_WIDE" = some (.int 6 t)
  g_is_whole : mg "is_whole" = some (.ref (He.ga K "is_whole"))
  d_is_whole : FunD K "is_whole" "is_whole" (defArgs (top 6)) (defBody (top 6)) (defScope (top 6)) [] [] (He.ga K "is_whole") (q 0)
  g_is_number : mg "is_number" = some (.ref (He.ga K "is_number"))
  d_is_number : FunD K "is_number" "is_number" (defArgs (top 7)) (defBody (top 7)) (defScope (top 7)) [] [] (He.ga K "is_number") (q 1)
  g_is_tuple_of : mg "is_tuple_of" = some (.ref (He.ga K "is_tuple_of"))
  d_is_tuple_of : FunD K "is_tuple_of" "is_tuple_of" (defArgs (top 8)) (defBody (top 8)) (defScope (top 8)) [] [] (He.ga K "is_tuple_of") (q 2)
  g_by_many : mg "by_many" = some (.ref (He.ga K "by_many"))
  d_by_many : FunD K "by_many" "by_many" (defArgs (top 9)) (defBody (top 9)) (defScope (top 9)) [] [] (He.ga K "by_many") (q 3)
  g_every_lot : mg "every_lot" = some (.ref (He.ga K "every_lot"))
  d_every_lot : FunD K "every_lot" "every_lot" (defArgs (top 10)) (defBody (top 10)) (defScope (top 10)) [] [] (He.ga K "every_lot") (q 4)
  g_is_floor_form : mg "is_floor_form" = some (.ref (He.ga K "is_floor_form"))
  d_is_floor_form : FunD K "is_floor_form" "is_floor_form" (defArgs (top 17)) (defBody (top 17)) (defScope (top 17)) [] [] (He.ga K "is_floor_form") (q 5)
  g_is_tile_of : mg "is_tile_of" = some (.ref (He.ga K "is_tile_of"))
  d_is_tile_of : FunD K "is_tile_of" "is_tile_of" (defArgs (top 18)) (defBody (top 18)) (defScope (top 18)) [] [] (He.ga K "is_tile_of") (q 6)
  g_is_tile : mg "is_tile" = some (.ref (He.ga K "is_tile"))
  d_is_tile : FunD K "is_tile" "is_tile" (defArgs (top 19)) (defBody (top 19)) (defScope (top 19)) [] [] (He.ga K "is_tile") (q 7)
  g_size_of : mg "size_of" = some (.ref (He.ga K "size_of"))
  d_size_of : FunD K "size_of" "size_of" (defArgs (top 20)) (defBody (top 20)) (defScope (top 20)) [] [] (He.ga K "size_of") (q 8)
  g_tiles_of : mg "tiles_of" = some (.ref (He.ga K "tiles_of"))
  d_tiles_of : FunD K "tiles_of" "tiles_of" (defArgs (top 21)) (defBody (top 21)) (defScope (top 21)) [] [] (He.ga K "tiles_of") (q 9)
  g_need_in : mg "need_in" = some (.ref (He.ga K "need_in"))
  d_need_in : FunD K "need_in" "need_in" (defArgs (top 22)) (defBody (top 22)) (defScope (top 22)) [] [] (He.ga K "need_in") (q 10)
  g_beside_of : mg "beside_of" = some (.ref (He.ga K "beside_of"))
  d_beside_of : FunD K "beside_of" "beside_of" (defArgs (top 23)) (defBody (top 23)) (defScope (top 23)) [] [] (He.ga K "beside_of") (q 11)
  g_web_of : mg "web_of" = some (.ref (He.ga K "web_of"))
  d_web_of : FunD K "web_of" "web_of" (defArgs (top 24)) (defBody (top 24)) (defScope (top 24)) [] [] (He.ga K "web_of") (q 12)
  g_check_floor : mg "check_floor" = some (.ref (He.ga K "check_floor"))
  d_check_floor : FunD K "check_floor" "check_floor" (defArgs (top 26)) (defBody (top 26)) (defScope (top 26)) [] [] (He.ga K "check_floor") (q 13)
  g_check_few : mg "check_few" = some (.ref (He.ga K "check_few"))
  d_check_few : FunD K "check_few" "check_few" (defArgs (top 27)) (defBody (top 27)) (defScope (top 27)) [] [] (He.ga K "check_few") (q 14)
  g_check_like : mg "check_like" = some (.ref (He.ga K "check_like"))
  d_check_like : FunD K "check_like" "check_like" (defArgs (top 28)) (defBody (top 28)) (defScope (top 28)) [] [] (He.ga K "check_like") (q 15)
  g_check_two : mg "check_two" = some (.ref (He.ga K "check_two"))
  d_check_two : FunD K "check_two" "check_two" (defArgs (top 29)) (defBody (top 29)) (defScope (top 29)) [] [] (He.ga K "check_two") (q 16)
  g_lots_of : mg "lots_of" = some (.ref (He.ga K "lots_of"))
  d_lots_of : FunD K "lots_of" "lots_of" (defArgs (top 31)) (defBody (top 31)) (defScope (top 31)) [] [] (He.ga K "lots_of") (q 17)
  g_is_snug_by : mg "is_snug_by" = some (.ref (He.ga K "is_snug_by"))
  d_is_snug_by : FunD K "is_snug_by" "is_snug_by" (defArgs (top 33)) (defBody (top 33)) (defScope (top 33)) [] [] (He.ga K "is_snug_by") (q 18)
  g_check_few_two : mg "check_few_two" = some (.ref (He.ga K "check_few_two"))
  d_check_few_two : FunD K "check_few_two" "check_few_two" (defArgs (top 35)) (defBody (top 35)) (defScope (top 35)) [] [] (He.ga K "check_few_two") (q 19)
  g_first_telling : mg "first_telling" = some (.ref (He.ga K "first_telling"))
  d_first_telling : FunD K "first_telling" "first_telling" (defArgs (top 36)) (defBody (top 36)) (defScope (top 36)) [] [] (He.ga K "first_telling") (q 20)
  g_is_drier : mg "is_drier" = some (.ref (He.ga K "is_drier"))
  d_is_drier : FunD K "is_drier" "is_drier" (defArgs (top 37)) (defBody (top 37)) (defScope (top 37)) [] [] (He.ga K "is_drier") (q 21)
  g_telling_lot : mg "telling_lot" = some (.ref (He.ga K "telling_lot"))
  d_telling_lot : FunD K "telling_lot" "telling_lot" (defArgs (top 38)) (defBody (top 38)) (defScope (top 38)) [] [] (He.ga K "telling_lot") (q 22)
  g__law_pail : mg "_law_pail" = some (.ref (He.ga K "_law_pail"))
  d__law_pail : FunD K "_law_pail" "_law_pail" (defArgs (top 40)) (defBody (top 40)) (defScope (top 40)) [] [] (He.ga K "_law_pail") (q 23)
  g__law_deal : mg "_law_deal" = some (.ref (He.ga K "_law_deal"))
  d__law_deal : FunD K "_law_deal" "_law_deal" (defArgs (top 41)) (defBody (top 41)) (defScope (top 41)) [] [] (He.ga K "_law_deal") (q 24)
  g__law_any : mg "_law_any" = some (.ref (He.ga K "_law_any"))
  d__law_any : FunD K "_law_any" "_law_any" (defArgs (top 42)) (defBody (top 42)) (defScope (top 42)) [] [] (He.ga K "_law_any") (q 25)
  g__law_floor : mg "_law_floor" = some (.ref (He.ga K "_law_floor"))
  d__law_floor : FunD K "_law_floor" "_law_floor" (defArgs (top 43)) (defBody (top 43)) (defScope (top 43)) [] [] (He.ga K "_law_floor") (q 26)
  g__law_tiles : mg "_law_tiles" = some (.ref (He.ga K "_law_tiles"))
  d__law_tiles : FunD K "_law_tiles" "_law_tiles" (defArgs (top 44)) (defBody (top 44)) (defScope (top 44)) [] [] (He.ga K "_law_tiles") (q 27)
  g__law_beside : mg "_law_beside" = some (.ref (He.ga K "_law_beside"))
  d__law_beside : FunD K "_law_beside" "_law_beside" (defArgs (top 45)) (defBody (top 45)) (defScope (top 45)) [] [] (He.ga K "_law_beside") (q 28)
  g__law_all_lots : mg "_law_all_lots" = some (.ref (He.ga K "_law_all_lots"))
  d__law_all_lots : FunD K "_law_all_lots" "_law_all_lots" (defArgs (top 46)) (defBody (top 46)) (defScope (top 46)) [] [] (He.ga K "_law_all_lots") (q 29)
  g__law_is_snug : mg "_law_is_snug" = some (.ref (He.ga K "_law_is_snug"))
  d__law_is_snug : FunD K "_law_is_snug" "_law_is_snug" (defArgs (top 47)) (defBody (top 47)) (defScope (top 47)) [] [] (He.ga K "_law_is_snug") (q 30)
  g__law_snugs : mg "_law_snugs" = some (.ref (He.ga K "_law_snugs"))
  d__law_snugs : FunD K "_law_snugs" "_law_snugs" (defArgs (top 48)) (defBody (top 48)) (defScope (top 48)) [] [] (He.ga K "_law_snugs") (q 31)
  g__law_near : mg "_law_near" = some (.ref (He.ga K "_law_near"))
  d__law_near : FunD K "_law_near" "_law_near" (defArgs (top 49)) (defBody (top 49)) (defScope (top 49)) [] [] (He.ga K "_law_near") (q 32)
  g__law_right : mg "_law_right" = some (.ref (He.ga K "_law_right"))
  d__law_right : FunD K "_law_right" "_law_right" (defArgs (top 50)) (defBody (top 50)) (defScope (top 50)) [] [] (He.ga K "_law_right") (q 33)
  g_law : mg "law" = some (.ref (He.ga K "law"))
  d_law : FunD K "law" "law" (defArgs (top 51)) (defBody (top 51)) (defScope (top 51)) [] [] (He.ga K "law") (q 34)
structure Wl (G : Pg) (q : Nat → FuncData) : Prop extends Wd G.mg G.K q where
  l_by_many : Lw G (He.cT G.K ("by_many", none)).1 (He.cT G.K ("by_many", none)).2 (nmQ ("by_many", none))
  l__law_all_lots : Lw G (He.cT G.K ("_law_all_lots", none)).1 (He.cT G.K ("_law_all_lots", none)).2 (nmQ ("_law_all_lots", none))
section
variable {G : Pg} {q : Nat → FuncData}
theorem sc_is_whole : FnScope N_is_whole P_is_whole (defScope (top 6)) := ⟨rfl, rfl, rfl, by decide +kernel, rfl, by decide +kernel, by decide +kernel⟩
theorem b_is_whole (h : Wl G q) : Binds G.K (q 0) P_is_whole [] := h.d_is_whole.bindsN fun _ _ _ _ _ _ us hl => match us, hl with | [_], _ => rfl
theorem sc_is_number : FnScope N_is_number P_is_number (defScope (top 7)) := ⟨rfl, rfl, rfl, by decide +kernel, rfl, by decide +kernel, by decide +kernel⟩
theorem b_is_number (h : Wl G q) : Binds G.K (q 1) P_is_number [] := h.d_is_number.bindsN fun _ _ _ _ _ _ us hl => match us, hl with | [_, _, _], _ => rfl
theorem sc_is_tuple_of : FnScope N_is_tuple_of P_is_tuple_of (defScope (top 8)) := ⟨rfl, rfl, rfl, by decide +kernel, rfl, by decide +kernel, by decide +kernel⟩
theorem b_is_tuple_of (h : Wl G q) : Binds G.K (q 2) P_is_tuple_of [] := h.d_is_tuple_of.bindsN fun _ _ _ _ _ _ us hl => match us, hl with | [_, _], _ => rfl
theorem sc_by_many : FnScope N_by_many P_by_many (defScope (top 9)) := ⟨rfl, rfl, rfl, by decide +kernel, rfl, by decide +kernel, by decide +kernel⟩
theorem b_by_many (h : Wl G q) : Binds G.K (q 3) P_by_many [] := h.d_by_many.bindsN fun _ _ _ _ _ _ us hl => match us, hl with | [_], _ => rfl
theorem sc_every_lot : FnScope N_every_lot P_every_lot (defScope (top 10)) := ⟨rfl, rfl, rfl, by decide +kernel, rfl, by decide +kernel, by decide +kernel⟩
theorem b_every_lot (h : Wl G q) : Binds G.K (q 4) P_every_lot [] := h.d_every_lot.bindsN fun _ _ _ _ _ _ us hl => match us, hl with | [_], _ => rfl
theorem sc_is_floor_form : FnScope N_is_floor_form P_is_floor_form (defScope (top 17)) := ⟨rfl, rfl, rfl, by decide +kernel, rfl, by decide +kernel, by decide +kernel⟩
theorem b_is_floor_form (h : Wl G q) : Binds G.K (q 5) P_is_floor_form [] := h.d_is_floor_form.bindsN fun _ _ _ _ _ _ us hl => match us, hl with | [_], _ => rfl
theorem sc_is_tile_of : FnScope N_is_tile_of P_is_tile_of (defScope (top 18)) := ⟨rfl, rfl, rfl, by decide +kernel, rfl, by decide +kernel, by decide +kernel⟩
theorem b_is_tile_of (h : Wl G q) : Binds G.K (q 6) P_is_tile_of [] := h.d_is_tile_of.bindsN fun _ _ _ _ _ _ us hl => match us, hl with | [_, _, _], _ => rfl
theorem sc_is_tile : FnScope N_is_tile P_is_tile (defScope (top 19)) := ⟨rfl, rfl, rfl, by decide +kernel, rfl, by decide +kernel, by decide +kernel⟩
theorem b_is_tile (h : Wl G q) : Binds G.K (q 7) P_is_tile [] := h.d_is_tile.bindsN fun _ _ _ _ _ _ us hl => match us, hl with | [_, _], _ => rfl
theorem sc_size_of : FnScope N_size_of P_size_of (defScope (top 20)) := ⟨rfl, rfl, rfl, by decide +kernel, rfl, by decide +kernel, by decide +kernel⟩
theorem b_size_of (h : Wl G q) : Binds G.K (q 8) P_size_of [] := h.d_size_of.bindsN fun _ _ _ _ _ _ us hl => match us, hl with | [_], _ => rfl
theorem sc_tiles_of : FnScope N_tiles_of P_tiles_of (defScope (top 21)) := ⟨rfl, rfl, rfl, by decide +kernel, rfl, by decide +kernel, by decide +kernel⟩
theorem b_tiles_of (h : Wl G q) : Binds G.K (q 9) P_tiles_of [] := h.d_tiles_of.bindsN fun _ _ _ _ _ _ us hl => match us, hl with | [_], _ => rfl
theorem sc_need_in : FnScope N_need_in P_need_in (defScope (top 22)) := ⟨rfl, rfl, rfl, by decide +kernel, rfl, by decide +kernel, by decide +kernel⟩
theorem b_need_in (h : Wl G q) : Binds G.K (q 10) P_need_in [] := h.d_need_in.bindsN fun _ _ _ _ _ _ us hl => match us, hl with | [_, _], _ => rfl
theorem sc_beside_of : FnScope N_beside_of P_beside_of (defScope (top 23)) := ⟨rfl, rfl, rfl, by decide +kernel, rfl, by decide +kernel, by decide +kernel⟩
theorem b_beside_of (h : Wl G q) : Binds G.K (q 11) P_beside_of [] := h.d_beside_of.bindsN fun _ _ _ _ _ _ us hl => match us, hl with | [_, _], _ => rfl
theorem sc_web_of : FnScope N_web_of P_web_of (defScope (top 24)) := ⟨rfl, rfl, rfl, by decide +kernel, rfl, by decide +kernel, by decide +kernel⟩
theorem b_web_of (h : Wl G q) : Binds G.K (q 12) P_web_of [] := h.d_web_of.bindsN fun _ _ _ _ _ _ us hl => match us, hl with | [_], _ => rfl
theorem sc_check_floor : FnScope N_check_floor P_check_floor (defScope (top 26)) := ⟨rfl, rfl, rfl, by decide +kernel, rfl, by decide +kernel, by decide +kernel⟩
theorem b_check_floor (h : Wl G q) : Binds G.K (q 13) P_check_floor [] := h.d_check_floor.bindsN fun _ _ _ _ _ _ us hl => match us, hl with | [_], _ => rfl
theorem sc_check_few : FnScope N_check_few P_check_few (defScope (top 27)) := ⟨rfl, rfl, rfl, by decide +kernel, rfl, by decide +kernel, by decide +kernel⟩
theorem b_check_few (h : Wl G q) : Binds G.K (q 14) P_check_few [] := h.d_check_few.bindsN fun _ _ _ _ _ _ us hl => match us, hl with | [_], _ => rfl
theorem sc_check_like : FnScope N_check_like P_check_like (defScope (top 28)) := ⟨rfl, rfl, rfl, by decide +kernel, rfl, by decide +kernel, by decide +kernel⟩
theorem b_check_like (h : Wl G q) : Binds G.K (q 15) P_check_like [] := h.d_check_like.bindsN fun _ _ _ _ _ _ us hl => match us, hl with | [_, _], _ => rfl
theorem sc_check_two : FnScope N_check_two P_check_two (defScope (top 29)) := ⟨rfl, rfl, rfl, by decide +kernel, rfl, by decide +kernel, by decide +kernel⟩
theorem b_check_two (h : Wl G q) : Binds G.K (q 16) P_check_two [] := h.d_check_two.bindsN fun _ _ _ _ _ _ us hl => match us, hl with | [_, _], _ => rfl
theorem sc_lots_of : FnScope N_lots_of P_lots_of (defScope (top 31)) := ⟨rfl, rfl, rfl, by decide +kernel, rfl, by decide +kernel, by decide +kernel⟩
theorem b_lots_of (h : Wl G q) : Binds G.K (q 17) P_lots_of [] := h.d_lots_of.bindsN fun _ _ _ _ _ _ us hl => match us, hl with | [_], _ => rfl
theorem sc_is_snug_by : FnScope N_is_snug_by P_is_snug_by (defScope (top 33)) := ⟨rfl, rfl, rfl, by decide +kernel, rfl, by decide +kernel, by decide +kernel⟩
theorem b_is_snug_by (h : Wl G q) : Binds G.K (q 18) P_is_snug_by [] := h.d_is_snug_by.bindsN fun _ _ _ _ _ _ us hl => match us, hl with | [_, _], _ => rfl
theorem sc_check_few_two : FnScope N_check_few_two P_check_few_two (defScope (top 35)) := ⟨rfl, rfl, rfl, by decide +kernel, rfl, by decide +kernel, by decide +kernel⟩
theorem b_check_few_two (h : Wl G q) : Binds G.K (q 19) P_check_few_two [] := h.d_check_few_two.bindsN fun _ _ _ _ _ _ us hl => match us, hl with | [_, _], _ => rfl
theorem sc_first_telling : FnScope N_first_telling P_first_telling (defScope (top 36)) := ⟨rfl, rfl, rfl, by decide +kernel, rfl, by decide +kernel, by decide +kernel⟩
theorem b_first_telling (h : Wl G q) : Binds G.K (q 20) P_first_telling [] := h.d_first_telling.bindsN fun _ _ _ _ _ _ us hl => match us, hl with | [_, _], _ => rfl
theorem sc_is_drier : FnScope N_is_drier P_is_drier (defScope (top 37)) := ⟨rfl, rfl, rfl, by decide +kernel, rfl, by decide +kernel, by decide +kernel⟩
theorem b_is_drier (h : Wl G q) : Binds G.K (q 21) P_is_drier [] := h.d_is_drier.bindsN fun _ _ _ _ _ _ us hl => match us, hl with | [_, _], _ => rfl
theorem sc_telling_lot : FnScope N_telling_lot P_telling_lot (defScope (top 38)) := ⟨rfl, rfl, rfl, by decide +kernel, rfl, by decide +kernel, by decide +kernel⟩
theorem b_telling_lot (h : Wl G q) : Binds G.K (q 22) P_telling_lot [] := h.d_telling_lot.bindsN fun _ _ _ _ _ _ us hl => match us, hl with | [_, _], _ => rfl
theorem sc__law_pail : FnScope N__law_pail P__law_pail (defScope (top 40)) := ⟨rfl, rfl, rfl, by decide +kernel, rfl, by decide +kernel, by decide +kernel⟩
theorem b__law_pail (h : Wl G q) : Binds G.K (q 23) P__law_pail [] := h.d__law_pail.bindsN fun _ _ _ _ _ _ us hl => match us, hl with | [_, _], _ => rfl
theorem sc__law_deal : FnScope N__law_deal P__law_deal (defScope (top 41)) := ⟨rfl, rfl, rfl, by decide +kernel, rfl, by decide +kernel, by decide +kernel⟩
theorem b__law_deal (h : Wl G q) : Binds G.K (q 24) P__law_deal [] := h.d__law_deal.bindsN fun _ _ _ _ _ _ us hl => match us, hl with | [_, _], _ => rfl
theorem sc__law_any : FnScope N__law_any P__law_any (defScope (top 42)) := ⟨rfl, rfl, rfl, by decide +kernel, rfl, by decide +kernel, by decide +kernel⟩
theorem b__law_any (h : Wl G q) : Binds G.K (q 25) P__law_any [] := h.d__law_any.bindsN fun _ _ _ _ _ _ us hl => match us, hl with | [_, _], _ => rfl
theorem sc__law_floor : FnScope N__law_floor P__law_floor (defScope (top 43)) := ⟨rfl, rfl, rfl, by decide +kernel, rfl, by decide +kernel, by decide +kernel⟩
theorem b__law_floor (h : Wl G q) : Binds G.K (q 26) P__law_floor [] := h.d__law_floor.bindsN fun _ _ _ _ _ _ us hl => match us, hl with | [_, _, _, _], _ => rfl
theorem sc__law_tiles : FnScope N__law_tiles P__law_tiles (defScope (top 44)) := ⟨rfl, rfl, rfl, by decide +kernel, rfl, by decide +kernel, by decide +kernel⟩
theorem b__law_tiles (h : Wl G q) : Binds G.K (q 27) P__law_tiles [] := h.d__law_tiles.bindsN fun _ _ _ _ _ _ us hl => match us, hl with | [_], _ => rfl
theorem sc__law_beside : FnScope N__law_beside P__law_beside (defScope (top 45)) := ⟨rfl, rfl, rfl, by decide +kernel, rfl, by decide +kernel, by decide +kernel⟩
theorem b__law_beside (h : Wl G q) : Binds G.K (q 28) P__law_beside [] := h.d__law_beside.bindsN fun _ _ _ _ _ _ us hl => match us, hl with | [_, _], _ => rfl
theorem sc__law_all_lots : FnScope N__law_all_lots P__law_all_lots (defScope (top 46)) := ⟨rfl, rfl, rfl, by decide +kernel, rfl, by decide +kernel, by decide +kernel⟩
theorem b__law_all_lots (h : Wl G q) : Binds G.K (q 29) P__law_all_lots [] := h.d__law_all_lots.bindsN fun _ _ _ _ _ _ us hl => match us, hl with | [_], _ => rfl
theorem sc__law_is_snug : FnScope N__law_is_snug P__law_is_snug (defScope (top 47)) := ⟨rfl, rfl, rfl, by decide +kernel, rfl, by decide +kernel, by decide +kernel⟩
theorem b__law_is_snug (h : Wl G q) : Binds G.K (q 30) P__law_is_snug [] := h.d__law_is_snug.bindsN fun _ _ _ _ _ _ us hl => match us, hl with | [_, _], _ => rfl
theorem sc__law_snugs : FnScope N__law_snugs P__law_snugs (defScope (top 48)) := ⟨rfl, rfl, rfl, by decide +kernel, rfl, by decide +kernel, by decide +kernel⟩
theorem b__law_snugs (h : Wl G q) : Binds G.K (q 31) P__law_snugs [] := h.d__law_snugs.bindsN fun _ _ _ _ _ _ us hl => match us, hl with | [_], _ => rfl
theorem sc__law_near : FnScope N__law_near P__law_near (defScope (top 49)) := ⟨rfl, rfl, rfl, by decide +kernel, rfl, by decide +kernel, by decide +kernel⟩
theorem b__law_near (h : Wl G q) : Binds G.K (q 32) P__law_near [] := h.d__law_near.bindsN fun _ _ _ _ _ _ us hl => match us, hl with | [_, _], _ => rfl
theorem sc__law_right : FnScope N__law_right P__law_right (defScope (top 50)) := ⟨rfl, rfl, rfl, by decide +kernel, rfl, by decide +kernel, by decide +kernel⟩
theorem b__law_right (h : Wl G q) : Binds G.K (q 33) P__law_right [] := h.d__law_right.bindsN fun _ _ _ _ _ _ us hl => match us, hl with | [_], _ => rfl
theorem sc_law : FnScope N_law P_law (defScope (top 51)) := ⟨rfl, rfl, rfl, by decide +kernel, rfl, by decide +kernel, by decide +kernel⟩
theorem b_law (h : Wl G q) : Binds G.K (q 34) P_law [] := h.d_law.bindsN fun _ _ _ _ _ _ us hl => match us, hl with | [_], _ => rfl
theorem kb_telling_lot_1_0 (h : Wl G q) : KB (q 22) P_telling_lot ["floor2", "floor"] [1, 0] := kb_of h.d_telling_lot fun _ _ _ _ _ _ us hl => match us, hl with | [_, _], _ => rfl
theorem kb_is_drier_1_0 (h : Wl G q) : KB (q 21) P_is_drier ["floor2", "floor"] [1, 0] := kb_of h.d_is_drier fun _ _ _ _ _ _ us hl => match us, hl with | [_, _], _ => rfl
theorem ok_is_whole (h : Wl G q) : FnD G (0 + 1) 0 (He.ga G.K "is_whole") (q 0) P_is_whole false S_is_whole :=
  fnd_of (k := 0) h.d_is_whole sc_is_whole g_is_whole fun cdv A outer s H E S0 pw fns Φ hr hg hh hp hn => by
    have k := wk_def (G := G) (outer := outer) (H := H) (E := E) (S0 := S0) (pw := pw) (fns := fns) hr hg (by decide +kernel : namesOk N_is_whole = true) sc_is_whole.nd
    have q0 := hn rfl
    exact ds_one (ds_ret (de_and (de_isi (T := "int") k.t rfl h.m_isinstance rfl h.m_int b_int (dv (i := 0) k rfl rfl)) (de_one (de_not (de_isi (T := "bool") k.t rfl h.m_isinstance rfl h.m_bool b_bool (dv (i := 0) k rfl rfl))))))
theorem ok_is_tuple_of (h : Wl G q) : FnD G (0 + 1) 0 (He.ga G.K "is_tuple_of") (q 2) P_is_tuple_of false S_is_tuple_of :=
  fnd_of (k := 0) h.d_is_tuple_of sc_is_tuple_of g_is_tuple_of fun cdv A outer s H E S0 pw fns Φ hr hg hh hp hn => by
    have k := wk_def (G := G) (outer := outer) (H := H) (E := E) (S0 := S0) (pw := pw) (fns := fns) hr hg (by decide +kernel : namesOk N_is_tuple_of = true) sc_is_tuple_of.nd
    have q0 := hn rfl
    exact ds_one (ds_ret (de_and (de_isi (T := "tuple") k.t rfl h.m_isinstance rfl h.m_tuple b_tuple (dv (i := 0) k rfl rfl)) (de_one (de_cmp (op_eq' k.t) (de_callB (call_len' k.t) rfl h.m_len b_len (da_cons (dv (i := 0) k rfl rfl) (da_nil))) (dv (i := 1) k rfl rfl)))))
theorem ok_size_of (h : Wl G q) : FnD G (0 + 1) 0 (He.ga G.K "size_of") (q 8) P_size_of false S_size_of :=
  fnd_of (k := 0) h.d_size_of sc_size_of g_size_of fun cdv A outer s H E S0 pw fns Φ hr hg hh hp hn => by
    have k := wk_def (G := G) (outer := outer) (H := H) (E := E) (S0 := S0) (pw := pw) (fns := fns) hr hg (by decide +kernel : namesOk N_size_of = true) sc_size_of.nd
    have q0 := hn rfl
    exact ds_one (ds_ret (de_tup (da_cons (de_callB (call_len' k.t) rfl h.m_len b_len (da_cons (dv (i := 0) k rfl rfl) (da_nil))) (da_cons (de_callB (call_len' k.t) rfl h.m_len b_len (da_cons (de_ix (ixA k.t) (dv (i := 0) k rfl rfl) (de_int)) (da_nil))) (da_nil)))))
theorem ok_tiles_of (h : Wl G q) : FnD G (0 + 1) 0 (He.ga G.K "tiles_of") (q 9) P_tiles_of false S_tiles_of :=
  fnd_of (k := 0) h.d_tiles_of sc_tiles_of g_tiles_of fun cdv A outer s H E S0 pw fns Φ hr hg hh hp hn => by
    have k := wk_def (G := G) (outer := outer) (H := H) (E := E) (S0 := S0) (pw := pw) (fns := fns) hr hg (by decide +kernel : namesOk N_tiles_of = true) sc_tiles_of.nd
    have q0 := hn rfl
    exact ds_one (ds_ret (de_callTy (call_tuple' k.t) rfl h.m_tuple b_tuple (da_cons (deLc2 (own := [("row", 1), ("place", 2)]) (vs1 := [2]) k (.inl q0) (.inl q0) (by decide) (by decide) (by decide) (ty_nm) (di_rng1 rfl h.m_range (da_cons (de_callB (call_len' k.t) rfl h.m_len b_len (da_cons (dv (i := 0) k rfl rfl) (da_nil))) (da_nil))) (by kernel_rfl) (fun _ _ _ _ _ => dgn (i := 1) (k.blk) (.inl q0) rfl rfl) (fun _ _ _ _ _ => dp_nil) (fun _ _ _ _ _ => di_rng1 rfl h.m_range (da_cons (de_callB (call_len' (k.blk).t) rfl h.m_len b_len (da_cons (de_ix (ixA (k.blk).t) (dv (i := 0) (k.blk) rfl rfl) (de_int)) (da_nil))) (da_nil))) (fun _ _ _ _ _ => dgn (i := 2) (k.blk) (.inl q0) rfl rfl) (fun _ _ _ _ _ => dp_nil) (fun _ _ _ _ _ => de_tup (da_cons (dv (i := 1) (k.blk) rfl rfl) (da_cons (dv (i := 2) (k.blk) rfl rfl) (da_nil))))) (da_nil))))
theorem ok_need_in (h : Wl G q) : FnD G (0 + 1) 0 (He.ga G.K "need_in") (q 10) P_need_in false S_need_in :=
  fnd_of (k := 0) h.d_need_in sc_need_in g_need_in fun cdv A outer s H E S0 pw fns Φ hr hg hh hp hn => by
    have k := wk_def (G := G) (outer := outer) (H := H) (E := E) (S0 := S0) (pw := pw) (fns := fns) hr hg (by decide +kernel : namesOk N_need_in = true) sc_need_in.nd
    have q0 := hn rfl
    exact ds_one (ds_ret (de_ix (ixA k.t) (de_ix (ixA k.t) (dv (i := 0) k rfl rfl) (de_ix (ixA k.t) (dv (i := 1) k rfl rfl) (de_int))) (de_ix (ixA k.t) (dv (i := 1) k rfl rfl) (de_int))))
theorem ok_check_few (h : Wl G q) : FnD G (0 + 1) 0 (He.ga G.K "check_few") (q 14) P_check_few false S_check_few :=
  fnd_of (k := 0) h.d_check_few sc_check_few g_check_few fun cdv A outer s H E S0 pw fns Φ hr hg hh hp hn => by
    have k := wk_def (G := G) (outer := outer) (H := H) (E := E) (S0 := S0) (pw := pw) (fns := fns) hr hg (by decide +kernel : namesOk N_check_few = true) sc_check_few.nd
    have q0 := hn rfl
    exact ds_cons (ds_asg (de_op (op_mul' k.t) (de_callB (call_len' k.t) rfl h.m_len b_len (da_cons (dv (i := 0) k rfl rfl) (da_nil))) (de_callB (call_len' k.t) rfl h.m_len b_len (da_cons (de_ix (ixA k.t) (dv (i := 0) k rfl rfl) (de_int)) (da_nil)))) (dgn (i := 1) k (.inl q0) rfl rfl)) (ds_one (ds_if (dt_cmp (op_gt' k.t) (dv (i := 1) k rfl rfl) (deGI rfl h.c_FEW_TILES)) (ds_one (ds_never)) (ds_nil)))
theorem ok_is_snug_by (h : Wl G q) : FnD G (0 + 1) 0 (He.ga G.K "is_snug_by") (q 18) P_is_snug_by false S_is_snug_by :=
  fnd_of (k := 0) h.d_is_snug_by sc_is_snug_by g_is_snug_by fun cdv A outer s H E S0 pw fns Φ hr hg hh hp hn => by
    have k := wk_def (G := G) (outer := outer) (H := H) (E := E) (S0 := S0) (pw := pw) (fns := fns) hr hg (by decide +kernel : namesOk N_is_snug_by = true) sc_is_snug_by.nd
    have q0 := hn rfl
    have pso : PassesOwn (model G.P G.w) _ _ _ := passes_of (X := cxOf (L2.CX G.P G.w) G.P G.w G.K G.mg G.base N_is_snug_by "is_snug_by" (defScope (top 33)) (He.ga G.K "is_snug_by") cdv A outer s H E) rfl
    exact ds_cons (ds_asg (deDc (own := [("tile", 3)]) k (.inl q0) (by decide) (di_list k.t (dv (i := 1) k rfl rfl)) (by kernel_rfl) (fun _ _ _ _ _ => dgn (i := 3) (k.blk) (.inl q0) rfl rfl) (fun _ _ _ _ _ => dp_nil) (fun _ _ _ _ _ => dv (i := 3) (k.blk) rfl rfl) (fun _ _ _ _ _ => de_bl)) (dgn (i := 2) k (.inl q0) rfl rfl)) (ds_cons (ds_for pso k.t (di_list k.t (dv (i := 1) k rfl rfl)) (fun _ => dgn (i := 3) (k.hide) (.inl q0) rfl rfl) (fun _ => ds_cons (ds_asg (de_ix (ixA (k.hide).t) (dv (i := 0) (k.hide) rfl rfl) (dv (i := 3) (k.hide) rfl rfl)) (dg_tup (n := 2) (k.hide).t (dg_cons (dgn (i := 4) (k.hide) (.inl q0) rfl rfl) (dg_cons (dgn (i := 5) (k.hide) (.inl q0) rfl rfl) (dg_nil))))) (ds_one (ds_if (dt_cmp (op_ge' (k.hide).t) (de_callB (call_len' (k.hide).t) rfl h.m_len b_len (da_cons (deLc (own := [("other", 6)]) (k.hide) (.inl q0) (by decide) (di_list (k.hide).t (dv (i := 5) (k.hide) rfl rfl)) (by kernel_rfl) (fun _ _ _ _ _ => dgn (i := 6) ((k.hide).blk) (.inl q0) rfl rfl) (fun _ _ _ _ _ => dp_one (dt_cmp (op_notInA ((k.hide).blk).t) (dv (i := 6) ((k.hide).blk) rfl rfl) (dv (i := 2) ((k.hide).blk) rfl rfl))) (fun _ _ _ _ _ => de_int)) (da_nil))) (dv (i := 4) (k.hide) rfl rfl)) (ds_one (ds_ret (de_bl))) (ds_nil))))) (ds_one (ds_ret (de_bl))))
theorem ok__law_pail (h : Wl G q) : FnD G (0 + 1) 0 (He.ga G.K "_law_pail") (q 23) P__law_pail false S__law_pail :=
  fnd_of (k := 0) h.d__law_pail sc__law_pail g__law_pail fun cdv A outer s H E S0 pw fns Φ hr hg hh hp hn => by
    have k := wk_def (G := G) (outer := outer) (H := H) (E := E) (S0 := S0) (pw := pw) (fns := fns) hr hg (by decide +kernel : namesOk N__law_pail = true) sc__law_pail.nd
    have q0 := hn rfl
    have pso : PassesOwn (model G.P G.w) _ _ _ := passes_of (X := cxOf (L2.CX G.P G.w) G.P G.w G.K G.mg G.base N__law_pail "_law_pail" (defScope (top 40)) (He.ga G.K "_law_pail") cdv A outer s H E) rfl
    exact ds_cons (ds_asg (de_op (op_add' k.t) (de_int) (de_op (op_mul' k.t) (de_int) (dv (i := 1) k rfl rfl))) (dgn (i := 2) k (.inl q0) rfl rfl)) (ds_cons (ds_for pso k.t (di_list k.t (de_sl k.t (dv (i := 0) k rfl rfl) (do_no) (do_so (de_int)))) (fun _ => dgn (i := 3) (k.hide) (.inl q0) rfl rfl) (fun _ => ds_one (ds_asg (de_op op_mod' (de_callTy call_int' rfl h.m_int b_int (da_cons (de_op (op_add' (k.hide).t) (de_op (op_add' (k.hide).t) (de_op (op_mul' (k.hide).t) (dv (i := 2) (k.hide) rfl rfl) (de_int)) (de_op (op_mul' (k.hide).t) (de_op op_mod' (de_callTy call_int' rfl h.m_int b_int (da_cons (dv (i := 3) (k.hide) rfl rfl) (da_nil))) (de_int)) (de_int))) (de_int)) (da_nil))) (de_int)) (dgn (i := 2) (k.hide) (.inl q0) rfl rfl)))) (ds_cons (ds_asg (de_if (dt_cmp (op_lt' k.t) (dv (i := 1) k rfl rfl) (de_callB (call_len' k.t) rfl h.m_len b_len (da_cons (dv (i := 0) k rfl rfl) (da_nil)))) (de_callTy call_int' rfl h.m_int b_int (da_cons (de_ix (ixA k.t) (dv (i := 0) k rfl rfl) (dv (i := 1) k rfl rfl)) (da_nil))) (de_int)) (dgn (i := 4) k (.inl q0) rfl rfl)) (ds_cons (ds_asg (de_op op_mod' (de_callTy call_int' rfl h.m_int b_int (da_cons (de_op (op_add' k.t) (de_op (op_add' k.t) (de_op (op_mul' k.t) (dv (i := 2) k rfl rfl) (de_int)) (de_op (op_mul' k.t) (de_op op_mod' (dv (i := 4) k rfl rfl) (de_int)) (de_int))) (de_int)) (da_nil))) (de_int)) (dgn (i := 2) k (.inl q0) rfl rfl)) (ds_one (ds_ret (de_lst (da_cons (de_if (dt_w (dw_or (dt_cmp (op_lt' k.t) (dv (i := 4) k rfl rfl) (de_int)) (dw_or1 (dt_cmp (op_ge' k.t) (dv (i := 4) k rfl rfl) (de_op op_pow' (de_int) (de_int)))))) (de_callB call_abs' rfl h.m_abs b_abs (da_cons (dv (i := 4) k rfl rfl) (da_nil))) (de_int)) (da_cons (dv (i := 2) k rfl rfl) (da_cons (de_int) (da_nil))))))))))
theorem ok__law_deal (h : Wl G q) : FnD G (0 + 1) 0 (He.ga G.K "_law_deal") (q 24) P__law_deal true S__law_deal :=
  fnd_of (k := 0) h.d__law_deal sc__law_deal g__law_deal fun cdv A outer s H E S0 pw fns Φ hr hg hh hp hn => by
    have k := wk_def (G := G) (outer := outer) (H := H) (E := E) (S0 := S0) (pw := pw) (fns := fns) hr hg (by decide +kernel : namesOk N__law_deal = true) sc__law_deal.nd
    have q1 := hp rfl
    exact ds_cons (ds_if (dt_cmp (op_gt' k.t) (deStG (m := 0) k q1 rfl rfl rfl) (de_int)) (ds_cons (ds_stT (k := 0) (i2 := 2) k.t q1 rfl k.pi rfl (vis_of rfl) (de_callB call_divmod' rfl h.m_divmod b_divmod (da_cons (deStG (m := 0) k q1 rfl rfl rfl) (da_cons (dv (i := 1) k rfl rfl) (da_nil)))) (.inr (ne_pi k (by decide))) k.nd rfl (loc_of rfl)) (ds_one (ds_ret (dv (i := 2) k rfl rfl)))) (ds_nil)) (ds_cons (ds_stS (k := 2) q1 rfl k.pi rfl (vis_of rfl) (de_op (op_add' k.t) (deStG (m := 2) k q1 rfl rfl rfl) (de_int))) (ds_cons (ds_asg (de_op op_mod' (de_callTy call_int' rfl h.m_int b_int (da_cons (de_op (op_add' k.t) (de_op (op_mul' k.t) (deStG (m := 1) k q1 rfl rfl rfl) (de_int)) (de_op (op_mul' k.t) (de_int) (deStG (m := 2) k q1 rfl rfl rfl))) (da_nil))) (de_int)) (dgn (i := 3) k (.inr (by decide)) rfl rfl)) (ds_cons (ds_stS (k := 1) q1 rfl k.pi rfl (vis_of rfl) (de_op op_mod' (de_callTy call_int' rfl h.m_int b_int (da_cons (de_op (op_add' k.t) (de_op (op_mul' k.t) (dv (i := 3) k rfl rfl) (de_op (op_add' k.t) (de_op op_mod' (de_callTy call_int' rfl h.m_int b_int (da_cons (dv (i := 3) k rfl rfl) (da_nil))) (de_int)) (de_int))) (de_op (op_mul' k.t) (de_int) (deStG (m := 2) k q1 rfl rfl rfl))) (da_nil))) (de_int))) (ds_one (ds_ret (de_op op_mod' (de_callTy call_int' rfl h.m_int b_int (da_cons (de_op op_div' (deStG (m := 1) k q1 rfl rfl rfl) (de_int)) (da_nil))) (dv (i := 1) k rfl rfl)))))))
theorem ok__law_tiles (h : Wl G q) : FnD G (0 + 1) 0 (He.ga G.K "_law_tiles") (q 27) P__law_tiles false S__law_tiles :=
  fnd_of (k := 0) h.d__law_tiles sc__law_tiles g__law_tiles fun cdv A outer s H E S0 pw fns Φ hr hg hh hp hn => by
    have k := wk_def (G := G) (outer := outer) (H := H) (E := E) (S0 := S0) (pw := pw) (fns := fns) hr hg (by decide +kernel : namesOk N__law_tiles = true) sc__law_tiles.nd
    have q0 := hn rfl
    have pso : PassesOwn (model G.P G.w) _ _ _ := passes_of (X := cxOf (L2.CX G.P G.w) G.P G.w G.K G.mg G.base N__law_tiles "_law_tiles" (defScope (top 44)) (He.ga G.K "_law_tiles") cdv A outer s H E) rfl
    exact ds_cons (ds_asg (de_lst (da_nil)) (dgn (i := 1) k (.inl q0) rfl rfl)) (ds_cons (ds_for pso k.t (di_rng1 rfl h.m_range (da_cons (de_callB (call_len' k.t) rfl h.m_len b_len (da_cons (dv (i := 0) k rfl rfl) (da_nil))) (da_nil))) (fun _ => dgn (i := 2) (k.hide) (.inl q0) rfl rfl) (fun _ => ds_one (ds_asg (de_op (op_add' (k.hide).t) (dv (i := 1) (k.hide) rfl rfl) (deLc (own := [("j", 3)]) (k.hide) (.inl q0) (by decide) (di_rng1 rfl h.m_range (da_cons (de_callB (call_len' (k.hide).t) rfl h.m_len b_len (da_cons (de_ix (ixA (k.hide).t) (dv (i := 0) (k.hide) rfl rfl) (dv (i := 2) (k.hide) rfl rfl)) (da_nil))) (da_nil))) (by kernel_rfl) (fun _ _ _ _ _ => dgn (i := 3) ((k.hide).blk) (.inl q0) rfl rfl) (fun _ _ _ _ _ => dp_nil) (fun _ _ _ _ _ => de_tup (da_cons (dv (i := 2) ((k.hide).blk) rfl rfl) (da_cons (dv (i := 3) ((k.hide).blk) rfl rfl) (da_nil)))))) (dgn (i := 1) (k.hide) (.inl q0) rfl rfl)))) (ds_one (ds_ret (dv (i := 1) k rfl rfl))))
theorem ok__law_beside (h : Wl G q) : FnD G (0 + 1) 0 (He.ga G.K "_law_beside") (q 28) P__law_beside false S__law_beside :=
  fnd_of (k := 0) h.d__law_beside sc__law_beside g__law_beside fun cdv A outer s H E S0 pw fns Φ hr hg hh hp hn => by
    have k := wk_def (G := G) (outer := outer) (H := H) (E := E) (S0 := S0) (pw := pw) (fns := fns) hr hg (by decide +kernel : namesOk N__law_beside = true) sc__law_beside.nd
    have q0 := hn rfl
    exact ds_cons (ds_asg (dv (i := 1) k rfl rfl) (dg_tup (n := 2) k.t (dg_cons (dgn (i := 2) k (.inl q0) rfl rfl) (dg_cons (dgn (i := 3) k (.inl q0) rfl rfl) (dg_nil))))) (ds_cons (ds_asg (de_lst (da_cons (de_tup (da_cons (de_op op_sub' (dv (i := 2) k rfl rfl) (de_int)) (da_cons (dv (i := 3) k rfl rfl) (da_nil)))) (da_cons (de_tup (da_cons (dv (i := 2) k rfl rfl) (da_cons (de_op op_sub' (dv (i := 3) k rfl rfl) (de_int)) (da_nil)))) (da_cons (de_tup (da_cons (dv (i := 2) k rfl rfl) (da_cons (de_op (op_add' k.t) (dv (i := 3) k rfl rfl) (de_int)) (da_nil)))) (da_cons (de_tup (da_cons (de_op (op_add' k.t) (dv (i := 2) k rfl rfl) (de_int)) (da_cons (dv (i := 3) k rfl rfl) (da_nil)))) (da_nil)))))) (dgn (i := 4) k (.inl q0) rfl rfl)) (ds_one (ds_ret (deLc (own := [("a", 5), ("b", 6)]) k (.inl q0) (by decide) (di_list k.t (dv (i := 4) k rfl rfl)) (by kernel_rfl) (fun _ _ _ _ _ => dg_tup (n := 2) (k.blk).t (dg_cons (dgn (i := 5) (k.blk) (.inl q0) rfl rfl) (dg_cons (dgn (i := 6) (k.blk) (.inl q0) rfl rfl) (dg_nil)))) (fun _ _ _ _ _ => dp_one (dt_w (dw_and (dt_chain (op_le' (k.blk).t) (op_lt' (k.blk).t) (de_int) (dv (i := 5) (k.blk) rfl rfl) (de_callB (call_len' (k.blk).t) rfl h.m_len b_len (da_cons (dv (i := 0) (k.blk) rfl rfl) (da_nil)))) (dw_and1 (dt_chain (op_le' (k.blk).t) (op_lt' (k.blk).t) (de_int) (dv (i := 6) (k.blk) rfl rfl) (de_callB (call_len' (k.blk).t) rfl h.m_len b_len (da_cons (de_ix (ixA (k.blk).t) (dv (i := 0) (k.blk) rfl rfl) (de_int)) (da_nil)))))))) (fun _ _ _ _ _ => de_tup (da_cons (dv (i := 5) (k.blk) rfl rfl) (da_cons (dv (i := 6) (k.blk) rfl rfl) (da_nil))))))))
theorem ok_is_number (h : Wl G q) : FnD G (1 + 1) 0 (He.ga G.K "is_number") (q 1) P_is_number false S_is_number :=
  fnd_of (k := 1) h.d_is_number sc_is_number g_is_number fun cdv A outer s H E S0 pw fns Φ hr hg hh hp hn => by
    have k := wk_def (G := G) (outer := outer) (H := H) (E := E) (S0 := S0) (pw := pw) (fns := fns) hr hg (by decide +kernel : namesOk N_is_number = true) sc_is_number.nd
    have q0 := hn rfl
    exact ds_cons (ds_if (dt_w (dw_or (dt_not (dt_val (deFn k (ok_is_whole h) rfl rfl h.g_is_whole h.d_is_whole.kp (b_is_whole h) (da_cons (dv (i := 0) k rfl rfl) (da_nil))))) (dw_or1 (dt_w (dw_and (dt_cmp op_isNot' (dv (i := 1) k rfl rfl) (de_non)) (dw_and1 (dt_cmp (op_lt' k.t) (dv (i := 0) k rfl rfl) (dv (i := 1) k rfl rfl)))))))) (ds_one (ds_ret (de_bl))) (ds_nil)) (ds_one (ds_ret (de_or (de_cmp op_is' (dv (i := 2) k rfl rfl) (de_non)) (de_one (de_cmp (op_le' k.t) (dv (i := 0) k rfl rfl) (dv (i := 2) k rfl rfl))))))
theorem ok_by_many (h : Wl G q) : FnD G (1 + 1) 0 (He.ga G.K "by_many") (q 3) P_by_many false S_by_many :=
  fnd_ofL (k := 1) (c := (He.cT G.K ("by_many", none)).1) h.d_by_many sc_by_many g_by_many (fun _ _ _ _ _ lk e => cod_of lk e) fun A outer s H E S0 pw fns Φ hr hg hh hp hn => by
    have k := wk_def (G := G) (outer := outer) (H := H) (E := E) (S0 := S0) (pw := pw) (fns := fns) hr hg (by decide +kernel : namesOk N_by_many = true) sc_by_many.nd
    have q0 := hn rfl
    exact ds_one (ds_ret (deSortK (x := "lot") k rfl (dv (i := 0) k rfl rfl) ⟨h.l_by_many, rfl, rfl, by decide +kernel, by kernel_rfl, rfl, rfl, fun _ _ _ _ _ us hl => match us, hl with | [_], _ => rfl, rfl⟩ rfl h.m_sorted h.m_len))
theorem ok_check_like (h : Wl G q) : FnD G (1 + 1) 0 (He.ga G.K "check_like") (q 15) P_check_like false S_check_like :=
  fnd_of (k := 1) h.d_check_like sc_check_like g_check_like fun cdv A outer s H E S0 pw fns Φ hr hg hh hp hn => by
    have k := wk_def (G := G) (outer := outer) (H := H) (E := E) (S0 := S0) (pw := pw) (fns := fns) hr hg (by decide +kernel : namesOk N_check_like = true) sc_check_like.nd
    have q0 := hn rfl
    exact ds_one (ds_if (dt_cmp (op_ne' k.t) (deFn k (ok_size_of h) rfl rfl h.g_size_of h.d_size_of.kp (b_size_of h) (da_cons (dv (i := 0) k rfl rfl) (da_nil))) (deFn k (ok_size_of h) rfl rfl h.g_size_of h.d_size_of.kp (b_size_of h) (da_cons (dv (i := 1) k rfl rfl) (da_nil)))) (ds_one (ds_never)) (ds_nil))
theorem ok__law_any (h : Wl G q) : FnD G (1 + 1) 0 (He.ga G.K "_law_any") (q 25) P__law_any true S__law_any :=
  fnd_of (k := 1) h.d__law_any sc__law_any g__law_any fun cdv A outer s H E S0 pw fns Φ hr hg hh hp hn => by
    have k := wk_def (G := G) (outer := outer) (H := H) (E := E) (S0 := S0) (pw := pw) (fns := fns) hr hg (by decide +kernel : namesOk N__law_any = true) sc__law_any.nd
    have q1 := hp rfl
    exact ds_one (ds_ret (de_ix (ixA k.t) (dv (i := 1) k rfl rfl) (deFnS k q1 (ok__law_deal h) rfl rfl h.g__law_deal h.d__law_deal.kp (b__law_deal h) rfl rfl (da_cons (de_callB (call_len' k.t) rfl h.m_len b_len (da_cons (dv (i := 1) k rfl rfl) (da_nil))) (da_nil)))))
theorem ok__law_all_lots (h : Wl G q) : FnD G (1 + 1) 0 (He.ga G.K "_law_all_lots") (q 29) P__law_all_lots false S__law_all_lots :=
  fnd_ofL (k := 1) (c := (He.cT G.K ("_law_all_lots", none)).1) h.d__law_all_lots sc__law_all_lots g__law_all_lots (fun _ _ _ _ _ lk e => cod_of lk e) fun A outer s H E S0 pw fns Φ hr hg hh hp hn => by
    have k := wk_def (G := G) (outer := outer) (H := H) (E := E) (S0 := S0) (pw := pw) (fns := fns) hr hg (by decide +kernel : namesOk N__law_all_lots = true) sc__law_all_lots.nd
    have q0 := hn rfl
    have pso : PassesOwn (model G.P G.w) _ _ _ := passes_of (X := cxOf (L2.CX G.P G.w) G.P G.w G.K G.mg G.base N__law_all_lots "_law_all_lots" (defScope (top 46)) (He.ga G.K "_law_all_lots") (.ref (He.cT G.K ("_law_all_lots", none)).1) A outer s H E) rfl
    exact ds_cons (ds_asg (de_lst (da_cons (de_tup (da_nil)) (da_nil))) (dgn (i := 1) k (.inl q0) rfl rfl)) (ds_cons (ds_for pso k.t (di_list k.t (dv (i := 0) k rfl rfl)) (fun _ => dgn (i := 2) (k.hide) (.inl q0) rfl rfl) (fun _ => ds_one (ds_asg (de_op (op_add' (k.hide).t) (dv (i := 1) (k.hide) rfl rfl) (deLc (own := [("lot", 3)]) (k.hide) (.inl q0) (by decide) (di_list (k.hide).t (dv (i := 1) (k.hide) rfl rfl)) (by kernel_rfl) (fun _ _ _ _ _ => dgn (i := 3) ((k.hide).blk) (.inl q0) rfl rfl) (fun _ _ _ _ _ => dp_nil) (fun _ _ _ _ _ => de_op (op_add' ((k.hide).blk).t) (dv (i := 3) ((k.hide).blk) rfl rfl) (de_tup (da_cons (dv (i := 2) ((k.hide).blk) rfl rfl) (da_nil)))))) (dgn (i := 1) (k.hide) (.inl q0) rfl rfl)))) (ds_one (ds_ret (deSortK (x := "lot") k rfl (dv (i := 1) k rfl rfl) ⟨h.l__law_all_lots, rfl, rfl, by decide +kernel, by kernel_rfl, rfl, rfl, fun _ _ _ _ _ us hl => match us, hl with | [_], _ => rfl, rfl⟩ rfl h.m_sorted h.m_len))))
theorem ok__law_is_snug (h : Wl G q) : FnD G (1 + 1) 0 (He.ga G.K "_law_is_snug") (q 30) P__law_is_snug false S__law_is_snug :=
  fnd_of (k := 1) h.d__law_is_snug sc__law_is_snug g__law_is_snug fun cdv A outer s H E S0 pw fns Φ hr hg hh hp hn => by
    have k := wk_def (G := G) (outer := outer) (H := H) (E := E) (S0 := S0) (pw := pw) (fns := fns) hr hg (by decide +kernel : namesOk N__law_is_snug = true) sc__law_is_snug.nd
    have q0 := hn rfl
    have pso : PassesOwn (model G.P G.w) _ _ _ := passes_of (X := cxOf (L2.CX G.P G.w) G.P G.w G.K G.mg G.base N__law_is_snug "_law_is_snug" (defScope (top 47)) (He.ga G.K "_law_is_snug") cdv A outer s H E) rfl
    exact ds_cons (ds_for pso k.t (di_list k.t (dv (i := 1) k rfl rfl)) (fun _ => dg_tup (n := 2) (k.hide).t (dg_cons (dgn (i := 2) (k.hide) (.inl q0) rfl rfl) (dg_cons (dgn (i := 3) (k.hide) (.inl q0) rfl rfl) (dg_nil)))) (fun _ => ds_one (ds_if (dt_cmp (op_ge' (k.hide).t) (de_callB (call_len' (k.hide).t) rfl h.m_len b_len (da_cons (deLc (own := [("two", 4)]) (k.hide) (.inl q0) (by decide) (di_list (k.hide).t (deFn (k.hide) (ok__law_beside h) rfl rfl h.g__law_beside h.d__law_beside.kp (b__law_beside h) (da_cons (dv (i := 0) (k.hide) rfl rfl) (da_cons (de_tup (da_cons (dv (i := 2) (k.hide) rfl rfl) (da_cons (dv (i := 3) (k.hide) rfl rfl) (da_nil)))) (da_nil))))) (by kernel_rfl) (fun _ _ _ _ _ => dgn (i := 4) ((k.hide).blk) (.inl q0) rfl rfl) (fun _ _ _ _ _ => dp_one (dt_cmp (op_notInA ((k.hide).blk).t) (dv (i := 4) ((k.hide).blk) rfl rfl) (dv (i := 1) ((k.hide).blk) rfl rfl))) (fun _ _ _ _ _ => dv (i := 4) ((k.hide).blk) rfl rfl)) (da_nil))) (de_ix (ixA (k.hide).t) (de_ix (ixA (k.hide).t) (dv (i := 0) (k.hide) rfl rfl) (dv (i := 2) (k.hide) rfl rfl)) (dv (i := 3) (k.hide) rfl rfl))) (ds_one (ds_ret (de_bl))) (ds_nil)))) (ds_one (ds_ret (de_cmp (op_ne' k.t) (dv (i := 1) k rfl rfl) (de_tup (da_nil)))))
theorem ok_every_lot (h : Wl G q) : FnD G (2 + 1) 0 (He.ga G.K "every_lot") (q 4) P_every_lot false S_every_lot :=
  fnd_of (k := 2) h.d_every_lot sc_every_lot g_every_lot fun cdv A outer s H E S0 pw fns Φ hr hg hh hp hn => by
    have k := wk_def (G := G) (outer := outer) (H := H) (E := E) (S0 := S0) (pw := pw) (fns := fns) hr hg (by decide +kernel : namesOk N_every_lot = true) sc_every_lot.nd
    have q0 := hn rfl
    have pso : PassesOwn (model G.P G.w) _ _ _ := passes_of (X := cxOf (L2.CX G.P G.w) G.P G.w G.K G.mg G.base N_every_lot "every_lot" (defScope (top 10)) (He.ga G.K "every_lot") cdv A outer s H E) rfl
    exact ds_cons (ds_asg (de_lst (da_cons (de_tup (da_nil)) (da_nil))) (dgn (i := 1) k (.inl q0) rfl rfl)) (ds_cons (ds_for pso k.t (di_list k.t (dv (i := 0) k rfl rfl)) (fun _ => dgn (i := 2) (k.hide) (.inl q0) rfl rfl) (fun _ => ds_one (ds_asg (de_op (op_add' (k.hide).t) (dv (i := 1) (k.hide) rfl rfl) (deLc (own := [("lot", 3)]) (k.hide) (.inl q0) (by decide) (di_list (k.hide).t (dv (i := 1) (k.hide) rfl rfl)) (by kernel_rfl) (fun _ _ _ _ _ => dgn (i := 3) ((k.hide).blk) (.inl q0) rfl rfl) (fun _ _ _ _ _ => dp_nil) (fun _ _ _ _ _ => de_op (op_add' ((k.hide).blk).t) (dv (i := 3) ((k.hide).blk) rfl rfl) (de_tup (da_cons (dv (i := 2) ((k.hide).blk) rfl rfl) (da_nil)))))) (dgn (i := 1) (k.hide) (.inl q0) rfl rfl)))) (ds_one (ds_ret (deFn k (ok_by_many h) rfl rfl h.g_by_many h.d_by_many.kp (b_by_many h) (da_cons (dv (i := 1) k rfl rfl) (da_nil))))))
theorem ok_is_floor_form (h : Wl G q) : FnD G (2 + 1) 0 (He.ga G.K "is_floor_form") (q 5) P_is_floor_form false S_is_floor_form :=
  fnd_of (k := 2) h.d_is_floor_form sc_is_floor_form g_is_floor_form fun cdv A outer s H E S0 pw fns Φ hr hg hh hp hn => by
    have k := wk_def (G := G) (outer := outer) (H := H) (E := E) (S0 := S0) (pw := pw) (fns := fns) hr hg (by decide +kernel : namesOk N_is_floor_form = true) sc_is_floor_form.nd
    have q0 := hn rfl
    exact ds_cons (ds_if (dt_w (dw_or (dt_not (dt_val (de_isi (T := "tuple") k.t rfl h.m_isinstance rfl h.m_tuple b_tuple (dv (i := 0) k rfl rfl)))) (dw_or1 (dt_not (dt_chain (op_le' k.t) (op_le' k.t) (de_int) (de_callB (call_len' k.t) rfl h.m_len b_len (da_cons (dv (i := 0) k rfl rfl) (da_nil))) (deGI rfl h.c_MOST_ROWS)))))) (ds_one (ds_ret (de_bl))) (ds_nil)) (ds_cons (ds_if (dt_not (dt_val (de_callB (call_all' k.t) rfl h.m_all b_all (da_cons (deLc (own := [("row", 1)]) k (.inl q0) (by decide) (di_list k.t (dv (i := 0) k rfl rfl)) (by kernel_rfl) (fun _ _ _ _ _ => dgn (i := 1) (k.blk) (.inl q0) rfl rfl) (fun _ _ _ _ _ => dp_nil) (fun _ _ _ _ _ => de_and (de_isi (T := "tuple") (k.blk).t rfl h.m_isinstance rfl h.m_tuple b_tuple (dv (i := 1) (k.blk) rfl rfl)) (de_one (de_chain (op_le' (k.blk).t) (op_le' (k.blk).t) (de_int) (de_callB (call_len' (k.blk).t) rfl h.m_len b_len (da_cons (dv (i := 1) (k.blk) rfl rfl) (da_nil))) (deGI rfl h.c_MOST_WIDE))))) (da_nil))))) (ds_one (ds_ret (de_bl))) (ds_nil)) (ds_cons (ds_if (dt_w (dw_or (dt_not (dt_val (de_callB (call_all' k.t) rfl h.m_all b_all (da_cons (deLc (own := [("row", 1)]) k (.inl q0) (by decide) (di_list k.t (dv (i := 0) k rfl rfl)) (by kernel_rfl) (fun _ _ _ _ _ => dgn (i := 1) (k.blk) (.inl q0) rfl rfl) (fun _ _ _ _ _ => dp_nil) (fun _ _ _ _ _ => de_cmp (op_eq' (k.blk).t) (de_callB (call_len' (k.blk).t) rfl h.m_len b_len (da_cons (dv (i := 1) (k.blk) rfl rfl) (da_nil))) (de_callB (call_len' (k.blk).t) rfl h.m_len b_len (da_cons (de_ix (ixA (k.blk).t) (dv (i := 0) (k.blk) rfl rfl) (de_int)) (da_nil))))) (da_nil))))) (dw_or1 (dt_cmp (op_gt' k.t) (de_op (op_mul' k.t) (de_callB (call_len' k.t) rfl h.m_len b_len (da_cons (dv (i := 0) k rfl rfl) (da_nil))) (de_callB (call_len' k.t) rfl h.m_len b_len (da_cons (de_ix (ixA k.t) (dv (i := 0) k rfl rfl) (de_int)) (da_nil)))) (deGI rfl h.c_MOST_TILES))))) (ds_one (ds_ret (de_bl))) (ds_nil)) (ds_one (ds_ret (de_callB (call_all' k.t) rfl h.m_all b_all (da_cons (deLc2 (own := [("row", 1), ("need", 2)]) (vs1 := [2]) k (.inl q0) (.inl q0) (by decide) (by decide) (by decide) (ty_nm) (di_list k.t (dv (i := 0) k rfl rfl)) (by kernel_rfl) (fun _ _ _ _ _ => dgn (i := 1) (k.blk) (.inl q0) rfl rfl) (fun _ _ _ _ _ => dp_nil) (fun _ _ _ _ _ => di_list (k.blk).t (dv (i := 1) (k.blk) rfl rfl)) (fun _ _ _ _ _ => dgn (i := 2) (k.blk) (.inl q0) rfl rfl) (fun _ _ _ _ _ => dp_nil) (fun _ _ _ _ _ => deFn (k.blk) (ok_is_number h) rfl rfl h.g_is_number h.d_is_number.kp (b_is_number h) (da_cons (dv (i := 2) (k.blk) rfl rfl) (da_cons (de_int) (da_cons (deGI rfl h.c_MOST_NEED) (da_nil)))))) (da_nil)))))))
theorem ok_is_tile_of (h : Wl G q) : FnD G (2 + 1) 0 (He.ga G.K "is_tile_of") (q 6) P_is_tile_of false S_is_tile_of :=
  fnd_of (k := 2) h.d_is_tile_of sc_is_tile_of g_is_tile_of fun cdv A outer s H E S0 pw fns Φ hr hg hh hp hn => by
    have k := wk_def (G := G) (outer := outer) (H := H) (E := E) (S0 := S0) (pw := pw) (fns := fns) hr hg (by decide +kernel : namesOk N_is_tile_of = true) sc_is_tile_of.nd
    have q0 := hn rfl
    exact ds_one (ds_ret (de_and (deFn k (ok_is_tuple_of h) rfl rfl h.g_is_tuple_of h.d_is_tuple_of.kp (b_is_tuple_of h) (da_cons (dv (i := 2) k rfl rfl) (da_cons (de_int) (da_nil)))) (de_and (deFn k (ok_is_number h) rfl rfl h.g_is_number h.d_is_number.kp (b_is_number h) (da_cons (de_ix (ixA k.t) (dv (i := 2) k rfl rfl) (de_int)) (da_cons (de_int) (da_cons (de_op op_sub' (dv (i := 0) k rfl rfl) (de_int)) (da_nil))))) (de_one (deFn k (ok_is_number h) rfl rfl h.g_is_number h.d_is_number.kp (b_is_number h) (da_cons (de_ix (ixA k.t) (dv (i := 2) k rfl rfl) (de_int)) (da_cons (de_int) (da_cons (de_op op_sub' (dv (i := 1) k rfl rfl) (de_int)) (da_nil)))))))))
theorem ok__law_floor (h : Wl G q) : FnD G (2 + 1) 0 (He.ga G.K "_law_floor") (q 26) P__law_floor true S__law_floor :=
  fnd_of (k := 2) h.d__law_floor sc__law_floor g__law_floor fun cdv A outer s H E S0 pw fns Φ hr hg hh hp hn => by
    have k := wk_def (G := G) (outer := outer) (H := H) (E := E) (S0 := S0) (pw := pw) (fns := fns) hr hg (by decide +kernel : namesOk N__law_floor = true) sc__law_floor.nd
    have q1 := hp rfl
    have pso : PassesOwn (model G.P G.w) _ _ _ := passes_of (X := cxOf (L2.CX G.P G.w) G.P G.w G.K G.mg G.base N__law_floor "_law_floor" (defScope (top 43)) (He.ga G.K "_law_floor") cdv A outer s H E) rfl
    exact ds_cons (dsPar2 (i := 4) (j := 5) k (.inr (by decide)) (.inr (by decide)) rfl rfl (by decide) rfl rfl (da_cons (de_op (op_add' k.t) (de_int) (deFnS k q1 (ok__law_deal h) rfl rfl h.g__law_deal h.d__law_deal.kp (b__law_deal h) rfl rfl (da_cons (dv (i := 1) k rfl rfl) (da_nil)))) (da_cons (de_op (op_add' k.t) (de_int) (deFnS k q1 (ok__law_deal h) rfl rfl h.g__law_deal h.d__law_deal.kp (b__law_deal h) rfl rfl (da_cons (dv (i := 2) k rfl rfl) (da_nil)))) (da_nil)))) (ds_cons (ds_for pso k.t (di_rng1 rfl h.m_range (da_cons (de_int) (da_nil))) (fun _ => dgn (i := 6) (k.hide) (.inr (by decide)) rfl rfl) (fun _ => ds_one (ds_if (dt_cmp (op_gt' (k.hide).t) (de_op (op_mul' (k.hide).t) (dv (i := 4) (k.hide) rfl rfl) (dv (i := 5) (k.hide) rfl rfl)) (dv (i := 3) (k.hide) rfl rfl)) (ds_one (dsPar2 (i := 4) (j := 5) (k.hide) (.inr (by decide)) (.inr (by decide)) rfl rfl (by decide) rfl rfl (da_cons (de_callB (call_max' (k.hide).t) rfl h.m_max b_max (da_cons (de_int) (da_cons (de_op op_sub' (dv (i := 4) (k.hide) rfl rfl) (de_int)) (da_nil)))) (da_cons (de_callB (call_max' (k.hide).t) rfl h.m_max b_max (da_cons (de_int) (da_cons (de_op op_sub' (dv (i := 5) (k.hide) rfl rfl) (de_int)) (da_nil)))) (da_nil))))) (ds_nil)))) (ds_cons (ds_asg (deFnS k q1 (ok__law_any h) rfl rfl h.g__law_any h.d__law_any.kp (b__law_any h) rfl rfl (da_cons (de_lst (da_cons (de_int) (da_cons (de_int) (da_cons (de_int) (da_cons (de_int) (da_nil)))))) (da_nil))) (dgn (i := 7) k (.inr (by decide)) rfl rfl)) (ds_cons (dsSet (i := 8) k (.inr (by decide)) rfl rfl (de_lst (da_nil))) (ds_cons (ds_for pso k.t (di_rng1 rfl h.m_range (da_cons (dv (i := 4) k rfl rfl) (da_nil))) (fun _ => dgn (i := 9) (k.hide) (.inr (by decide)) rfl rfl) (fun _ => ds_one (ds_app (i := 8) (k.hide).t rfl (vis_of rfl) (de_callTy (call_tuple' (k.hide).t) rfl h.m_tuple b_tuple (da_cons (deLc (own := [("j", 10)]) (k.hide) (.inr rfl) (by decide) (di_rng1 rfl h.m_range (da_cons (dv (i := 5) (k.hide) rfl rfl) (da_nil))) (by kernel_rfl) (fun _ _ _ _ _ => dgn (i := 10) ((k.hide).blk) (.inr (by decide)) rfl rfl) (fun _ _ _ _ _ => dp_nil) (fun _ _ _ _ _ => de_callB (call_min' ((k.hide).blk).t) rfl h.m_min b_min (da_cons (de_int) (da_cons (deFnS ((k.hide).blk) q1 (ok__law_deal h) rfl rfl h.g__law_deal h.d__law_deal.kp (b__law_deal h) rfl rfl (da_cons (dv (i := 7) ((k.hide).blk) rfl rfl) (da_nil))) (da_nil))))) (da_nil)))))) (ds_frz (i := 8) (ds_one (ds_ret (de_callTy (call_tuple' k.t) rfl h.m_tuple b_tuple (da_cons (dv (i := 8) k rfl rfl) (da_nil))))))))))
theorem ok__law_snugs (h : Wl G q) : FnD G (2 + 1) 0 (He.ga G.K "_law_snugs") (q 31) P__law_snugs false S__law_snugs :=
  fnd_of (k := 2) h.d__law_snugs sc__law_snugs g__law_snugs fun cdv A outer s H E S0 pw fns Φ hr hg hh hp hn => by
    have k := wk_def (G := G) (outer := outer) (H := H) (E := E) (S0 := S0) (pw := pw) (fns := fns) hr hg (by decide +kernel : namesOk N__law_snugs = true) sc__law_snugs.nd
    have q0 := hn rfl
    exact ds_one (ds_ret (deLc (own := [("lot", 1)]) k (.inl q0) (by decide) (di_list k.t (deFn k (ok__law_all_lots h) rfl rfl h.g__law_all_lots h.d__law_all_lots.kp (b__law_all_lots h) (da_cons (deFn k (ok__law_tiles h) rfl rfl h.g__law_tiles h.d__law_tiles.kp (b__law_tiles h) (da_cons (dv (i := 0) k rfl rfl) (da_nil))) (da_nil)))) (by kernel_rfl) (fun _ _ _ _ _ => dgn (i := 1) (k.blk) (.inl q0) rfl rfl) (fun _ _ _ _ _ => dp_one (dt_val (deFn (k.blk) (ok__law_is_snug h) rfl rfl h.g__law_is_snug h.d__law_is_snug.kp (b__law_is_snug h) (da_cons (dv (i := 0) (k.blk) rfl rfl) (da_cons (dv (i := 1) (k.blk) rfl rfl) (da_nil)))))) (fun _ _ _ _ _ => dv (i := 1) (k.blk) rfl rfl)))
theorem ok__law_near (h : Wl G q) : FnD G (2 + 1) 0 (He.ga G.K "_law_near") (q 32) P__law_near true S__law_near :=
  fnd_of (k := 2) h.d__law_near sc__law_near g__law_near fun cdv A outer s H E S0 pw fns Φ hr hg hh hp hn => by
    have k := wk_def (G := G) (outer := outer) (H := H) (E := E) (S0 := S0) (pw := pw) (fns := fns) hr hg (by decide +kernel : namesOk N__law_near = true) sc__law_near.nd
    have q1 := hp rfl
    have pso : PassesOwn (model G.P G.w) _ _ _ := passes_of (X := cxOf (L2.CX G.P G.w) G.P G.w G.K G.mg G.base N__law_near "_law_near" (defScope (top 49)) (He.ga G.K "_law_near") cdv A outer s H E) rfl
    exact ds_cons (dsSet (i := 2) k (.inr (by decide)) rfl rfl (de_lst (da_nil))) (ds_cons (ds_for pso k.t (di_list k.t (dv (i := 1) k rfl rfl)) (fun _ => dgn (i := 3) (k.hide) (.inr (by decide)) rfl rfl) (fun _ => ds_cons (dsSet (i := 4) (k.hide) (.inr (by decide)) rfl rfl (de_lst (da_nil))) (ds_cons (ds_for pso (k.hide).t (di_list (k.hide).t (dv (i := 3) (k.hide) rfl rfl)) (fun _ => dgn (i := 5) ((k.hide).hide) (.inr (by decide)) rfl rfl) (fun _ => ds_cons (ds_asg (deFnS ((k.hide).hide) q1 (ok__law_any h) rfl rfl h.g__law_any h.d__law_any.kp (b__law_any h) rfl rfl (da_cons (de_lst (da_cons (de_int) (da_cons (de_int) (da_cons (de_int) (da_cons (de_int) (da_cons (de_un un_neg' (de_int)) (da_cons (de_op op_sub' (deFnS ((k.hide).hide) q1 (ok__law_deal h) rfl rfl h.g__law_deal h.d__law_deal.kp (b__law_deal h) rfl rfl (da_cons (de_int) (da_nil))) (dv (i := 5) ((k.hide).hide) rfl rfl)) (da_nil)))))))) (da_nil))) (dgn (i := 6) ((k.hide).hide) (.inr (by decide)) rfl rfl)) (ds_one (ds_app (i := 4) ((k.hide).hide).t rfl (vis_of rfl) (de_callB (call_min' ((k.hide).hide).t) rfl h.m_min b_min (da_cons (de_int) (da_cons (de_callB (call_max' ((k.hide).hide).t) rfl h.m_max b_max (da_cons (de_int) (da_cons (de_op (op_add' ((k.hide).hide).t) (dv (i := 5) ((k.hide).hide) rfl rfl) (dv (i := 6) ((k.hide).hide) rfl rfl)) (da_nil)))) (da_nil)))))))) (ds_frz (i := 4) (ds_one (ds_app (i := 2) (k.hide).t rfl (vis_of rfl) (de_callTy (call_tuple' (k.hide).t) rfl h.m_tuple b_tuple (da_cons (dv (i := 4) (k.hide) rfl rfl) (da_nil))))))))) (ds_frz (i := 2) (ds_one (ds_ret (de_callTy (call_tuple' k.t) rfl h.m_tuple b_tuple (da_cons (dv (i := 2) k rfl rfl) (da_nil)))))))
theorem ok_is_tile (h : Wl G q) : FnD G (3 + 1) 0 (He.ga G.K "is_tile") (q 7) P_is_tile false S_is_tile :=
  fnd_of (k := 3) h.d_is_tile sc_is_tile g_is_tile fun cdv A outer s H E S0 pw fns Φ hr hg hh hp hn => by
    have k := wk_def (G := G) (outer := outer) (H := H) (E := E) (S0 := S0) (pw := pw) (fns := fns) hr hg (by decide +kernel : namesOk N_is_tile = true) sc_is_tile.nd
    have q0 := hn rfl
    exact ds_one (ds_ret (deFn k (ok_is_tile_of h) rfl rfl h.g_is_tile_of h.d_is_tile_of.kp (b_is_tile_of h) (da_cons (de_callB (call_len' k.t) rfl h.m_len b_len (da_cons (dv (i := 0) k rfl rfl) (da_nil))) (da_cons (de_callB (call_len' k.t) rfl h.m_len b_len (da_cons (de_ix (ixA k.t) (dv (i := 0) k rfl rfl) (de_int)) (da_nil))) (da_cons (dv (i := 1) k rfl rfl) (da_nil))))))
theorem ok_check_floor (h : Wl G q) : FnD G (3 + 1) 0 (He.ga G.K "check_floor") (q 13) P_check_floor false S_check_floor :=
  fnd_of (k := 3) h.d_check_floor sc_check_floor g_check_floor fun cdv A outer s H E S0 pw fns Φ hr hg hh hp hn => by
    have k := wk_def (G := G) (outer := outer) (H := H) (E := E) (S0 := S0) (pw := pw) (fns := fns) hr hg (by decide +kernel : namesOk N_check_floor = true) sc_check_floor.nd
    have q0 := hn rfl
    exact ds_one (ds_if (dt_not (dt_val (deFn k (ok_is_floor_form h) rfl rfl h.g_is_floor_form h.d_is_floor_form.kp (b_is_floor_form h) (da_cons (dv (i := 0) k rfl rfl) (da_nil))))) (ds_one (ds_never)) (ds_nil))
theorem ok_lots_of (h : Wl G q) : FnD G (3 + 1) 0 (He.ga G.K "lots_of") (q 17) P_lots_of false S_lots_of :=
  fnd_of (k := 3) h.d_lots_of sc_lots_of g_lots_of fun cdv A outer s H E S0 pw fns Φ hr hg hh hp hn => by
    have k := wk_def (G := G) (outer := outer) (H := H) (E := E) (S0 := S0) (pw := pw) (fns := fns) hr hg (by decide +kernel : namesOk N_lots_of = true) sc_lots_of.nd
    have q0 := hn rfl
    exact ds_one (ds_ret (deFn k (ok_every_lot h) rfl rfl h.g_every_lot h.d_every_lot.kp (b_every_lot h) (da_cons (deFn k (ok_tiles_of h) rfl rfl h.g_tiles_of h.d_tiles_of.kp (b_tiles_of h) (da_cons (dv (i := 0) k rfl rfl) (da_nil))) (da_nil))))
theorem ok_beside_of (h : Wl G q) : FnD G (4 + 1) 0 (He.ga G.K "beside_of") (q 11) P_beside_of false S_beside_of :=
  fnd_of (k := 4) h.d_beside_of sc_beside_of g_beside_of fun cdv A outer s H E S0 pw fns Φ hr hg hh hp hn => by
    have k := wk_def (G := G) (outer := outer) (H := H) (E := E) (S0 := S0) (pw := pw) (fns := fns) hr hg (by decide +kernel : namesOk N_beside_of = true) sc_beside_of.nd
    have q0 := hn rfl
    exact ds_cons (ds_asg (dv (i := 1) k rfl rfl) (dg_tup (n := 2) k.t (dg_cons (dgn (i := 2) k (.inl q0) rfl rfl) (dg_cons (dgn (i := 3) k (.inl q0) rfl rfl) (dg_nil))))) (ds_cons (ds_asg (de_lst (da_cons (de_tup (da_cons (de_op op_sub' (dv (i := 2) k rfl rfl) (de_int)) (da_cons (dv (i := 3) k rfl rfl) (da_nil)))) (da_cons (de_tup (da_cons (dv (i := 2) k rfl rfl) (da_cons (de_op op_sub' (dv (i := 3) k rfl rfl) (de_int)) (da_nil)))) (da_cons (de_tup (da_cons (dv (i := 2) k rfl rfl) (da_cons (de_op (op_add' k.t) (dv (i := 3) k rfl rfl) (de_int)) (da_nil)))) (da_cons (de_tup (da_cons (de_op (op_add' k.t) (dv (i := 2) k rfl rfl) (de_int)) (da_cons (dv (i := 3) k rfl rfl) (da_nil)))) (da_nil)))))) (dgn (i := 4) k (.inl q0) rfl rfl)) (ds_one (ds_ret (deLc (own := [("spot", 5)]) k (.inl q0) (by decide) (di_list k.t (dv (i := 4) k rfl rfl)) (by kernel_rfl) (fun _ _ _ _ _ => dgn (i := 5) (k.blk) (.inl q0) rfl rfl) (fun _ _ _ _ _ => dp_one (dt_val (deFn (k.blk) (ok_is_tile h) rfl rfl h.g_is_tile h.d_is_tile.kp (b_is_tile h) (da_cons (dv (i := 0) (k.blk) rfl rfl) (da_cons (dv (i := 5) (k.blk) rfl rfl) (da_nil)))))) (fun _ _ _ _ _ => dv (i := 5) (k.blk) rfl rfl)))))
theorem ok_check_two (h : Wl G q) : FnD G (4 + 1) 0 (He.ga G.K "check_two") (q 16) P_check_two false S_check_two :=
  fnd_of (k := 4) h.d_check_two sc_check_two g_check_two fun cdv A outer s H E S0 pw fns Φ hr hg hh hp hn => by
    have k := wk_def (G := G) (outer := outer) (H := H) (E := E) (S0 := S0) (pw := pw) (fns := fns) hr hg (by decide +kernel : namesOk N_check_two = true) sc_check_two.nd
    have q0 := hn rfl
    exact ds_cons (ds_expr (deFn k (ok_check_floor h) rfl rfl h.g_check_floor h.d_check_floor.kp (b_check_floor h) (da_cons (dv (i := 0) k rfl rfl) (da_nil)))) (ds_cons (ds_expr (deFn k (ok_check_floor h) rfl rfl h.g_check_floor h.d_check_floor.kp (b_check_floor h) (da_cons (dv (i := 1) k rfl rfl) (da_nil)))) (ds_one (ds_expr (deFn k (ok_check_like h) rfl rfl h.g_check_like h.d_check_like.kp (b_check_like h) (da_cons (dv (i := 0) k rfl rfl) (da_cons (dv (i := 1) k rfl rfl) (da_nil)))))))
theorem ok_web_of (h : Wl G q) : FnD G (5 + 1) 0 (He.ga G.K "web_of") (q 12) P_web_of false S_web_of :=
  fnd_of (k := 5) h.d_web_of sc_web_of g_web_of fun cdv A outer s H E S0 pw fns Φ hr hg hh hp hn => by
    have k := wk_def (G := G) (outer := outer) (H := H) (E := E) (S0 := S0) (pw := pw) (fns := fns) hr hg (by decide +kernel : namesOk N_web_of = true) sc_web_of.nd
    have q0 := hn rfl
    exact ds_one (ds_ret (deDc (own := [("tile", 1)]) k (.inl q0) (by decide) (di_list k.t (deFn k (ok_tiles_of h) rfl rfl h.g_tiles_of h.d_tiles_of.kp (b_tiles_of h) (da_cons (dv (i := 0) k rfl rfl) (da_nil)))) (by kernel_rfl) (fun _ _ _ _ _ => dgn (i := 1) (k.blk) (.inl q0) rfl rfl) (fun _ _ _ _ _ => dp_nil) (fun _ _ _ _ _ => dv (i := 1) (k.blk) rfl rfl) (fun _ _ _ _ _ => de_tup (da_cons (deFn (k.blk) (ok_need_in h) rfl rfl h.g_need_in h.d_need_in.kp (b_need_in h) (da_cons (dv (i := 0) (k.blk) rfl rfl) (da_cons (dv (i := 1) (k.blk) rfl rfl) (da_nil)))) (da_cons (deFn (k.blk) (ok_beside_of h) rfl rfl h.g_beside_of h.d_beside_of.kp (b_beside_of h) (da_cons (dv (i := 0) (k.blk) rfl rfl) (da_cons (dv (i := 1) (k.blk) rfl rfl) (da_nil)))) (da_nil))))))
theorem ok_check_few_two (h : Wl G q) : FnD G (5 + 1) 0 (He.ga G.K "check_few_two") (q 19) P_check_few_two false S_check_few_two :=
  fnd_of (k := 5) h.d_check_few_two sc_check_few_two g_check_few_two fun cdv A outer s H E S0 pw fns Φ hr hg hh hp hn => by
    have k := wk_def (G := G) (outer := outer) (H := H) (E := E) (S0 := S0) (pw := pw) (fns := fns) hr hg (by decide +kernel : namesOk N_check_few_two = true) sc_check_few_two.nd
    have q0 := hn rfl
    exact ds_cons (ds_expr (deFn k (ok_check_two h) rfl rfl h.g_check_two h.d_check_two.kp (b_check_two h) (da_cons (dv (i := 0) k rfl rfl) (da_cons (dv (i := 1) k rfl rfl) (da_nil))))) (ds_one (ds_expr (deFn k (ok_check_few h) rfl rfl h.g_check_few h.d_check_few.kp (b_check_few h) (da_cons (dv (i := 0) k rfl rfl) (da_nil)))))
theorem ok_first_telling (h : Wl G q) : FnD G (6 + 1) 0 (He.ga G.K "first_telling") (q 20) P_first_telling false S_first_telling :=
  fnd_of (k := 6) h.d_first_telling sc_first_telling g_first_telling fun cdv A outer s H E S0 pw fns Φ hr hg hh hp hn => by
    have k := wk_def (G := G) (outer := outer) (H := H) (E := E) (S0 := S0) (pw := pw) (fns := fns) hr hg (by decide +kernel : namesOk N_first_telling = true) sc_first_telling.nd
    have q0 := hn rfl
    have pso : PassesOwn (model G.P G.w) _ _ _ := passes_of (X := cxOf (L2.CX G.P G.w) G.P G.w G.K G.mg G.base N_first_telling "first_telling" (defScope (top 36)) (He.ga G.K "first_telling") cdv A outer s H E) rfl
    exact ds_cons (dsPar2 (i := 2) (j := 3) k (.inl q0) (.inl q0) rfl rfl (by decide) rfl rfl (da_cons (deFn k (ok_web_of h) rfl rfl h.g_web_of h.d_web_of.kp (b_web_of h) (da_cons (dv (i := 0) k rfl rfl) (da_nil))) (da_cons (deFn k (ok_web_of h) rfl rfl h.g_web_of h.d_web_of.kp (b_web_of h) (da_cons (dv (i := 1) k rfl rfl) (da_nil))) (da_nil)))) (ds_cons (ds_for pso k.t (di_list k.t (deFn k (ok_lots_of h) rfl rfl h.g_lots_of h.d_lots_of.kp (b_lots_of h) (da_cons (dv (i := 0) k rfl rfl) (da_nil)))) (fun _ => dgn (i := 4) (k.hide) (.inl q0) rfl rfl) (fun _ => ds_one (ds_if (dt_w (dw_and (dt_cmp (op_ne' (k.hide).t) (dv (i := 4) (k.hide) rfl rfl) (de_tup (da_nil))) (dw_and (dt_val (deFn (k.hide) (ok_is_snug_by h) rfl rfl h.g_is_snug_by h.d_is_snug_by.kp (b_is_snug_by h) (da_cons (dv (i := 3) (k.hide) rfl rfl) (da_cons (dv (i := 4) (k.hide) rfl rfl) (da_nil))))) (dw_and1 (dt_not (dt_val (deFn (k.hide) (ok_is_snug_by h) rfl rfl h.g_is_snug_by h.d_is_snug_by.kp (b_is_snug_by h) (da_cons (dv (i := 2) (k.hide) rfl rfl) (da_cons (dv (i := 4) (k.hide) rfl rfl) (da_nil)))))))))) (ds_one (ds_ret (dv (i := 4) (k.hide) rfl rfl))) (ds_nil)))) (ds_one (ds_ret (de_non))))
theorem ok_is_drier (h : Wl G q) : FnD G (7 + 1) 0 (He.ga G.K "is_drier") (q 21) P_is_drier false S_is_drier :=
  fnd_of (k := 7) h.d_is_drier sc_is_drier g_is_drier fun cdv A outer s H E S0 pw fns Φ hr hg hh hp hn => by
    have k := wk_def (G := G) (outer := outer) (H := H) (E := E) (S0 := S0) (pw := pw) (fns := fns) hr hg (by decide +kernel : namesOk N_is_drier = true) sc_is_drier.nd
    have q0 := hn rfl
    exact ds_cons (ds_expr (deFn k (ok_check_few_two h) rfl rfl h.g_check_few_two h.d_check_few_two.kp (b_check_few_two h) (da_cons (dv (i := 0) k rfl rfl) (da_cons (dv (i := 1) k rfl rfl) (da_nil))))) (ds_one (ds_ret (de_cmp op_is' (deFn k (ok_first_telling h) rfl rfl h.g_first_telling h.d_first_telling.kp (b_first_telling h) (da_cons (dv (i := 0) k rfl rfl) (da_cons (dv (i := 1) k rfl rfl) (da_nil)))) (de_non))))
theorem ok_telling_lot (h : Wl G q) : FnD G (7 + 1) 0 (He.ga G.K "telling_lot") (q 22) P_telling_lot false S_telling_lot :=
  fnd_of (k := 7) h.d_telling_lot sc_telling_lot g_telling_lot fun cdv A outer s H E S0 pw fns Φ hr hg hh hp hn => by
    have k := wk_def (G := G) (outer := outer) (H := H) (E := E) (S0 := S0) (pw := pw) (fns := fns) hr hg (by decide +kernel : namesOk N_telling_lot = true) sc_telling_lot.nd
    have q0 := hn rfl
    exact ds_cons (ds_expr (deFn k (ok_check_few_two h) rfl rfl h.g_check_few_two h.d_check_few_two.kp (b_check_few_two h) (da_cons (dv (i := 0) k rfl rfl) (da_cons (dv (i := 1) k rfl rfl) (da_nil))))) (ds_one (ds_ret (deFn k (ok_first_telling h) rfl rfl h.g_first_telling h.d_first_telling.kp (b_first_telling h) (da_cons (dv (i := 0) k rfl rfl) (da_cons (dv (i := 1) k rfl rfl) (da_nil))))))
theorem ok__law_right (h : Wl G q) : FnD G (8 + 1) 0 (He.ga G.K "_law_right") (q 33) P__law_right true S__law_right :=
  fnd_of (k := 8) h.d__law_right sc__law_right g__law_right fun cdv A outer s H E S0 pw fns Φ hr hg hh hp hn => by
    have k := wk_def (G := G) (outer := outer) (H := H) (E := E) (S0 := S0) (pw := pw) (fns := fns) hr hg (by decide +kernel : namesOk N__law_right = true) sc__law_right.nd
    have q1 := hp rfl
    have pso : PassesOwn (model G.P G.w) _ _ _ := passes_of (X := cxOf (L2.CX G.P G.w) G.P G.w G.K G.mg G.base N__law_right "_law_right" (defScope (top 50)) (He.ga G.K "_law_right") cdv A outer s H E) rfl
    exact ds_cons (ds_for pso k.t (di_rng1 rfl h.m_range (da_cons (de_int) (da_nil))) (fun _ => dgn (i := 1) (k.hide) (.inr (by decide)) rfl rfl) (fun _ => ds_cons (ds_asg (deFnS (k.hide) q1 (ok__law_floor h) rfl rfl h.g__law_floor h.d__law_floor.kp (b__law_floor h) rfl rfl (da_cons (de_int) (da_cons (de_int) (da_cons (de_int) (da_nil))))) (dgn (i := 2) (k.hide) (.inr (by decide)) rfl rfl)) (ds_cons (ds_asg (deFnS (k.hide) q1 (ok__law_near h) rfl rfl h.g__law_near h.d__law_near.kp (b__law_near h) rfl rfl (da_cons (dv (i := 2) (k.hide) rfl rfl) (da_nil))) (dgn (i := 3) (k.hide) (.inr (by decide)) rfl rfl)) (ds_cons (dsSetLc (i := 4) (own := [("lot", 8)]) (k.hide) (.inr (by decide)) rfl rfl (.inr rfl) (by decide) (di_list (k.hide).t (deFn (k.hide) (ok__law_snugs h) rfl rfl h.g__law_snugs h.d__law_snugs.kp (b__law_snugs h) (da_cons (dv (i := 3) (k.hide) rfl rfl) (da_nil)))) (by kernel_rfl) (fun _ _ _ _ _ => dgn (i := 8) ((k.hide).blk) (.inr (by decide)) rfl rfl) (fun _ _ _ _ _ => dp_one (dt_not (dt_val (deFn ((k.hide).blk) (ok__law_is_snug h) rfl rfl h.g__law_is_snug h.d__law_is_snug.kp (b__law_is_snug h) (da_cons (dv (i := 2) ((k.hide).blk) rfl rfl) (da_cons (dv (i := 8) ((k.hide).blk) rfl rfl) (da_nil))))))) (fun _ _ _ _ _ => dv (i := 8) ((k.hide).blk) rfl rfl)) (ds_cons (ds_asg (de_lst (da_cons (de_cmp (op_eq' (k.hide).t) (dv (i := 4) (k.hide) rfl rfl) (de_lst (da_nil))) (da_cons (de_if (dt_cmp (op_ne' (k.hide).t) (dv (i := 4) (k.hide) rfl rfl) (de_lst (da_nil))) (de_ix (ixA (k.hide).t) (dv (i := 4) (k.hide) rfl rfl) (de_int)) (de_non)) (da_nil)))) (dgn (i := 5) (k.hide) (.inr (by decide)) rfl rfl)) (ds_cons (ds_asg (de_lst (da_cons (deFn (k.hide) (ok_is_drier h) rfl rfl h.g_is_drier h.d_is_drier.kp (b_is_drier h) (da_cons (dv (i := 2) (k.hide) rfl rfl) (da_cons (dv (i := 3) (k.hide) rfl rfl) (da_nil)))) (da_cons (deFn (k.hide) (ok_telling_lot h) rfl rfl h.g_telling_lot h.d_telling_lot.kp (b_telling_lot h) (da_cons (dv (i := 2) (k.hide) rfl rfl) (da_cons (dv (i := 3) (k.hide) rfl rfl) (da_nil)))) (da_nil)))) (dgn (i := 6) (k.hide) (.inr (by decide)) rfl rfl)) (ds_cons (ds_asg (de_lst (da_cons (deFnK (ks := ["floor2", "floor"]) (k.hide) (ok_is_drier h) rfl rfl h.g_is_drier h.d_is_drier.kp (kb_is_drier_1_0 h) (dk_cons (dv (i := 3) (k.hide) rfl rfl) (dk_cons (dv (i := 2) (k.hide) rfl rfl) (dk_nil)))) (da_cons (deFnK (ks := ["floor2", "floor"]) (k.hide) (ok_telling_lot h) rfl rfl h.g_telling_lot h.d_telling_lot.kp (kb_telling_lot_1_0 h) (dk_cons (dv (i := 3) (k.hide) rfl rfl) (dk_cons (dv (i := 2) (k.hide) rfl rfl) (dk_nil)))) (da_nil)))) (dgn (i := 7) (k.hide) (.inr (by decide)) rfl rfl)) (ds_one (ds_if (dt_cmp (op_ne' (k.hide).t) (de_callB (call_repr' (k.hide).t) rfl h.m_repr b_repr (da_cons (de_lst (da_cons (dv (i := 6) (k.hide) rfl rfl) (da_cons (dv (i := 7) (k.hide) rfl rfl) (da_nil)))) (da_nil))) (de_callB (call_repr' (k.hide).t) rfl h.m_repr b_repr (da_cons (de_lst (da_cons (dv (i := 5) (k.hide) rfl rfl) (da_cons (dv (i := 5) (k.hide) rfl rfl) (da_nil)))) (da_nil)))) (ds_one (ds_ret (de_bl))) (ds_nil)))))))))) (ds_one (ds_ret (de_bl)))
theorem ok_law (h : Wl G q) : FnD G (9 + 1) 0 (He.ga G.K "law") (q 34) P_law false S_law :=
  fnd_of (k := 9) h.d_law sc_law g_law fun cdv A outer s H E S0 pw fns Φ hr hg hh hp hn => by
    have k := wk_def (G := G) (outer := outer) (H := H) (E := E) (S0 := S0) (pw := pw) (fns := fns) hr hg (by decide +kernel : namesOk N_law = true) sc_law.nd
    have q0 := hn rfl
    exact ds_one (ds_ret (de_callB (call_all' k.t) rfl h.m_all b_all (da_cons (deLc (own := [("turn", 1)]) k (.inl q0) (by decide) (di_rng1 rfl h.m_range (da_cons (de_callB (call_max' k.t) rfl h.m_max b_max (da_cons (de_int) (da_cons (de_callB (call_min' k.t) rfl h.m_min b_min (da_cons (de_callB (call_len' k.t) rfl h.m_len b_len (da_cons (dv (i := 0) k rfl rfl) (da_nil))) (da_cons (de_int) (da_nil)))) (da_nil)))) (da_nil))) (by kernel_rfl) (fun _ _ _ _ _ => dgn (i := 1) (k.blk) (.inl q0) rfl rfl) (fun _ _ _ _ _ => dp_nil) (fun _ _ _ _ _ => deFnF (k.blk) (ok__law_right h) rfl rfl h.g__law_right h.d__law_right.kp (b__law_right h) (da_cons (deFn (k.blk) (ok__law_pail h) rfl rfl h.g__law_pail h.d__law_pail.kp (b__law_pail h) (da_cons (dv (i := 0) (k.blk) rfl rfl) (da_cons (dv (i := 1) (k.blk) rfl rfl) (da_nil)))) (da_nil)))) (da_nil))))
end
def hNames_0 : List PySem.Str := ["DampError", "InvalidFloor", "TooMany", "Unlike", "is_whole", "is_number", "is_tuple_of", "by_many", "every_lot", "MOST_ROWS", "MOST_WIDE", "MOST_TILES", "MOST_NEED", "FEW_TILES", "is_floor_form", "is_tile_of", "is_tile", "size_of", "tiles_of", "need_in", "beside_of", "web_of", "check_floor", "check_few", "check_like", "check_two", "lots_of", "is_snug_by", "check_few_two", "first_telling"]
def hNames_1 : List PySem.Str := ["is_drier", "telling_lot", "_law_pail", "_law_deal", "_law_any", "_law_floor", "_law_tiles", "_law_beside", "_law_all_lots", "_law_is_snug", "_law_snugs", "_law_near", "_law_right"]
def hNames : List PySem.Str := hNames_0 ++ hNames_1
def hFacts_0 : List He.Fa := [.glo "is_whole", .glo "is_number", .glo "is_tuple_of", .glo "by_many", .glo "every_lot", .glo "is_floor_form", .glo "is_tile_of", .glo "is_tile", .glo "size_of", .glo "tiles_of", .glo "need_in", .glo "beside_of", .glo "web_of", .glo "check_floor", .glo "check_few", .glo "check_like", .glo "check_two", .glo "lots_of", .glo "is_snug_by", .glo "check_few_two", .glo "first_telling", .glo "is_drier", .glo "telling_lot", .glo "_law_pail", .glo "_law_deal", .glo "_law_any", .glo "_law_floor", .glo "_law_tiles", .glo "_law_beside", .glo "_law_all_lots"]
def hFacts_1 : List He.Fa := [.glo "_law_is_snug", .glo "_law_snugs", .glo "_law_near", .glo "_law_right", .glo "law", .free "abs", .free "all", .free "bool", .free "divmod", .free "int", .free "isinstance", .free "len", .free "max", .free "min", .free "range", .free "repr", .free "sorted", .free "tuple", .int "FEW_TILES" 12, .int "MOST_NEED" 5, .int "MOST_ROWS" 6, .int "MOST_TILES" 24, .int "MOST_WIDE" 6]
def hFacts : List He.Fa := hFacts_0 ++ hFacts_1
def hDefs_0 : List He.DefD := [⟨("is_whole", none), "is_whole", "is_whole", defArgs (top 6), defBody (top 6), defScope (top 6), [], []⟩, ⟨("is_number", none), "is_number", "is_number", defArgs (top 7), defBody (top 7), defScope (top 7), [], []⟩, ⟨("is_tuple_of", none), "is_tuple_of", "is_tuple_of", defArgs (top 8), defBody (top 8), defScope (top 8), [], []⟩, ⟨("by_many", none), "by_many", "by_many", defArgs (top 9), defBody (top 9), defScope (top 9), [], []⟩, ⟨("every_lot", none), "every_lot", "every_lot", defArgs (top 10), defBody (top 10), defScope (top 10), [], []⟩, ⟨("is_floor_form", none), "is_floor_form", "is_floor_form", defArgs (top 17), defBody (top 17), defScope (top 17), [], []⟩, ⟨("is_tile_of", none), "is_tile_of", "is_tile_of", defArgs (top 18), defBody (top 18), defScope (top 18), [], []⟩, ⟨("is_tile", none), "is_tile", "is_tile", defArgs (top 19), defBody (top 19), defScope (top 19), [], []⟩, ⟨("size_of", none), "size_of", "size_of", defArgs (top 20), defBody (top 20), defScope (top 20), [], []⟩, ⟨("tiles_of", none), "tiles_of", "tiles_of", defArgs (top 21), defBody (top 21), defScope (top 21), [], []⟩, ⟨("need_in", none), "need_in", "need_in", defArgs (top 22), defBody (top 22), defScope (top 22), [], []⟩, ⟨("beside_of", none), "beside_of", "beside_of", defArgs (top 23), defBody (top 23), defScope (top 23), [], []⟩, ⟨("web_of", none), "web_of", "web_of", defArgs (top 24), defBody (top 24), defScope (top 24), [], []⟩, ⟨("check_floor", none), "check_floor", "check_floor", defArgs (top 26), defBody (top 26), defScope (top 26), [], []⟩, ⟨("check_few", none), "check_few", "check_few", defArgs (top 27), defBody (top 27), defScope (top 27), [], []⟩, ⟨("check_like", none), "check_like", "check_like", defArgs (top 28), defBody (top 28), defScope (top 28), [], []⟩, ⟨("check_two", none), "check_two", "check_two", defArgs (top 29), defBody (top 29), defScope (top 29), [], []⟩, ⟨("lots_of", none), "lots_of", "lots_of", defArgs (top 31), defBody (top 31), defScope (top 31), [], []⟩, ⟨("is_snug_by", none), "is_snug_by", "is_snug_by", defArgs (top 33), defBody (top 33), defScope (top 33), [], []⟩, ⟨("check_few_two", none), "check_few_two", "check_few_two", defArgs (top 35), defBody (top 35), defScope (top 35), [], []⟩, ⟨("first_telling", none), "first_telling", "first_telling", defArgs (top 36), defBody (top 36), defScope (top 36), [], []⟩, ⟨("is_drier", none), "is_drier", "is_drier", defArgs (top 37), defBody (top 37), defScope (top 37), [], []⟩, ⟨("telling_lot", none), "telling_lot", "telling_lot", defArgs (top 38), defBody (top 38), defScope (top 38), [], []⟩, ⟨("_law_pail", none), "_law_pail", "_law_pail", defArgs (top 40), defBody (top 40), defScope (top 40), [], []⟩, ⟨("_law_deal", none), "_law_deal", "_law_deal", defArgs (top 41), defBody (top 41), defScope (top 41), [], []⟩, ⟨("_law_any", none), "_law_any", "_law_any", defArgs (top 42), defBody (top 42), defScope (top 42), [], []⟩, ⟨("_law_floor", none), "_law_floor", "_law_floor", defArgs (top 43), defBody (top 43), defScope (top 43), [], []⟩, ⟨("_law_tiles", none), "_law_tiles", "_law_tiles", defArgs (top 44), defBody (top 44), defScope (top 44), [], []⟩, ⟨("_law_beside", none), "_law_beside", "_law_beside", defArgs (top 45), defBody (top 45), defScope (top 45), [], []⟩, ⟨("_law_all_lots", none), "_law_all_lots", "_law_all_lots", defArgs (top 46), defBody (top 46), defScope (top 46), [], []⟩]
def hDefs_1 : List He.DefD := [⟨("_law_is_snug", none), "_law_is_snug", "_law_is_snug", defArgs (top 47), defBody (top 47), defScope (top 47), [], []⟩, ⟨("_law_snugs", none), "_law_snugs", "_law_snugs", defArgs (top 48), defBody (top 48), defScope (top 48), [], []⟩, ⟨("_law_near", none), "_law_near", "_law_near", defArgs (top 49), defBody (top 49), defScope (top 49), [], []⟩, ⟨("_law_right", none), "_law_right", "_law_right", defArgs (top 50), defBody (top 50), defScope (top 50), [], []⟩, ⟨("law", none), "law", "law", defArgs (top 51), defBody (top 51), defScope (top 51), [], []⟩]
def hDefs : List He.DefD := hDefs_0 ++ hDefs_1
abbrev hRow : PySem.W.OpenRow := PySem.W.OpenLaw.row PySem.Challenge.rw_damptiles_k31_whole_drier_floors
abbrev hTf : List He.Defn := [("by_many", none), ("_law_all_lots", none)]
abbrev hHook : PySem.W.Hook := He.hookX 4 hFacts hDefs [] hTf (exT hTf)
def hOb (s : PySem.W.SharedT) : He.AlX := He.obsX 4 hFacts hDefs [] hTf (exT hTf) (HandSHeadRun.getT s)
theorem hOb_eq (s : PySem.W.SharedT) : hOb s = hHook.obs s.abs := He.obsX_eq (HandSHeadRun.getT_eq s)
theorem hRun (w : World) : HandSHeadRun.RunEq hRow (PySem.W.view hRow.prog [51]) hHook hOb 3080 hNames w := fun os => by
  kernel_rfl
theorem wd_of {mg : PySem.Str → Option Value} {K : PySem.W.Frag} {h : Heap} (X : K.In h) (N : h.Ns mainGlobals mg) (c : He.SaysD hFacts hDefs K) : ∃ q, Wd mg K q := by
  obtain ⟨fd0, F0⟩ := c.def_ 0 (d := ⟨("is_whole", none), "is_whole", "is_whole", defArgs (top 6), defBody (top 6), defScope (top 6), [], []⟩) rfl
  obtain ⟨fd1, F1⟩ := c.def_ 1 (d := ⟨("is_number", none), "is_number", "is_number", defArgs (top 7), defBody (top 7), defScope (top 7), [], []⟩) rfl
  obtain ⟨fd2, F2⟩ := c.def_ 2 (d := ⟨("is_tuple_of", none), "is_tuple_of", "is_tuple_of", defArgs (top 8), defBody (top 8), defScope (top 8), [], []⟩) rfl
  obtain ⟨fd3, F3⟩ := c.def_ 3 (d := ⟨("by_many", none), "by_many", "by_many", defArgs (top 9), defBody (top 9), defScope (top 9), [], []⟩) rfl
  obtain ⟨fd4, F4⟩ := c.def_ 4 (d := ⟨("every_lot", none), "every_lot", "every_lot", defArgs (top 10), defBody (top 10), defScope (top 10), [], []⟩) rfl
  obtain ⟨fd5, F5⟩ := c.def_ 5 (d := ⟨("is_floor_form", none), "is_floor_form", "is_floor_form", defArgs (top 17), defBody (top 17), defScope (top 17), [], []⟩) rfl
  obtain ⟨fd6, F6⟩ := c.def_ 6 (d := ⟨("is_tile_of", none), "is_tile_of", "is_tile_of", defArgs (top 18), defBody (top 18), defScope (top 18), [], []⟩) rfl
  obtain ⟨fd7, F7⟩ := c.def_ 7 (d := ⟨("is_tile", none), "is_tile", "is_tile", defArgs (top 19), defBody (top 19), defScope (top 19), [], []⟩) rfl
  obtain ⟨fd8, F8⟩ := c.def_ 8 (d := ⟨("size_of", none), "size_of", "size_of", defArgs (top 20), defBody (top 20), defScope (top 20), [], []⟩) rfl
  obtain ⟨fd9, F9⟩ := c.def_ 9 (d := ⟨("tiles_of", none), "tiles_of", "tiles_of", defArgs (top 21), defBody (top 21), defScope (top 21), [], []⟩) rfl
  obtain ⟨fd10, F10⟩ := c.def_ 10 (d := ⟨("need_in", none), "need_in", "need_in", defArgs (top 22), defBody (top 22), defScope (top 22), [], []⟩) rfl
  obtain ⟨fd11, F11⟩ := c.def_ 11 (d := ⟨("beside_of", none), "beside_of", "beside_of", defArgs (top 23), defBody (top 23), defScope (top 23), [], []⟩) rfl
  obtain ⟨fd12, F12⟩ := c.def_ 12 (d := ⟨("web_of", none), "web_of", "web_of", defArgs (top 24), defBody (top 24), defScope (top 24), [], []⟩) rfl
  obtain ⟨fd13, F13⟩ := c.def_ 13 (d := ⟨("check_floor", none), "check_floor", "check_floor", defArgs (top 26), defBody (top 26), defScope (top 26), [], []⟩) rfl
  obtain ⟨fd14, F14⟩ := c.def_ 14 (d := ⟨("check_few", none), "check_few", "check_few", defArgs (top 27), defBody (top 27), defScope (top 27), [], []⟩) rfl
  obtain ⟨fd15, F15⟩ := c.def_ 15 (d := ⟨("check_like", none), "check_like", "check_like", defArgs (top 28), defBody (top 28), defScope (top 28), [], []⟩) rfl
  obtain ⟨fd16, F16⟩ := c.def_ 16 (d := ⟨("check_two", none), "check_two", "check_two", defArgs (top 29), defBody (top 29), defScope (top 29), [], []⟩) rfl
  obtain ⟨fd17, F17⟩ := c.def_ 17 (d := ⟨("lots_of", none), "lots_of", "lots_of", defArgs (top 31), defBody (top 31), defScope (top 31), [], []⟩) rfl
  obtain ⟨fd18, F18⟩ := c.def_ 18 (d := ⟨("is_snug_by", none), "is_snug_by", "is_snug_by", defArgs (top 33), defBody (top 33), defScope (top 33), [], []⟩) rfl
  obtain ⟨fd19, F19⟩ := c.def_ 19 (d := ⟨("check_few_two", none), "check_few_two", "check_few_two", defArgs (top 35), defBody (top 35), defScope (top 35), [], []⟩) rfl
  obtain ⟨fd20, F20⟩ := c.def_ 20 (d := ⟨("first_telling", none), "first_telling", "first_telling", defArgs (top 36), defBody (top 36), defScope (top 36), [], []⟩) rfl
  obtain ⟨fd21, F21⟩ := c.def_ 21 (d := ⟨("is_drier", none), "is_drier", "is_drier", defArgs (top 37), defBody (top 37), defScope (top 37), [], []⟩) rfl
  obtain ⟨fd22, F22⟩ := c.def_ 22 (d := ⟨("telling_lot", none), "telling_lot", "telling_lot", defArgs (top 38), defBody (top 38), defScope (top 38), [], []⟩) rfl
  obtain ⟨fd23, F23⟩ := c.def_ 23 (d := ⟨("_law_pail", none), "_law_pail", "_law_pail", defArgs (top 40), defBody (top 40), defScope (top 40), [], []⟩) rfl
  obtain ⟨fd24, F24⟩ := c.def_ 24 (d := ⟨("_law_deal", none), "_law_deal", "_law_deal", defArgs (top 41), defBody (top 41), defScope (top 41), [], []⟩) rfl
  obtain ⟨fd25, F25⟩ := c.def_ 25 (d := ⟨("_law_any", none), "_law_any", "_law_any", defArgs (top 42), defBody (top 42), defScope (top 42), [], []⟩) rfl
  obtain ⟨fd26, F26⟩ := c.def_ 26 (d := ⟨("_law_floor", none), "_law_floor", "_law_floor", defArgs (top 43), defBody (top 43), defScope (top 43), [], []⟩) rfl
  obtain ⟨fd27, F27⟩ := c.def_ 27 (d := ⟨("_law_tiles", none), "_law_tiles", "_law_tiles", defArgs (top 44), defBody (top 44), defScope (top 44), [], []⟩) rfl
  obtain ⟨fd28, F28⟩ := c.def_ 28 (d := ⟨("_law_beside", none), "_law_beside", "_law_beside", defArgs (top 45), defBody (top 45), defScope (top 45), [], []⟩) rfl
  obtain ⟨fd29, F29⟩ := c.def_ 29 (d := ⟨("_law_all_lots", none), "_law_all_lots", "_law_all_lots", defArgs (top 46), defBody (top 46), defScope (top 46), [], []⟩) rfl
  obtain ⟨fd30, F30⟩ := c.def_ 30 (d := ⟨("_law_is_snug", none), "_law_is_snug", "_law_is_snug", defArgs (top 47), defBody (top 47), defScope (top 47), [], []⟩) rfl
  obtain ⟨fd31, F31⟩ := c.def_ 31 (d := ⟨("_law_snugs", none), "_law_snugs", "_law_snugs", defArgs (top 48), defBody (top 48), defScope (top 48), [], []⟩) rfl
  obtain ⟨fd32, F32⟩ := c.def_ 32 (d := ⟨("_law_near", none), "_law_near", "_law_near", defArgs (top 49), defBody (top 49), defScope (top 49), [], []⟩) rfl
  obtain ⟨fd33, F33⟩ := c.def_ 33 (d := ⟨("_law_right", none), "_law_right", "_law_right", defArgs (top 50), defBody (top 50), defScope (top 50), [], []⟩) rfl
  obtain ⟨fd34, F34⟩ := c.def_ 34 (d := ⟨("law", none), "law", "law", defArgs (top 51), defBody (top 51), defScope (top 51), [], []⟩) rfl
  refine ⟨fun i => [fd0, fd1, fd2, fd3, fd4, fd5, fd6, fd7, fd8, fd9, fd10, fd11, fd12, fd13, fd14, fd15, fd16, fd17, fd18, fd19, fd20, fd21, fd22, fd23, fd24, fd25, fd26, fd27, fd28, fd29, fd30, fd31, fd32, fd33, fd34].getD i fd0, ?_⟩
  exact {
    m_abs := He.free_ok X N (c.fact 35 (f := .free "abs") rfl)
    m_all := He.free_ok X N (c.fact 36 (f := .free "all") rfl)
    m_bool := He.free_ok X N (c.fact 37 (f := .free "bool") rfl)
    m_divmod := He.free_ok X N (c.fact 38 (f := .free "divmod") rfl)
    m_int := He.free_ok X N (c.fact 39 (f := .free "int") rfl)
    m_isinstance := He.free_ok X N (c.fact 40 (f := .free "isinstance") rfl)
    m_len := He.free_ok X N (c.fact 41 (f := .free "len") rfl)
    m_max := He.free_ok X N (c.fact 42 (f := .free "max") rfl)
    m_min := He.free_ok X N (c.fact 43 (f := .free "min") rfl)
    m_range := He.free_ok X N (c.fact 44 (f := .free "range") rfl)
    m_repr := He.free_ok X N (c.fact 45 (f := .free "repr") rfl)
    m_sorted := He.free_ok X N (c.fact 46 (f := .free "sorted") rfl)
    m_tuple := He.free_ok X N (c.fact 47 (f := .free "tuple") rfl)
    c_FEW_TILES := He.int_ok X N (c.fact 48 (f := .int "FEW_TILES" 12) rfl)
    c_MOST_NEED := He.int_ok X N (c.fact 49 (f := .int "MOST_NEED" 5) rfl)
    c_MOST_ROWS := He.int_ok X N (c.fact 50 (f := .int "MOST_ROWS" 6) rfl)
    c_MOST_TILES := He.int_ok X N (c.fact 51 (f := .int "MOST_TILES" 24) rfl)
    c_MOST_WIDE := He.int_ok X N (c.fact 52 (f := .int "MOST_WIDE" 6) rfl)
    g_is_whole := He.glo_ok X N (c.fact 0 (f := .glo "is_whole") rfl)
    d_is_whole := F0
    g_is_number := He.glo_ok X N (c.fact 1 (f := .glo "is_number") rfl)
    d_is_number := F1
    g_is_tuple_of := He.glo_ok X N (c.fact 2 (f := .glo "is_tuple_of") rfl)
    d_is_tuple_of := F2
    g_by_many := He.glo_ok X N (c.fact 3 (f := .glo "by_many") rfl)
    d_by_many := F3
    g_every_lot := He.glo_ok X N (c.fact 4 (f := .glo "every_lot") rfl)
    d_every_lot := F4
    g_is_floor_form := He.glo_ok X N (c.fact 5 (f := .glo "is_floor_form") rfl)
    d_is_floor_form := F5
    g_is_tile_of := He.glo_ok X N (c.fact 6 (f := .glo "is_tile_of") rfl)
    d_is_tile_of := F6
    g_is_tile := He.glo_ok X N (c.fact 7 (f := .glo "is_tile") rfl)
    d_is_tile := F7
    g_size_of := He.glo_ok X N (c.fact 8 (f := .glo "size_of") rfl)
    d_size_of := F8
    g_tiles_of := He.glo_ok X N (c.fact 9 (f := .glo "tiles_of") rfl)
    d_tiles_of := F9
    g_need_in := He.glo_ok X N (c.fact 10 (f := .glo "need_in") rfl)
    d_need_in := F10
    g_beside_of := He.glo_ok X N (c.fact 11 (f := .glo "beside_of") rfl)
    d_beside_of := F11
    g_web_of := He.glo_ok X N (c.fact 12 (f := .glo "web_of") rfl)
    d_web_of := F12
    g_check_floor := He.glo_ok X N (c.fact 13 (f := .glo "check_floor") rfl)
    d_check_floor := F13
    g_check_few := He.glo_ok X N (c.fact 14 (f := .glo "check_few") rfl)
    d_check_few := F14
    g_check_like := He.glo_ok X N (c.fact 15 (f := .glo "check_like") rfl)
    d_check_like := F15
    g_check_two := He.glo_ok X N (c.fact 16 (f := .glo "check_two") rfl)
    d_check_two := F16
    g_lots_of := He.glo_ok X N (c.fact 17 (f := .glo "lots_of") rfl)
    d_lots_of := F17
    g_is_snug_by := He.glo_ok X N (c.fact 18 (f := .glo "is_snug_by") rfl)
    d_is_snug_by := F18
    g_check_few_two := He.glo_ok X N (c.fact 19 (f := .glo "check_few_two") rfl)
    d_check_few_two := F19
    g_first_telling := He.glo_ok X N (c.fact 20 (f := .glo "first_telling") rfl)
    d_first_telling := F20
    g_is_drier := He.glo_ok X N (c.fact 21 (f := .glo "is_drier") rfl)
    d_is_drier := F21
    g_telling_lot := He.glo_ok X N (c.fact 22 (f := .glo "telling_lot") rfl)
    d_telling_lot := F22
    g__law_pail := He.glo_ok X N (c.fact 23 (f := .glo "_law_pail") rfl)
    d__law_pail := F23
    g__law_deal := He.glo_ok X N (c.fact 24 (f := .glo "_law_deal") rfl)
    d__law_deal := F24
    g__law_any := He.glo_ok X N (c.fact 25 (f := .glo "_law_any") rfl)
    d__law_any := F25
    g__law_floor := He.glo_ok X N (c.fact 26 (f := .glo "_law_floor") rfl)
    d__law_floor := F26
    g__law_tiles := He.glo_ok X N (c.fact 27 (f := .glo "_law_tiles") rfl)
    d__law_tiles := F27
    g__law_beside := He.glo_ok X N (c.fact 28 (f := .glo "_law_beside") rfl)
    d__law_beside := F28
    g__law_all_lots := He.glo_ok X N (c.fact 29 (f := .glo "_law_all_lots") rfl)
    d__law_all_lots := F29
    g__law_is_snug := He.glo_ok X N (c.fact 30 (f := .glo "_law_is_snug") rfl)
    d__law_is_snug := F30
    g__law_snugs := He.glo_ok X N (c.fact 31 (f := .glo "_law_snugs") rfl)
    d__law_snugs := F31
    g__law_near := He.glo_ok X N (c.fact 32 (f := .glo "_law_near") rfl)
    d__law_near := F32
    g__law_right := He.glo_ok X N (c.fact 33 (f := .glo "_law_right") rfl)
    d__law_right := F33
    g_law := He.glo_ok X N (c.fact 34 (f := .glo "law") rfl)
    d_law := F34
  }

theorem law_says {w : World} {mg : PySem.Str → Option Value} {K : PySem.W.Frag} {h : Heap} (X : K.In h) (N : h.Ns mainGlobals mg) (c : He.SaysD hFacts hDefs K) (m : exT hTf K = true) : DL.LawOkT hRow.prog w K mg hTf 10 :=
  let ⟨q, W⟩ := wd_of X N c
  DL.lawOkT_of (fd := q 34) m W.g_law (fun base bi bn lw => ok_law (G := ⟨hRow.prog, w, K, mg, base, tabsQ K hTf, fun _ => .none, fun _ _ _ _ => False⟩) ⟨W, lw _ (.head _), lw _ (.tail _ (.head _))⟩) (fun s u => FunD.bindsA (ps := P_law) W.d_law (fun _ _ _ _ _ _ us hl => match us, hl with | [_], _ => rfl) s [u] rfl) fun zs => p_law zs
end Dk31
open PySem PySem.W PySem.Calls PyProof.Rows

theorem PySem.Challenge.cw_damptiles_k31_whole_drier_floors_holds : PySem.Challenge.rw_damptiles_k31_whole_drier_floors.Holds := by
  w_on; o_law
  refine HandSHeadRun.head_any (r := PySem.W.OpenLaw.row PySem.Challenge.rw_damptiles_k31_whole_drier_floors) (q := PySem.W.view (PySem.W.OpenLaw.row PySem.Challenge.rw_damptiles_k31_whole_drier_floors).prog [51]) (H := Dk31.hHook) (ob := Dk31.hOb) (M := 3080) (loose := Dk31.hNames) (d := HandSHeadRun.topDef (PySem.W.OpenLaw.row PySem.Challenge.rw_damptiles_k31_whole_drier_floors).prog 51) (kwd := []) Dk31.hOb_eq
    (by kernel_rfl) (fun s => by kernel_rfl) Dk31.hRun (by kernel_rfl) (by kernel_rfl) (by kernel_rfl) (by rfl) (by first | assumption | decide +kernel) (by decide +kernel) ⟨rfl, rfl, rfl, rfl, rfl, by decide +kernel⟩ ?hw ?hc
  case hw => w_witness2
  case hc =>
    exact DL.law_walkT (l := PySem.Challenge.rw_damptiles_k31_whole_drier_floors) (n := 63) (k := 10) (tf := Dk31.hTf) rfl (by decide) (by kernel_rfl) (by kernel_rfl) ⟨rfl, by decide, by decide⟩ (fun w mg K h X N c => Dk31.law_says (w := w) X N c.t.d c.more)
