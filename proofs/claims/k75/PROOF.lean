import PyProof.Rows.All
import Wide.All
import OpenK.AllK
import Wide.FinOn
import HandS.ForMost
import HandS.Exc
import HandS.ExcCtx
import HandS.HotCalls
import HandS.TryOnly
import HandS.CallSlots
import HandS.Deep
import KE.KDictKeyed
import KE.SortData
import HandS.TupAny
import HandS.SortInts
import HandS.Style
import HandS.WordsExc
import HandS.Ends
import HandS.Property
import HandS.MakeKwOnly
import HandS.Walk
import HandS.Conv
import PyProof.ReprRoads
import HandS.RaiseMore
import KE.GoesEnum
import KE.GoesMore
import HandS.SetFor
import HandS.Strs
import HandS.Zip
import HandS.SortKw
import HandS.Remove
import KE.KItemsList
import KE.KDictZip
import KE.GoesZip
import HandS.IsInst
import HandS.SortRule
import HandS.Text
import KE.KCallOwn
import KE.KDictSum
import KE.KDictDisplayH
import HandS.ExcOwn
import HandS.TryMany
import PyProof.EqAt
import PyProof.EqKinds
import PyProof.TupleCall
import Open.SpecLaws
import KE.OsGo
import PyProof.Rows.SortShellAny
import HandS.TupMul
import HandS.More
import KE.KExcIs
import HandS.ExcIs
import PySem.Challenge.RW_soldages_k75_stocks_that_are_never_worse
set_option Elab.async false
set_option linter.all false
set_option maxRecDepth 100000
set_option maxHeartbeats 4000000
/-! The value layer: data by value, ownership, slots. -/
namespace PV
open PySem PySem.Spec L2

/-- data by value -/
inductive D where
  | non | bl (b : Bool) | int (i : Int) | str (x : Str)
  | tup (xs : List D) | lst (xs : List D)
  | dK (ks : List Key) (xs : List D)
  /-- a dict whose keys are tuples of ints, texts, None and such tuples -/
  | dT (ks xs : List D)
  | ins (c : Nat) (xs : List D)
  /-- the script -/
  | scr (ns : List Int)
  /-- an empty tuple of the module -/
  | kt
  /-- a caught error that is kept: its class, its fields -/
  | err (c : Nat) (xs : List D)
  /-- some text (true), some object (false) -/
  | unk (b : Bool)

/-- where the classes stand; the names of their attributes in order -/
structure Gx where
  K : PySem.W.Frag
  ca : Nat → Addr
  cn : Nat → List Str
  w : World

/-- the script: locked, or one of the module's own -/
def ScrAt (K : PySem.W.Frag) (H : Hp) (a : Addr) (ns : List Int) : Prop := (∃ o, H a = some (.frz o (.lst (ns.map V.int)))) ∨ SqL K (fun _ => none) a (ns.map V.int)
theorem ScrAt.sq {K : PySem.W.Frag} {H : Hp} {a : Addr} {ns : List Int} (h : ScrAt K H a ns) : SqL K H a (ns.map V.int) := by
  rcases h with ⟨o, h⟩ | (h | ⟨o, h⟩) | h
  · exact .inl (.inr ⟨o, h⟩)
  · cases h
  · cases h
  · exact .inr h
/-! data that are keys -/
mutual
def keyN : D → Option NestedKey
  | .non => some NestedKey.none
  | .int i => some (NestedKey.num i)
  | .str x => some (NestedKey.text x)
  | .tup xs => (keysN xs).map NestedKey.tup
  | .kt => some (NestedKey.tup [])
  | _ => none
def keysN : List D → Option (List NestedKey)
  | [] => some []
  | d :: ds => match keyN d, keysN ds with
    | some k, some ks => some (k :: ks)
    | _, _ => none
end
abbrev Ents := List (NestedKey × Addr × Value)
def entN (w : World) (x : NestedKey × Addr × Value) : DictEntry := ⟨x.1.hash w, .ref x.2.1, x.2.2⟩
/-- the dict at a has these entries -/
def dictAt (w : World) (a : Addr) (es : Ents) : Heap → Prop := fun h => ∃ o e ep, h.get? a = some o ∧ o.ExactDict ∧ o.data = .dict e ep ∧ e.toList = es.map (entN w) ∧ (es.map (·.1)).Nodup
/-- the entries are those keys, those values -/
structure DEnt (a : Addr) (ks : List D) (kv vs : List V) (es : Ents) : Prop where
  keys : keysN ks = some (es.map (·.1))
  kv : kv = es.map fun e => V.ref e.2.1
  vals : Vals vs (es.map (·.2.2))
  size : es.length ≤ sizeLine
  deep : ∀ e ∈ es, e.1.depth ≤ 8
  sys : (a == sysModules) = false
/-- an error object of that class, with that dict, at a; it is not raised -/
def errAt (cls : Value) (od : Option Addr) (a : Addr) : Heap → Prop := fun h => ∃ oe vs, h.get? a = some oe ∧ L2N.Zn cls od oe ∧ oe.data = .fields vs
mutual
/-- v is d in the heap H; the addresses that matter satisfy P -/
def Rep (G : Gx) (H : Hp) (P : Addr → Prop) : D → V → Prop
  | .non, v => v = .non
  | .bl b, v => v = .bl b
  | .int i, v => v = .int i
  | .str x, v => v = .str x
  | .tup xs, v => ∃ a vs, v = .ref a ∧ H a = some (.tup vs) ∧ Reps G H P xs vs
  | .lst xs, v => ∃ a vs, v = .ref a ∧ P a ∧ H a = some (.lst vs) ∧ Reps G H P xs vs
  | .dK ks xs, v => ∃ a vs, v = .ref a ∧ P a ∧ H a = some (.dK (ks.zip vs)) ∧ ks.length = vs.length ∧ Reps G H P xs vs
  | .dT ks xs, v => ∃ a kv vs es, v = .ref a ∧ P a ∧ H a = some (.ext (dictAt G.w a es)) ∧ DEnt a ks kv vs es ∧ Reps G H P ks kv ∧ Reps G H P xs vs
  | .ins c xs, v => ∃ a dx vs, v = .ref a ∧ P a ∧ H a = some (.ins (G.ca c) dx ((G.cn c).zip vs)) ∧ vs.length ≤ (G.cn c).length ∧ Reps G H P xs vs
  | .scr ns, v => ∃ a, v = .ref a ∧ ScrAt G.K H a ns
  | .kt, v => ∃ a, v = .ref a ∧ SqT G.K (fun _ => none) a []
  | .err c xs, v => ∃ a od vs, v = .ref a ∧ P a ∧ H a = some (.ext (errAt (.ref (G.ca c)) od a)) ∧ Reps G H P xs vs ∧ (∀ dx, od = some dx → P dx ∧ H dx = some (.xd ((G.cn c).zip vs)) ∧ vs.length = (G.cn c).length) ∧ (od = none → xs = [])
  | .unk b, v => (b = true ∧ ∃ x, v = .str x) ∨ (b = false ∧ ∃ a, v = .ref a)
def Reps (G : Gx) (H : Hp) (P : Addr → Prop) : List D → List V → Prop
  | [], vs => vs = []
  | d :: ds, vs => ∃ v r, vs = v :: r ∧ Rep G H P d v ∧ Reps G H P ds r
end

/-- tuples never change, nor do locked things -/
def Tk (H H' : Hp) : Prop := (∀ a vs, H a = some (.tup vs) → H' a = some (.tup vs)) ∧ ∀ a o u, H a = some (.frz o (.lst u)) → H' a = some (.frz o (.lst u))
theorem Tk.refl (H : Hp) : Tk H H := ⟨fun _ _ h => h, fun _ _ _ h => h⟩
theorem Tk.trans {H H1 H2 : Hp} (a : Tk H H1) (b : Tk H1 H2) : Tk H H2 := ⟨fun c vs h => b.1 c vs (a.1 c vs h), fun c o u h => b.2 c o u (a.2 c o u h)⟩
mutual
theorem Rep.keep {G : Gx} {H H' : Hp} {P P' : Addr → Prop} (hP : ∀ a, P a → P' a) (hk : ∀ a o, P a → H a = some o → H' a = some o) (ht : Tk H H') : ∀ (d : D) (v : V), Rep G H P d v → Rep G H' P' d v
  | .non, v, h => by simp only [Rep] at h ⊢; exact h
  | .bl b, v, h => by simp only [Rep] at h ⊢; exact h
  | .int i, v, h => by simp only [Rep] at h ⊢; exact h
  | .str x, v, h => by simp only [Rep] at h ⊢; exact h
  | .tup xs, v, h => by
    simp only [Rep] at h ⊢
    obtain ⟨a, vs, e, h1, h2⟩ := h
    exact ⟨a, vs, e, ht.1 _ _ h1, Reps.keep hP hk ht xs vs h2⟩
  | .lst xs, v, h => by
    simp only [Rep] at h ⊢
    obtain ⟨a, vs, e, p, h1, h2⟩ := h
    exact ⟨a, vs, e, hP _ p, hk _ _ p h1, Reps.keep hP hk ht xs vs h2⟩
  | .dK ks xs, v, h => by
    simp only [Rep] at h ⊢
    obtain ⟨a, vs, e, p, h1, hl, h2⟩ := h
    exact ⟨a, vs, e, hP _ p, hk _ _ p h1, hl, Reps.keep hP hk ht xs vs h2⟩
  | .dT ks xs, v, h => by
    simp only [Rep] at h ⊢
    obtain ⟨a, kv, vs, es, e, p, h1, hl, h2, h3⟩ := h
    exact ⟨a, kv, vs, es, e, hP _ p, hk _ _ p h1, hl, Reps.keep hP hk ht ks kv h2, Reps.keep hP hk ht xs vs h3⟩
  | .ins c xs, v, h => by
    simp only [Rep] at h ⊢
    obtain ⟨a, dx, vs, e, p, h1, hl, h2⟩ := h
    exact ⟨a, dx, vs, e, hP _ p, hk _ _ p h1, hl, Reps.keep hP hk ht xs vs h2⟩
  | .scr ns, v, h => by
    simp only [Rep] at h ⊢
    obtain ⟨a, e, h⟩ := h
    exact ⟨a, e, h.elim (fun ⟨o, z⟩ => .inl ⟨o, ht.2 _ _ _ z⟩) .inr⟩
  | .kt, v, h => by simp only [Rep] at h ⊢; exact h
  | .err c xs, v, h => by
    simp only [Rep] at h ⊢
    obtain ⟨a, od, vs, e, p, h1, h2, h3, h4⟩ := h
    exact ⟨a, od, vs, e, hP _ p, hk _ _ p h1, Reps.keep hP hk ht xs vs h2, fun dx hd => ⟨hP _ (h3 dx hd).1, hk _ _ (h3 dx hd).1 (h3 dx hd).2.1, (h3 dx hd).2.2⟩, h4⟩
  | .unk b, v, h => by simp only [Rep] at h ⊢; exact h
theorem Reps.keep {G : Gx} {H H' : Hp} {P P' : Addr → Prop} (hP : ∀ a, P a → P' a) (hk : ∀ a o, P a → H a = some o → H' a = some o) (ht : Tk H H') : ∀ (ds : List D) (vs : List V), Reps G H P ds vs → Reps G H' P' ds vs
  | [], vs, h => by simp only [Reps] at h ⊢; exact h
  | d :: ds, vs, h => by
    simp only [Reps] at h ⊢
    obtain ⟨v, r, e, h1, h2⟩ := h
    exact ⟨v, r, e, Rep.keep hP hk ht d v h1, Reps.keep hP hk ht ds r h2⟩
end

/-- no list, dict or instance in it -/
def flat : D → Bool
  | .tup xs => flats xs
  | .lst _ => false
  | .dK _ _ => false
  | .dT _ _ => false
  | .ins _ _ => false
  | .err _ _ => false
  | _ => true
where flats : List D → Bool
  | [] => true
  | d :: ds => flat d && flats ds
theorem flats_all : ∀ ds : List D, flat.flats ds = ds.all flat
  | [] => by simp [flat.flats]
  | d :: ds => by simp [flat.flats, flats_all ds]

mutual
theorem Rep.flat {G : Gx} {H : Hp} {P P' : Addr → Prop} : ∀ (d : D) (v : V), PV.flat d = true → Rep G H P d v → Rep G H P' d v
  | .non, v, _, h => by simp only [Rep] at h ⊢; exact h
  | .bl b, v, _, h => by simp only [Rep] at h ⊢; exact h
  | .int i, v, _, h => by simp only [Rep] at h ⊢; exact h
  | .str x, v, _, h => by simp only [Rep] at h ⊢; exact h
  | .tup xs, v, f, h => by
    simp only [Rep] at h ⊢
    obtain ⟨a, vs, e, h1, h2⟩ := h
    exact ⟨a, vs, e, h1, Reps.flat xs vs (by simpa [PV.flat] using f) h2⟩
  | .lst xs, v, f, h => by simp [PV.flat] at f
  | .dK ks xs, v, f, h => by simp [PV.flat] at f
  | .dT ks xs, v, f, h => by simp [PV.flat] at f
  | .ins c xs, v, f, h => by simp [PV.flat] at f
  | .scr ns, v, _, h => by simp only [Rep] at h ⊢; exact h
  | .kt, v, _, h => by simp only [Rep] at h ⊢; exact h
  | .err c xs, v, f, h => by simp [PV.flat] at f
  | .unk b, v, _, h => by simp only [Rep] at h ⊢; exact h
theorem Reps.flat {G : Gx} {H : Hp} {P P' : Addr → Prop} : ∀ (ds : List D) (vs : List V), PV.flat.flats ds = true → Reps G H P ds vs → Reps G H P' ds vs
  | [], vs, _, h => by simp only [Reps] at h ⊢; exact h
  | d :: ds, vs, f, h => by
    simp only [Reps] at h ⊢
    obtain ⟨v, r, e, h1, h2⟩ := h
    have f' : PV.flat d = true ∧ PV.flat.flats ds = true := by simpa [PV.flat.flats] using f
    exact ⟨v, r, e, Rep.flat d v f'.1 h1, Reps.flat ds r f'.2 h2⟩
end
end PV

namespace PV
open PySem PySem.Spec L2

/-- shared for good, lent, owned (its items shared for good) -/
inductive Kd where
  | F | B | O
  deriving DecidableEq

/-- what a name or an expression holds -/
inductive Tm where
  | v (k : Kd) (d : D)
  | tp (ts : List Tm) | ls (ts : List Tm)
  | ob (c : Nat) (ts : List Tm)
  | loc (i : Nat)

def RepO (G : Gx) (H : Hp) (fz : Addr → Prop) : D → V → List Addr → Prop
  | .lst xs, v, os => ∃ a vs, v = .ref a ∧ os = [a] ∧ H a = some (.lst vs) ∧ Reps G H fz xs vs
  | .dK ks xs, v, os => ∃ a vs, v = .ref a ∧ os = [a] ∧ H a = some (.dK (ks.zip vs)) ∧ ks.length = vs.length ∧ Reps G H fz xs vs
  | .dT ks xs, v, os => ∃ a kv vs es, v = .ref a ∧ os = [a] ∧ H a = some (.ext (dictAt G.w a es)) ∧ DEnt a ks kv vs es ∧ Reps G H fz ks kv ∧ Reps G H fz xs vs
  | .ins c xs, v, os => ∃ a dx vs, v = .ref a ∧ os = [a] ∧ H a = some (.ins (G.ca c) dx ((G.cn c).zip vs)) ∧ vs.length ≤ (G.cn c).length ∧ Reps G H fz xs vs
  | d, v, os => os = [] ∧ Rep G H fz d v

mutual
def TmR (G : Gx) (H : Hp) (fz pr : Addr → Prop) : Tm → V → List Addr → Prop
  | .v .F d, v, os => os = [] ∧ Rep G H fz d v
  | .v .B d, v, os => os = [] ∧ Rep G H (fun a => fz a ∨ pr a) d v
  | .v .O d, v, os => RepO G H fz d v os
  | .tp ts, v, os => ∃ a vs, v = .ref a ∧ H a = some (.tup vs) ∧ TmRs G H fz pr ts vs os
  | .ls ts, v, os => ∃ a vs o, v = .ref a ∧ os = a :: o ∧ H a = some (.lst vs) ∧ TmRs G H fz pr ts vs o
  | .ob c ts, v, os => ∃ a dx vs o, v = .ref a ∧ os = a :: o ∧ H a = some (.ins (G.ca c) dx ((G.cn c).zip vs)) ∧ vs.length ≤ (G.cn c).length ∧ TmRs G H fz pr ts vs o
  | .loc _, _, _ => False
def TmRs (G : Gx) (H : Hp) (fz pr : Addr → Prop) : List Tm → List V → List Addr → Prop
  | [], vs, os => vs = [] ∧ os = []
  | t :: ts, vs, os => ∃ v r o1 o2, vs = v :: r ∧ os = o1 ++ o2 ∧ TmR G H fz pr t v o1 ∧ TmRs G H fz pr ts r o2
end

/-- what is owned stands in the heap, and is no tuple and nothing locked -/
def Own (H : Hp) (a : Addr) : Prop := (∃ xs, H a = some (.lst xs)) ∨ (∃ kvs, H a = some (.dK kvs)) ∨ (∃ φ, H a = some (.ext φ)) ∨ ∃ C dx fs, H a = some (.ins C dx fs)
theorem Own.some {H : Hp} {a : Addr} (h : Own H a) : ∃ o, H a = some o := by
  rcases h with ⟨_, h⟩ | ⟨_, h⟩ | ⟨_, h⟩ | ⟨_, _, _, h⟩ <;> exact ⟨_, h⟩
theorem Own.ne {H : Hp} {a : Addr} (h : Own H a) : H a ≠ none := by
  obtain ⟨o, e⟩ := h.some
  rw [e]; simp
theorem RepO.own {G : Gx} {H : Hp} {fz : Addr → Prop} {d : D} {v : V} {os : List Addr} (h : RepO G H fz d v os) : ∀ a ∈ os, Own H a := by
  cases d <;> simp only [RepO] at h
  case lst xs => obtain ⟨a, vs, rfl, rfl, h1, _⟩ := h; intro b hb; rw [List.mem_singleton] at hb; subst hb; exact .inl ⟨_, h1⟩
  case dK ks xs => obtain ⟨a, vs, rfl, rfl, h1, _⟩ := h; intro b hb; rw [List.mem_singleton] at hb; subst hb; exact .inr (.inl ⟨_, h1⟩)
  case dT ks xs => obtain ⟨a, kv, vs, es, rfl, rfl, h1, _⟩ := h; intro b hb; rw [List.mem_singleton] at hb; subst hb; exact .inr (.inr (.inl ⟨_, h1⟩))
  case ins c xs => obtain ⟨a, dx, vs, rfl, rfl, h1, _⟩ := h; intro b hb; rw [List.mem_singleton] at hb; subst hb; exact .inr (.inr (.inr ⟨_, _, _, h1⟩))
  all_goals (obtain ⟨rfl, _⟩ := h; intro b hb; cases hb)
mutual
theorem TmR.own {G : Gx} {H : Hp} {fz pr : Addr → Prop} : ∀ (t : Tm) (v : V) (os : List Addr), TmR G H fz pr t v os → ∀ a ∈ os, Own H a
  | .v .F d, v, os, h => by simp only [TmR] at h; obtain ⟨rfl, _⟩ := h; intro a ha; cases ha
  | .v .B d, v, os, h => by simp only [TmR] at h; obtain ⟨rfl, _⟩ := h; intro a ha; cases ha
  | .v .O d, v, os, h => by simp only [TmR] at h; exact h.own
  | .tp ts, v, os, h => by simp only [TmR] at h; obtain ⟨a, vs, rfl, _, h⟩ := h; exact TmRs.own ts vs os h
  | .ls ts, v, os, h => by
    simp only [TmR] at h
    obtain ⟨a, vs, o, rfl, rfl, h1, h⟩ := h
    intro b hb
    rcases List.mem_cons.mp hb with rfl | hb
    · exact .inl ⟨_, h1⟩
    · exact TmRs.own ts vs o h b hb
  | .ob c ts, v, os, h => by
    simp only [TmR] at h
    obtain ⟨a, dx, vs, o, rfl, rfl, h1, _, h⟩ := h
    intro b hb
    rcases List.mem_cons.mp hb with rfl | hb
    · exact .inr (.inr (.inr ⟨_, _, _, h1⟩))
    · exact TmRs.own ts vs o h b hb
  | .loc i, v, os, h => by simp only [TmR] at h
theorem TmRs.own {G : Gx} {H : Hp} {fz pr : Addr → Prop} : ∀ (ts : List Tm) (vs : List V) (os : List Addr), TmRs G H fz pr ts vs os → ∀ a ∈ os, Own H a
  | [], vs, os, h => by simp only [TmRs] at h; obtain ⟨_, rfl⟩ := h; intro a ha; cases ha
  | t :: ts, vs, os, h => by
    simp only [TmRs] at h
    obtain ⟨v, r, o1, o2, rfl, rfl, h1, h2⟩ := h
    intro a ha
    rcases List.mem_append.mp ha with ha | ha
    · exact TmR.own t v o1 h1 a ha
    · exact TmRs.own ts r o2 h2 a ha
end

theorem RepO.keep {G : Gx} {H H' : Hp} {fz fz' : Addr → Prop} {d : D} {v : V} {os : List Addr} (hf : ∀ a, fz a → fz' a) (hk : ∀ a o, (a ∈ os ∨ fz a) → H a = some o → H' a = some o) (ht : Tk H H') (h : RepO G H fz d v os) : RepO G H' fz' d v os := by
  have hk2 : ∀ a o, fz a → H a = some o → H' a = some o := fun a o p => hk a o (.inr p)
  cases d <;> simp only [RepO] at h ⊢
  case lst xs => obtain ⟨a, vs, rfl, rfl, h1, h2⟩ := h; exact ⟨a, vs, rfl, rfl, hk _ _ (.inl (by simp)) h1, Reps.keep hf hk2 ht _ _ h2⟩
  case dK ks xs => obtain ⟨a, vs, rfl, rfl, h1, hl, h2⟩ := h; exact ⟨a, vs, rfl, rfl, hk _ _ (.inl (by simp)) h1, hl, Reps.keep hf hk2 ht _ _ h2⟩
  case dT ks xs => obtain ⟨a, kv, vs, es, rfl, rfl, h1, hl, h2, h3⟩ := h; exact ⟨a, kv, vs, es, rfl, rfl, hk _ _ (.inl (by simp)) h1, hl, Reps.keep hf hk2 ht _ _ h2, Reps.keep hf hk2 ht _ _ h3⟩
  case ins c xs => obtain ⟨a, dx, vs, rfl, rfl, h1, hl, h2⟩ := h; exact ⟨a, dx, vs, rfl, rfl, hk _ _ (.inl (by simp)) h1, hl, Reps.keep hf hk2 ht _ _ h2⟩
  all_goals exact ⟨h.1, Rep.keep hf hk2 ht _ _ h.2⟩
mutual
theorem TmR.keep {G : Gx} {H H' : Hp} {fz fz' pr pr' : Addr → Prop} (hf : ∀ a, fz a → fz' a) (hp : ∀ a, pr a → fz' a ∨ pr' a) (ht : Tk H H') : ∀ (t : Tm) (v : V) (os : List Addr), (∀ a o, (a ∈ os ∨ fz a ∨ pr a) → H a = some o → H' a = some o) →
    TmR G H fz pr t v os → TmR G H' fz' pr' t v os
  | .v .F d, v, os, hk, h => by simp only [TmR] at h ⊢; exact ⟨h.1, Rep.keep hf (fun a o p => hk a o (.inr (.inl p))) ht _ _ h.2⟩
  | .v .B d, v, os, hk, h => by
    simp only [TmR] at h ⊢
    exact ⟨h.1, Rep.keep (fun a p => p.elim (fun z => .inl (hf a z)) (hp a)) (fun a o p => hk a o (.inr p)) ht _ _ h.2⟩
  | .v .O d, v, os, hk, h => by simp only [TmR] at h ⊢; exact h.keep hf (fun a o p => hk a o (p.elim .inl fun z => .inr (.inl z))) ht
  | .tp ts, v, os, hk, h => by
    simp only [TmR] at h ⊢
    obtain ⟨a, vs, e, h1, h2⟩ := h
    exact ⟨a, vs, e, ht.1 _ _ h1, TmRs.keep hf hp ht ts vs os hk h2⟩
  | .ls ts, v, os, hk, h => by
    simp only [TmR] at h ⊢
    obtain ⟨a, vs, o, rfl, rfl, h1, h2⟩ := h
    exact ⟨a, vs, o, rfl, rfl, hk _ _ (.inl (by simp)) h1, TmRs.keep hf hp ht ts vs o (fun b u p => hk b u (p.elim (fun z => .inl (List.mem_cons_of_mem _ z)) .inr)) h2⟩
  | .ob c ts, v, os, hk, h => by
    simp only [TmR] at h ⊢
    obtain ⟨a, dx, vs, o, rfl, rfl, h1, hl, h2⟩ := h
    exact ⟨a, dx, vs, o, rfl, rfl, hk _ _ (.inl (by simp)) h1, hl, TmRs.keep hf hp ht ts vs o (fun b u p => hk b u (p.elim (fun z => .inl (List.mem_cons_of_mem _ z)) .inr)) h2⟩
  | .loc i, v, os, hk, h => by simp only [TmR] at h
theorem TmRs.keep {G : Gx} {H H' : Hp} {fz fz' pr pr' : Addr → Prop} (hf : ∀ a, fz a → fz' a) (hp : ∀ a, pr a → fz' a ∨ pr' a) (ht : Tk H H') : ∀ (ts : List Tm) (vs : List V) (os : List Addr), (∀ a o, (a ∈ os ∨ fz a ∨ pr a) → H a = some o → H' a = some o) →
    TmRs G H fz pr ts vs os → TmRs G H' fz' pr' ts vs os
  | [], vs, os, hk, h => by simp only [TmRs] at h ⊢; exact h
  | t :: ts, vs, os, hk, h => by
    simp only [TmRs] at h ⊢
    obtain ⟨v, r, o1, o2, rfl, rfl, h1, h2⟩ := h
    exact ⟨v, r, o1, o2, rfl, rfl, TmR.keep hf hp ht t v o1 (fun a o p => hk a o (p.elim (fun z => .inl (List.mem_append_left _ z)) .inr)) h1, TmRs.keep hf hp ht ts r o2 (fun a o p => hk a o (p.elim (fun z => .inl (List.mem_append_right _ z)) .inr)) h2⟩
end

/-- slots by value -/
abbrev Ss := List (Option Tm)
def Sl (G : Gx) (H : Hp) (fz pr : Addr → Prop) : Ss → St → List Addr → Prop
  | [], σ, os => σ = [] ∧ os = []
  | none :: ρ, σ, os => ∃ x r, σ = x :: r ∧ Sl G H fz pr ρ r os
  | some t :: ρ, σ, os => ∃ v r o1 o2, σ = some v :: r ∧ os = o1 ++ o2 ∧ TmR G H fz pr t v o1 ∧ Sl G H fz pr ρ r o2

theorem Sl.own {G : Gx} {H : Hp} {fz pr : Addr → Prop} : ∀ {ρ : Ss} {σ : St} {os : List Addr}, Sl G H fz pr ρ σ os → ∀ a ∈ os, Own H a
  | [], σ, os, h => by simp only [Sl] at h; obtain ⟨_, rfl⟩ := h; intro a ha; cases ha
  | none :: ρ, σ, os, h => by simp only [Sl] at h; obtain ⟨x, r, _, h⟩ := h; exact Sl.own h
  | some t :: ρ, σ, os, h => by
    simp only [Sl] at h
    obtain ⟨v, r, o1, o2, rfl, rfl, h1, h2⟩ := h
    intro a ha
    rcases List.mem_append.mp ha with ha | ha
    · exact TmR.own _ _ _ h1 a ha
    · exact Sl.own h2 a ha
theorem Sl.keep {G : Gx} {H H' : Hp} {fz fz' pr pr' : Addr → Prop} (hf : ∀ a, fz a → fz' a) (hp : ∀ a, pr a → fz' a ∨ pr' a) (ht : Tk H H') : ∀ {ρ : Ss} {σ : St} {os : List Addr}, (∀ a o, (a ∈ os ∨ fz a ∨ pr a) → H a = some o → H' a = some o) →
    Sl G H fz pr ρ σ os → Sl G H' fz' pr' ρ σ os
  | [], σ, os, hk, h => by simp only [Sl] at h ⊢; exact h
  | none :: ρ, σ, os, hk, h => by
    simp only [Sl] at h ⊢
    obtain ⟨x, r, e, h⟩ := h
    exact ⟨x, r, e, Sl.keep hf hp ht hk h⟩
  | some t :: ρ, σ, os, hk, h => by
    simp only [Sl] at h ⊢
    obtain ⟨v, r, o1, o2, rfl, rfl, h1, h2⟩ := h
    exact ⟨v, r, o1, o2, rfl, rfl, TmR.keep hf hp ht _ _ _ (fun a o p => hk a o (p.elim (fun z => .inl (List.mem_append_left _ z)) .inr)) h1, Sl.keep hf hp ht (fun a o p => hk a o (p.elim (fun z => .inl (List.mem_append_right _ z)) .inr)) h2⟩
theorem Sl.len {G : Gx} {H : Hp} {fz pr : Addr → Prop} : ∀ {ρ : Ss} {σ : St} {os : List Addr}, Sl G H fz pr ρ σ os → ρ.length = σ.length
  | [], σ, os, h => by simp only [Sl] at h; rw [h.1]; rfl
  | none :: ρ, σ, os, h => by simp only [Sl] at h; obtain ⟨x, r, rfl, h⟩ := h; simp [Sl.len h]
  | some t :: ρ, σ, os, h => by simp only [Sl] at h; obtain ⟨v, r, o1, o2, rfl, rfl, h1, h2⟩ := h; simp [Sl.len h2]
/-- the i-th slot by itself -/
theorem Sl.get {G : Gx} {H : Hp} {fz pr : Addr → Prop} : ∀ {ρ : Ss} {σ : St} {os : List Addr} {i : Nat} {t : Tm}, Sl G H fz pr ρ σ os → ρ[i]? = some (some t) →
    ∃ v o1 o2 o3, σ[i]? = some (some v) ∧ os = o1 ++ (o2 ++ o3) ∧ TmR G H fz pr t v o2 ∧
      (∀ t' H' fz' o2', TmR G H' fz' pr t' v o2' → (∀ a o, (a ∈ o1 ∨ a ∈ o3 ∨ fz a ∨ pr a) → H a = some o → H' a = some o) → (∀ a, fz a → fz' a) → Tk H H' → Sl G H' fz' pr (ρ.set i (some t')) σ (o1 ++ (o2' ++ o3)))
  | [], σ, os, i, t, h, e => by simp at e
  | none :: ρ, σ, os, 0, t, h, e => by simp at e
  | none :: ρ, σ, os, i + 1, t, h, e => by
    simp only [Sl] at h
    obtain ⟨x, r, rfl, h⟩ := h
    obtain ⟨v, o1, o2, o3, e1, e2, h1, h2⟩ := Sl.get (i := i) (t := t) h (by simpa using e)
    refine ⟨v, o1, o2, o3, by simpa using e1, e2, h1, fun t' H' fz' o2' q hk hf ht => ?_⟩
    simp only [List.set_cons_succ, Sl]
    exact ⟨x, r, rfl, h2 t' H' fz' o2' q hk hf ht⟩
  | some t0 :: ρ, σ, os, 0, t, h, e => by
    simp only [Sl] at h
    obtain ⟨v, r, o1, o2, rfl, rfl, h1, h2⟩ := h
    have e' : t0 = t := by simpa using e
    subst e'
    refine ⟨v, [], o1, o2, rfl, rfl, h1, fun t' H' fz' o2' q hk hf ht => ?_⟩
    simp only [List.set_cons_zero, Sl, List.nil_append]
    exact ⟨v, r, o2', o2, rfl, rfl, q, Sl.keep hf (fun a p => .inr p) ht (fun a o p => hk a o (p.elim (fun z => .inr (.inl z)) fun z => .inr (.inr z))) h2⟩
  | some t0 :: ρ, σ, os, i + 1, t, h, e => by
    simp only [Sl] at h
    obtain ⟨v0, r, p1, p2, rfl, rfl, h0, h⟩ := h
    obtain ⟨v, o1, o2, o3, e1, e2, h1, h2⟩ := Sl.get (i := i) (t := t) h (by simpa using e)
    subst e2
    refine ⟨v, p1 ++ o1, o2, o3, by simpa using e1, by simp, h1, fun t' H' fz' o2' q hk hf ht => ?_⟩
    simp only [List.set_cons_succ, Sl]
    refine ⟨v0, r, p1, o1 ++ (o2' ++ o3), rfl, by simp, ?_, ?_⟩
    · exact TmR.keep hf (fun a p => .inr p) ht _ _ _ (fun a o p => hk a o (p.elim (fun z => .inl (List.mem_append_left _ z)) fun z => .inr (.inr z))) h0
    · exact h2 t' H' fz' o2' q (fun a o p => hk a o (p.elim (fun z => .inl (List.mem_append_right _ z)) .inr)) hf ht
/-- the i-th slot is emptied -/
theorem Sl.drop {G : Gx} {H : Hp} {fz pr : Addr → Prop} : ∀ {ρ : Ss} {σ : St} {os : List Addr} {i : Nat} {t : Tm}, Sl G H fz pr ρ σ os → ρ[i]? = some (some t) →
    ∃ v o1 o2 o3, σ[i]? = some (some v) ∧ os = o1 ++ (o2 ++ o3) ∧ TmR G H fz pr t v o2 ∧ Sl G H fz pr (ρ.set i none) σ (o1 ++ o3)
  | [], σ, os, i, t, h, e => by simp at e
  | none :: ρ, σ, os, 0, t, h, e => by simp at e
  | none :: ρ, σ, os, i + 1, t, h, e => by
    simp only [Sl] at h
    obtain ⟨x, r, rfl, h⟩ := h
    obtain ⟨v, o1, o2, o3, e1, e2, h1, h2⟩ := Sl.drop (i := i) (t := t) h (by simpa using e)
    refine ⟨v, o1, o2, o3, by simpa using e1, e2, h1, ?_⟩
    simp only [List.set_cons_succ, Sl]
    exact ⟨x, r, rfl, h2⟩
  | some t0 :: ρ, σ, os, 0, t, h, e => by
    simp only [Sl] at h
    obtain ⟨v, r, o1, o2, rfl, rfl, h1, h2⟩ := h
    have e' : t0 = t := by simpa using e
    subst e'
    refine ⟨v, [], o1, o2, rfl, rfl, h1, ?_⟩
    simp only [List.set_cons_zero, Sl, List.nil_append]
    exact ⟨_, r, rfl, h2⟩
  | some t0 :: ρ, σ, os, i + 1, t, h, e => by
    simp only [Sl] at h
    obtain ⟨v0, r, p1, p2, rfl, rfl, h0, h⟩ := h
    obtain ⟨v, o1, o2, o3, e1, e2, h1, h2⟩ := Sl.drop (i := i) (t := t) h (by simpa using e)
    subst e2
    refine ⟨v, p1 ++ o1, o2, o3, by simpa using e1, by simp, h1, ?_⟩
    simp only [List.set_cons_succ, Sl]
    exact ⟨v0, r, p1, o1 ++ o3, rfl, by simp, h0, h2⟩
/-- a slot is stored -/
theorem Sl.put {G : Gx} {H : Hp} {fz pr : Addr → Prop} {t : Tm} {v : V} {ot : List Addr} (ht : TmR G H fz pr t v ot) : ∀ {ρ : Ss} {σ : St} {os : List Addr} {i : Nat}, Sl G H fz pr ρ σ os → i < ρ.length →
    ∃ o1 o2 o3, os = o1 ++ (o2 ++ o3) ∧ Sl G H fz pr (ρ.set i (some t)) (σ.set i (some v)) (o1 ++ (ot ++ o3))
  | [], σ, os, i, h, e => absurd e (by simp)
  | none :: ρ, σ, os, 0, h, e => by
    simp only [Sl] at h
    obtain ⟨x, r, rfl, h⟩ := h
    exact ⟨[], [], os, rfl, by simp only [List.set_cons_zero, Sl, List.nil_append]; exact ⟨v, r, ot, os, rfl, rfl, ht, h⟩⟩
  | none :: ρ, σ, os, i + 1, h, e => by
    simp only [Sl] at h
    obtain ⟨x, r, rfl, h⟩ := h
    obtain ⟨o1, o2, o3, e1, h1⟩ := Sl.put ht (i := i) h (by simpa using e)
    exact ⟨o1, o2, o3, e1, by simp only [List.set_cons_succ, Sl]; exact ⟨x, _, rfl, h1⟩⟩
  | some t0 :: ρ, σ, os, 0, h, e => by
    simp only [Sl] at h
    obtain ⟨v0, r, o1, o2, rfl, rfl, h1, h2⟩ := h
    exact ⟨[], o1, o2, rfl, by simp only [List.set_cons_zero, Sl, List.nil_append]; exact ⟨v, r, ot, o2, rfl, rfl, ht, h2⟩⟩
  | some t0 :: ρ, σ, os, i + 1, h, e => by
    simp only [Sl] at h
    obtain ⟨v0, r, p1, p2, rfl, rfl, h0, h⟩ := h
    obtain ⟨o1, o2, o3, e1, h1⟩ := Sl.put ht (i := i) h (by simpa using e)
    subst e1
    refine ⟨p1 ++ o1, o2, o3, by simp, ?_⟩
    simp only [List.set_cons_succ, Sl]
    exact ⟨v0, _, p1, o1 ++ (ot ++ o3), rfl, by simp, h0, h1⟩
end PV

namespace PV
open PySem PySem.Spec L2

/-- a state by value: the heap, what is shared for good, what the slots own, the slots -/
structure Sx where
  H : Hp
  fz : Addr → Prop
  os : List Addr
  ρ : Ss
structure SR (G : Gx) (pr : Addr → Prop) (io : List (Nat × V)) (σ : L2.St) (s : Sx) : Prop where
  sl : Sl G s.H s.fz pr s.ρ σ s.os
  nd : s.os.Nodup
  sep : ∀ a ∈ s.os, ¬ s.fz a ∧ ¬ pr a
  dom : ∀ a, (s.fz a ∨ pr a) → s.H a ≠ none
  iov : ∀ p ∈ io, σ[p.1]? = some (some p.2)
structure Ext (s s' : Sx) : Prop where
  keep : ∀ a o, s.H a = some o → a ∉ s.os → s'.H a = some o
  dom : ∀ a, s.H a ≠ none → s'.H a ≠ none
  tk : Tk s.H s'.H
  fz : ∀ a, s.fz a → s'.fz a
  fzo : ∀ a, s'.fz a → s.fz a ∨ a ∈ s.os ∨ s.H a = none
  oso : ∀ a ∈ s'.os, a ∈ s.os ∨ s.H a = none
theorem Ext.refl (s : Sx) : Ext s s := ⟨fun _ _ h _ => h, fun _ h => h, Tk.refl _, fun _ h => h, fun _ h => .inl h, fun _ h => .inl h⟩
theorem none_of_ne {α : Type} {o : Option α} (h : ¬ o ≠ none) : o = none := by
  cases o with
  | none => rfl
  | some _ => exact absurd (by simp) h
theorem Ext.back {s s' : Sx} (e : Ext s s') {a : Addr} (h : s'.H a = none) : s.H a = none := none_of_ne fun z => e.dom a z h
theorem Ext.trans {s s1 s2 : Sx} (a : Ext s s1) (b : Ext s1 s2) : Ext s s2 where
  keep := fun c o h n => b.keep c o (a.keep c o h n) fun z => (a.oso c z).elim n fun y => by rw [h] at y; cases y
  dom := fun c h => b.dom c (a.dom c h)
  tk := a.tk.trans b.tk
  fz := fun c h => b.fz c (a.fz c h)
  fzo := fun c h => by
    rcases b.fzo c h with h | h | h
    · exact a.fzo c h
    · exact .inr (a.oso c h)
    · exact .inr (.inr (a.back h))
  oso := fun c h => by
    rcases b.oso c h with h | h
    · exact a.oso c h
    · exact .inr (a.back h)

/-- what a value in flight is -/
def TmT (G : Gx) (pr : Addr → Prop) (σ : L2.St) (s : Sx) (t : Tm) (v : V) (ot : List Addr) : Prop :=
  match t with
  | .loc i => ot = [] ∧ σ[i]? = some (some v)
  | t => TmR G s.H s.fz pr t v ot
structure Tp (G : Gx) (pr : Addr → Prop) (σ : L2.St) (s : Sx) (t : Tm) (v : V) (ot : List Addr) : Prop where
  rel : TmT G pr σ s t v ot
  nd : ot.Nodup
  sep : ∀ a ∈ ot, ¬ s.fz a ∧ ¬ pr a ∧ a ∉ s.os
/-- where the owned of a value in flight comes from -/
def Frs (s : Sx) (ot : List Addr) : Prop := ∀ a ∈ ot, a ∈ s.os ∨ s.H a = none
theorem TmT.own {G : Gx} {pr : Addr → Prop} {σ : L2.St} {s : Sx} {t : Tm} {v : V} {ot : List Addr} (h : TmT G pr σ s t v ot) : ∀ a ∈ ot, Own s.H a := by
  cases t with
  | loc i => obtain ⟨rfl, _⟩ := h; intro a ha; cases ha
  | v k d => exact TmR.own _ _ _ h
  | tp ts => exact TmR.own _ _ _ h
  | ls ts => exact TmR.own _ _ _ h
  | ob c ts => exact TmR.own _ _ _ h
section
variable {G : Gx} {pr : Addr → Prop} {io : List (Nat × V)} {σ : L2.St} {s s' : Sx} {t : Tm} {v : V} {ot : List Addr}
theorem SR.own (r : SR G pr io σ s) : ∀ a ∈ s.os, Own s.H a := Sl.own r.sl
/-- a value in flight lives on -/
theorem Tp.on (h : Tp G pr σ s t v ot) (r : SR G pr io σ s) (e : Ext s s') : Tp G pr σ s' t v ot := by
  have ex : ∀ a ∈ ot, ∃ o, s.H a = some o := fun a ha => (h.rel.own a ha).some
  have kp : ∀ a o, (a ∈ ot ∨ s.fz a ∨ pr a) → s.H a = some o → s'.H a = some o := fun a o p q => by
    refine e.keep a o q fun z => ?_
    rcases p with p | p | p
    · exact (h.sep a p).2.2 z
    · exact (r.sep a z).1 p
    · exact (r.sep a z).2 p
  refine ⟨?_, h.nd, fun a ha => ⟨fun z => ?_, (h.sep a ha).2.1, fun z => ?_⟩⟩
  · have hr := h.rel
    cases t with
    | loc i => exact hr
    | v k d => exact TmR.keep e.fz (fun a p => .inr p) e.tk _ _ _ kp hr
    | tp ts => exact TmR.keep e.fz (fun a p => .inr p) e.tk _ _ _ kp hr
    | ls ts => exact TmR.keep e.fz (fun a p => .inr p) e.tk _ _ _ kp hr
    | ob c ts => exact TmR.keep e.fz (fun a p => .inr p) e.tk _ _ _ kp hr
  · obtain ⟨o, ho⟩ := ex a ha
    rcases e.fzo a z with q | q | q
    · exact (h.sep a ha).1 q
    · exact (h.sep a ha).2.2 q
    · rw [ho] at q; cases q
  · obtain ⟨o, ho⟩ := ex a ha
    rcases e.oso a z with q | q
    · exact (h.sep a ha).2.2 q
    · rw [ho] at q; cases q
/-- what is owned in flight and what comes later are apart -/
theorem Tp.apart {ot2 : List Addr} (h : Tp G pr σ s t v ot) (f : Frs s ot2) : ∀ a ∈ ot, a ∉ ot2 := fun a ha hb => by
  obtain ⟨o, ho⟩ := (h.rel.own a ha).some
  rcases f a hb with q | q
  · exact (h.sep a ha).2.2 q
  · rw [ho] at q; cases q
theorem Frs.on {s1 : Sx} {ot : List Addr} (f : Frs s1 ot) (e : Ext s s1) : Frs s ot := fun a ha => (f a ha).elim (e.oso a) fun z => .inr (e.back z)
theorem Frs.nil : Frs s [] := fun a ha => by cases ha
end

/-- an error by value -/
structure Er where
  c : Nat
  ds : List D
inductive Ou where
  | ok (t : Tm) (ρ : Ss)
  | ex (e : Er) (ρ : Ss)
  | no
abbrev Ev := Ss → Ou
def ErR (G : Gx) (H : Hp) (fz : Addr → Prop) (e : Er) (cls : Value) (d : Option Addr) : Prop :=
  cls = .ref (G.ca e.c) ∧ match e.ds with
  | [] => d = none
  | x :: xs => ∃ dx vs, d = some dx ∧ fz dx ∧ H dx = some (.xd ((G.cn e.c).zip vs)) ∧ vs.length = (G.cn e.c).length ∧ Reps G H fz (x :: xs) vs
def tEv (G : Gx) (W : WX) (ios : List Nat) (g : Ev) : TE := fun σ H Q => ∃ pr io s, s.H = H ∧ io.map Prod.fst = ios ∧ SR G pr io σ s ∧
  match g s.ρ with
  | .ok t ρ' => ∀ v s' ot, s'.ρ = ρ' → SR G pr io σ s' → Ext s s' → Tp G pr σ s' t v ot → Frs s ot → Q v s'.H
  | .ex e ρ' => ∀ cls d s', s'.ρ = ρ' → SR G pr io σ s' → Ext s s' → ErR G s'.H s'.fz e cls d → W cls d σ s'.H
  | .no => False
/-- the expression x is g by value -/
abbrev PEv (X : Cx) (G : Gx) (W : WX) (ios : List Nat) (x : Expr) (g : Ev) : Prop := PE X x (tEv G W ios g)

/-- argument lists -/
inductive OuL where
  | ok (ts : List Tm) (ρ : Ss)
  | ex (e : Er) (ρ : Ss)
  | no
def TmTs (G : Gx) (pr : Addr → Prop) (σ : L2.St) (s : Sx) : List Tm → List V → List Addr → Prop
  | [], vs, os => vs = [] ∧ os = []
  | t :: ts, vs, os => ∃ v r o1 o2, vs = v :: r ∧ os = o1 ++ o2 ∧ TmT G pr σ s t v o1 ∧ TmTs G pr σ s ts r o2
structure Tps (G : Gx) (pr : Addr → Prop) (σ : L2.St) (s : Sx) (ts : List Tm) (vs : List V) (ot : List Addr) : Prop where
  rel : TmTs G pr σ s ts vs ot
  nd : ot.Nodup
  sep : ∀ a ∈ ot, ¬ s.fz a ∧ ¬ pr a ∧ a ∉ s.os
def tEvs (G : Gx) (W : WX) (ios : List Nat) (g : Ss → OuL) : TA := fun σ H Q => ∃ pr io s, s.H = H ∧ io.map Prod.fst = ios ∧ SR G pr io σ s ∧
  match g s.ρ with
  | .ok ts ρ' => ∀ vs s' ot, s'.ρ = ρ' → SR G pr io σ s' → Ext s s' → Tps G pr σ s' ts vs ot → Frs s ot → Q vs s'.H
  | .ex e ρ' => ∀ cls d s', s'.ρ = ρ' → SR G pr io σ s' → Ext s s' → ErR G s'.H s'.fz e cls d → W cls d σ s'.H
  | .no => False
abbrev PAv (X : Cx) (G : Gx) (W : WX) (ios : List Nat) (xs : List Expr) (g : Ss → OuL) : Prop := PA X xs (tEvs G W ios g)

theorem pe_imp {X : Cx} {x : Expr} {t t' : TE} (h : PE X x t) (i : ∀ σ H Q, t' σ H Q → t σ H Q) : PE X x t' := ⟨fun pins s σ H Q I q => h.run pins s σ H Q I (i σ H Q q)⟩
theorem pa_imp {X : Cx} {x : List Expr} {t t' : TA} (h : PA X x t) (i : ∀ σ H Q, t' σ H Q → t σ H Q) : PA X x t' := ⟨fun pos pins s σ H Q I q => h.run pos pins s σ H Q I (i σ H Q q)⟩
theorem pt_imp {X : Cx} {x : Expr} {t t' : TT} (h : PT X x t) (i : ∀ σ H Q, t' σ H Q → t σ H Q) : PT X x t' := ⟨fun pins s σ H Q I q => h.run pins s σ H Q I (i σ H Q q)⟩

/-- evaluate, then go on -/
def Ou.bind (o : Ou) (k : Tm → Ss → Ou) : Ou := match o with
  | .ok t ρ => k t ρ
  | .ex e ρ => .ex e ρ
  | .no => .no
def Ou.bindL (o : Ou) (k : Tm → Ss → OuL) : OuL := match o with
  | .ok t ρ => k t ρ
  | .ex e ρ => .ex e ρ
  | .no => .no
def OuL.bind (o : OuL) (k : List Tm → Ss → Ou) : Ou := match o with
  | .ok t ρ => k t ρ
  | .ex e ρ => .ex e ρ
  | .no => .no
def OuL.bindL (o : OuL) (k : List Tm → Ss → OuL) : OuL := match o with
  | .ok t ρ => k t ρ
  | .ex e ρ => .ex e ρ
  | .no => .no

/-- what is asked of an outcome, from the state s on: the end of a reading -/
def OuP (G : Gx) (W : WX) (pr : Addr → Prop) (io : List (Nat × V)) (σ : L2.St) (s : Sx) (o : Ou) (Q : VK) : Prop := match o with
  | .ok t ρ' => ∀ v s' ot, s'.ρ = ρ' → SR G pr io σ s' → Ext s s' → Tp G pr σ s' t v ot → Frs s ot → Q v s'.H
  | .ex e ρ' => ∀ cls d s', s'.ρ = ρ' → SR G pr io σ s' → Ext s s' → ErR G s'.H s'.fz e cls d → W cls d σ s'.H
  | .no => False
def OuLP (G : Gx) (W : WX) (pr : Addr → Prop) (io : List (Nat × V)) (σ : L2.St) (s : Sx) (o : OuL) (Q : List V → Hp → Prop) : Prop := match o with
  | .ok ts ρ' => ∀ vs s' ot, s'.ρ = ρ' → SR G pr io σ s' → Ext s s' → Tps G pr σ s' ts vs ot → Frs s ot → Q vs s'.H
  | .ex e ρ' => ∀ cls d s', s'.ρ = ρ' → SR G pr io σ s' → Ext s s' → ErR G s'.H s'.fz e cls d → W cls d σ s'.H
  | .no => False
section
variable {G : Gx} {W : WX} {pr : Addr → Prop} {io : List (Nat × V)} {σ : L2.St} {s s1 : Sx} {ios : List Nat} {g : Ev} {Q : VK}
theorem tEv_of (hi : io.map Prod.fst = ios) (r : SR G pr io σ s) (h : OuP G W pr io σ s (g s.ρ) Q) : tEv G W ios g σ s.H Q := ⟨pr, io, s, rfl, hi, r, h⟩
theorem tEvs_of {g : Ss → OuL} {Q : List V → Hp → Prop} (hi : io.map Prod.fst = ios) (r : SR G pr io σ s) (h : OuLP G W pr io σ s (g s.ρ) Q) : tEvs G W ios g σ s.H Q := ⟨pr, io, s, rfl, hi, r, h⟩
theorem of_tEv {H : Hp} (h : tEv G W ios g σ H Q) : ∃ pr io s, s.H = H ∧ io.map Prod.fst = ios ∧ SR G pr io σ s ∧ OuP G W pr io σ s (g s.ρ) Q := h
theorem of_tEvs {g : Ss → OuL} {H : Hp} {Q : List V → Hp → Prop} (h : tEvs G W ios g σ H Q) : ∃ pr io s, s.H = H ∧ io.map Prod.fst = ios ∧ SR G pr io σ s ∧ OuLP G W pr io σ s (g s.ρ) Q := h
/-- the outcome from a later state is that from an earlier one -/
theorem OuP.later {o : Ou} (h : OuP G W pr io σ s o Q) (e : Ext s s1) : OuP G W pr io σ s1 o Q := by
  cases o with
  | ok t ρ' => exact fun v s' ot h1 h2 h3 h4 h5 => h v s' ot h1 h2 (e.trans h3) h4 (h5.on e)
  | ex e' ρ' => exact fun cls d s' h1 h2 h3 h4 => h cls d s' h1 h2 (e.trans h3) h4
  | no => exact h
theorem OuLP.later {o : OuL} {Q : List V → Hp → Prop} (h : OuLP G W pr io σ s o Q) (e : Ext s s1) : OuLP G W pr io σ s1 o Q := by
  cases o with
  | ok t ρ' => exact fun v s' ot h1 h2 h3 h4 h5 => h v s' ot h1 h2 (e.trans h3) h4 (h5.on e)
  | ex e' ρ' => exact fun cls d s' h1 h2 h3 h4 => h cls d s' h1 h2 (e.trans h3) h4
  | no => exact h
/-- the first part of a bind -/
theorem OuP.bind {o : Ou} {k : Tm → Ss → Ou} (h : OuP G W pr io σ s (o.bind k) Q)
    {R : VK} (hk : ∀ t v s1 ot, SR G pr io σ s1 → Ext s s1 → Tp G pr σ s1 t v ot → Frs s ot → OuP G W pr io σ s1 (k t s1.ρ) Q → R v s1.H) : OuP G W pr io σ s o R := by
  cases o with
  | ok t ρ' =>
    intro v s1 ot e1 r1 x1 p1 f1
    subst e1
    exact hk t v s1 ot r1 x1 p1 f1 (OuP.later h x1)
  | ex e' ρ' => exact h
  | no => exact h
theorem OuP.bindL {o : Ou} {k : Tm → Ss → OuL} {Q : List V → Hp → Prop} (h : OuLP G W pr io σ s (o.bindL k) Q)
    {R : VK} (hk : ∀ t v s1 ot, SR G pr io σ s1 → Ext s s1 → Tp G pr σ s1 t v ot → Frs s ot → OuLP G W pr io σ s1 (k t s1.ρ) Q → R v s1.H) : OuP G W pr io σ s o R := by
  cases o with
  | ok t ρ' =>
    intro v s1 ot e1 r1 x1 p1 f1
    subst e1
    exact hk t v s1 ot r1 x1 p1 f1 (OuLP.later h x1)
  | ex e' ρ' => exact h
  | no => exact h
theorem OuLP.bind {o : OuL} {k : List Tm → Ss → Ou} (h : OuP G W pr io σ s (o.bind k) Q)
    {R : List V → Hp → Prop} (hk : ∀ ts vs s1 ot, SR G pr io σ s1 → Ext s s1 → Tps G pr σ s1 ts vs ot → Frs s ot → OuP G W pr io σ s1 (k ts s1.ρ) Q → R vs s1.H) : OuLP G W pr io σ s o R := by
  cases o with
  | ok t ρ' =>
    intro v s1 ot e1 r1 x1 p1 f1
    subst e1
    exact hk t v s1 ot r1 x1 p1 f1 (OuP.later h x1)
  | ex e' ρ' => exact h
  | no => exact h
theorem OuLP.bindL {o : OuL} {k : List Tm → Ss → OuL} {Q : List V → Hp → Prop} (h : OuLP G W pr io σ s (o.bindL k) Q)
    {R : List V → Hp → Prop} (hk : ∀ ts vs s1 ot, SR G pr io σ s1 → Ext s s1 → Tps G pr σ s1 ts vs ot → Frs s ot → OuLP G W pr io σ s1 (k ts s1.ρ) Q → R vs s1.H) : OuLP G W pr io σ s o R := by
  cases o with
  | ok t ρ' =>
    intro v s1 ot e1 r1 x1 p1 f1
    subst e1
    exact hk t v s1 ot r1 x1 p1 f1 (OuLP.later h x1)
  | ex e' ρ' => exact h
  | no => exact h
/-- the same, told from the first state -/
theorem OuP.bind0 {o : Ou} {k : Tm → Ss → Ou} (h : OuP G W pr io σ s (o.bind k) Q)
    {R : VK} (hk : ∀ t v s1 ot, SR G pr io σ s1 → Ext s s1 → Tp G pr σ s1 t v ot → Frs s ot → OuP G W pr io σ s (k t s1.ρ) Q → R v s1.H) : OuP G W pr io σ s o R := by
  cases o with
  | ok t ρ' =>
    intro v s1 ot e1 r1 x1 p1 f1
    subst e1
    exact hk t v s1 ot r1 x1 p1 f1 h
  | ex e' ρ' => exact h
  | no => exact h
theorem OuLP.bind0 {o : OuL} {k : List Tm → Ss → Ou} (h : OuP G W pr io σ s (o.bind k) Q)
    {R : List V → Hp → Prop} (hk : ∀ ts vs s1 ot, SR G pr io σ s1 → Ext s s1 → Tps G pr σ s1 ts vs ot → Frs s ot → OuP G W pr io σ s (k ts s1.ρ) Q → R vs s1.H) : OuLP G W pr io σ s o R := by
  cases o with
  | ok t ρ' =>
    intro v s1 ot e1 r1 x1 p1 f1
    subst e1
    exact hk t v s1 ot r1 x1 p1 f1 h
  | ex e' ρ' => exact h
  | no => exact h
/-- general: the whole is told from s, the part from s1 -/
theorem OuP.bindLG {o : Ou} {k : Tm → Ss → OuL} {Q : List V → Hp → Prop} (x : Ext s s1) (h : OuLP G W pr io σ s (o.bindL k) Q)
    {R : VK} (hk : ∀ t v s2 ot, SR G pr io σ s2 → Ext s1 s2 → Tp G pr σ s2 t v ot → Frs s1 ot → OuLP G W pr io σ s (k t s2.ρ) Q → R v s2.H) : OuP G W pr io σ s1 o R := by
  cases o with
  | ok t ρ' =>
    intro v s2 ot e1 r1 x1 p1 f1
    subst e1
    exact hk t v s2 ot r1 x1 p1 f1 h
  | ex e' ρ' => exact OuLP.later h x
  | no => exact h
theorem OuLP.bindLG {o : OuL} {k : List Tm → Ss → OuL} {Q : List V → Hp → Prop} (x : Ext s s1) (h : OuLP G W pr io σ s (o.bindL k) Q)
    {R : List V → Hp → Prop} (hk : ∀ ts vs s2 ot, SR G pr io σ s2 → Ext s1 s2 → Tps G pr σ s2 ts vs ot → Frs s1 ot → OuLP G W pr io σ s (k ts s2.ρ) Q → R vs s2.H) : OuLP G W pr io σ s1 o R := by
  cases o with
  | ok t ρ' =>
    intro v s2 ot e1 r1 x1 p1 f1
    subst e1
    exact hk t v s2 ot r1 x1 p1 f1 h
  | ex e' ρ' => exact OuLP.later h x
  | no => exact h
/-- an end without a change: nothing new is owned -/
theorem OuP.here {t : Tm} {v : V} {ot : List Addr} (h : OuP G W pr io σ s (.ok t s.ρ) Q) (r : SR G pr io σ s) (p : Tp G pr σ s t v ot) (f : Frs s ot) : Q v s.H := h v s ot rfl r (Ext.refl s) p f
/-- .. where the value in flight is owned by nobody -/
theorem OuP.done {d : D} {v : V} (h : OuP G W pr io σ s (.ok (.v .F d) s.ρ) Q) (r : SR G pr io σ s) (p : Rep G s.H s.fz d v) : Q v s.H :=
  h.here r (ot := []) ⟨⟨rfl, p⟩, .nil, fun a ha => by cases ha⟩ Frs.nil
end
end PV

namespace PV
open PySem PySem.Spec L2

/-! ### forgetting who owns -/
mutual
def toD : Tm → D
  | .v _ d => d
  | .tp ts => .tup (toDs ts)
  | .ls ts => .lst (toDs ts)
  | .ob c ts => .ins c (toDs ts)
  | .loc _ => .non
def toDs : List Tm → List D
  | [] => []
  | t :: ts => toD t :: toDs ts
end
/-- to be shared for good, if nothing lent is in it -/
def elk (k : Kd) (xs : List D) : Option (List D) := match k with
  | .B => if xs.all flat = true then some xs else none
  | _ => some xs
mutual
def frz : Tm → Option D
  | .v .B d => if flat d = true then some d else none
  | .v _ d => some d
  | .tp ts => (frzs ts).map .tup
  | .ls ts => (frzs ts).map .lst
  | .ob c ts => (frzs ts).map (.ins c)
  | .loc _ => none
def frzs : List Tm → Option (List D)
  | [] => some []
  | t :: ts => match frz t, frzs ts with
    | some d, some ds => some (d :: ds)
    | _, _ => none
end
/-- what stands behind a place -/
def derT (ρ : Ss) : Tm → Option Tm
  | .loc i => match ρ[i]? with
    | some (some t) => some t
    | _ => none
  | t => some t

abbrev TT1 : Addr → Prop := fun _ => True
theorem Rep.any {G : Gx} {H : Hp} {P : Addr → Prop} {d : D} {v : V} (h : Rep G H P d v) : Rep G H TT1 d v := Rep.keep (fun _ _ => trivial) (fun _ _ _ h => h) (Tk.refl H) d v h
theorem Reps.any {G : Gx} {H : Hp} {P : Addr → Prop} {d : List D} {v : List V} (h : Reps G H P d v) : Reps G H TT1 d v := Reps.keep (fun _ _ => trivial) (fun _ _ _ h => h) (Tk.refl H) d v h
theorem Rep.mono {G : Gx} {H : Hp} {P P' : Addr → Prop} {d : D} {v : V} (i : ∀ a, P a → P' a) (h : Rep G H P d v) : Rep G H P' d v := Rep.keep i (fun _ _ _ h => h) (Tk.refl H) d v h
theorem Reps.mono {G : Gx} {H : Hp} {P P' : Addr → Prop} {d : List D} {v : List V} (i : ∀ a, P a → P' a) (h : Reps G H P d v) : Reps G H P' d v := Reps.keep i (fun _ _ _ h => h) (Tk.refl H) d v h
theorem RepO.any {G : Gx} {H : Hp} {fz : Addr → Prop} {d : D} {v : V} {os : List Addr} (h : RepO G H fz d v os) : Rep G H (fun a => fz a ∨ a ∈ os) d v := by
  have i : ∀ a, fz a → fz a ∨ a ∈ os := fun a p => .inl p
  cases d <;> simp only [RepO] at h
  case lst xs => obtain ⟨a, vs, rfl, rfl, h1, h2⟩ := h; simp only [Rep]; exact ⟨a, vs, rfl, .inr (by simp), h1, h2.mono i⟩
  case dK ks xs => obtain ⟨a, vs, rfl, rfl, h1, hl, h2⟩ := h; simp only [Rep]; exact ⟨a, vs, rfl, .inr (by simp), h1, hl, h2.mono i⟩
  case dT ks xs => obtain ⟨a, kv, vs, es, rfl, rfl, h1, hl, h2, h3⟩ := h; simp only [Rep]; exact ⟨a, kv, vs, es, rfl, .inr (by simp), h1, hl, h2.mono i, h3.mono i⟩
  case ins c xs => obtain ⟨a, dx, vs, rfl, rfl, h1, hl, h2⟩ := h; simp only [Rep]; exact ⟨a, dx, vs, rfl, .inr (by simp), h1, hl, h2.mono i⟩
  all_goals exact h.2.mono i
mutual
theorem TmR.toD {G : Gx} {H : Hp} {fz pr : Addr → Prop} : ∀ (t : Tm) (v : V) (os : List Addr), TmR G H fz pr t v os → Rep G H TT1 (PV.toD t) v
  | .v .F d, v, os, h => by simp only [TmR] at h; simp only [PV.toD]; exact h.2.any
  | .v .B d, v, os, h => by simp only [TmR] at h; simp only [PV.toD]; exact h.2.any
  | .v .O d, v, os, h => by simp only [TmR] at h; simp only [PV.toD]; exact h.any.any
  | .tp ts, v, os, h => by simp only [TmR] at h; simp only [PV.toD, Rep]; obtain ⟨a, vs, e, h1, h2⟩ := h; exact ⟨a, vs, e, h1, TmRs.toD ts vs os h2⟩
  | .ls ts, v, os, h => by simp only [TmR] at h; simp only [PV.toD, Rep]; obtain ⟨a, vs, o, e, rfl, h1, h2⟩ := h; exact ⟨a, vs, e, trivial, h1, TmRs.toD ts vs o h2⟩
  | .ob c ts, v, os, h => by simp only [TmR] at h; simp only [PV.toD, Rep]; obtain ⟨a, dx, vs, o, e, rfl, h1, hl, h2⟩ := h; exact ⟨a, dx, vs, e, trivial, h1, hl, TmRs.toD ts vs o h2⟩
  | .loc i, v, os, h => by simp only [TmR] at h
theorem TmRs.toD {G : Gx} {H : Hp} {fz pr : Addr → Prop} : ∀ (ts : List Tm) (vs : List V) (os : List Addr), TmRs G H fz pr ts vs os → Reps G H TT1 (PV.toDs ts) vs
  | [], vs, os, h => by simp only [TmRs] at h; simp only [PV.toDs, Reps]; exact h.1
  | t :: ts, vs, os, h => by
    simp only [TmRs] at h; simp only [PV.toDs, Reps]
    obtain ⟨v, r, o1, o2, rfl, rfl, h1, h2⟩ := h
    exact ⟨v, r, rfl, TmR.toD t v o1 h1, TmRs.toD ts r o2 h2⟩
end
mutual
/-- frozen: the addresses that were owned are shared for good from now on -/
theorem TmR.frz {G : Gx} {H : Hp} {fz pr : Addr → Prop} : ∀ (t : Tm) (v : V) (os : List Addr) (d : D), TmR G H fz pr t v os → PV.frz t = some d → Rep G H (fun a => fz a ∨ a ∈ os) d v
  | .v .F d, v, os, d', h, e => by
    simp only [TmR] at h; simp only [PV.frz, Option.some.injEq] at e; subst e
    exact h.2.mono fun a p => .inl p
  | .v .B d, v, os, d', h, e => by
    simp only [TmR] at h; simp only [PV.frz] at e
    by_cases f : PV.flat d = true
    · rw [if_pos f] at e; cases e; exact Rep.flat _ _ f h.2
    · rw [if_neg f] at e; cases e
  | .v .O d, v, os, d', h, e => by
    simp only [TmR] at h; simp only [PV.frz, Option.some.injEq] at e; subst e
    exact h.any
  | .tp ts, v, os, d', h, e => by
    simp only [TmR] at h; simp only [PV.frz, Option.map_eq_some_iff] at e
    obtain ⟨ds, e1, rfl⟩ := e
    obtain ⟨a, vs, ev, h1, h2⟩ := h
    simp only [Rep]
    exact ⟨a, vs, ev, h1, TmRs.frz ts vs os ds h2 e1⟩
  | .ls ts, v, os, d', h, e => by
    simp only [TmR] at h; simp only [PV.frz, Option.map_eq_some_iff] at e
    obtain ⟨ds, e1, rfl⟩ := e
    obtain ⟨a, vs, o, ev, rfl, h1, h2⟩ := h
    simp only [Rep]
    exact ⟨a, vs, ev, .inr List.mem_cons_self, h1, (TmRs.frz ts vs o ds h2 e1).mono fun b p => p.elim .inl fun z => .inr (List.mem_cons_of_mem _ z)⟩
  | .ob c ts, v, os, d', h, e => by
    simp only [TmR] at h; simp only [PV.frz, Option.map_eq_some_iff] at e
    obtain ⟨ds, e1, rfl⟩ := e
    obtain ⟨a, dx, vs, o, ev, rfl, h1, hl, h2⟩ := h
    simp only [Rep]
    exact ⟨a, dx, vs, ev, .inr List.mem_cons_self, h1, hl, (TmRs.frz ts vs o ds h2 e1).mono fun b p => p.elim .inl fun z => .inr (List.mem_cons_of_mem _ z)⟩
  | .loc i, v, os, d', h, e => by simp only [TmR] at h
theorem TmRs.frz {G : Gx} {H : Hp} {fz pr : Addr → Prop} : ∀ (ts : List Tm) (vs : List V) (os : List Addr) (ds : List D), TmRs G H fz pr ts vs os → PV.frzs ts = some ds → Reps G H (fun a => fz a ∨ a ∈ os) ds vs
  | [], vs, os, ds, h, e => by simp only [TmRs] at h; simp only [PV.frzs, Option.some.injEq] at e; subst e; simp only [Reps]; exact h.1
  | t :: ts, vs, os, ds, h, e => by
    simp only [TmRs] at h; simp only [PV.frzs] at e
    obtain ⟨v, r, o1, o2, rfl, rfl, h1, h2⟩ := h
    cases e1 : PV.frz t with
    | none => rw [e1] at e; cases e
    | some d =>
      cases e2 : PV.frzs ts with
      | none => rw [e1, e2] at e; cases e
      | some ds' =>
        rw [e1, e2] at e
        cases e
        simp only [Reps]
        exact ⟨v, r, rfl, (TmR.frz t v o1 d h1 e1).mono fun a p => p.elim .inl fun z => .inr (List.mem_append_left _ z), (TmRs.frz ts r o2 ds' h2 e2).mono fun a p => p.elim .inl fun z => .inr (List.mem_append_right _ z)⟩
end
theorem Reps.len {G : Gx} {H : Hp} {P : Addr → Prop} : ∀ {ds : List D} {vs : List V}, Reps G H P ds vs → ds.length = vs.length
  | [], vs, h => by simp only [Reps] at h; subst h; rfl
  | d :: ds, vs, h => by simp only [Reps] at h; obtain ⟨v, r, rfl, _, h⟩ := h; simp [Reps.len h]
theorem Reps.app {G : Gx} {H : Hp} {P : Addr → Prop} : ∀ {ds es : List D} {vs ws : List V}, Reps G H P ds vs → Reps G H P es ws → Reps G H P (ds ++ es) (vs ++ ws)
  | [], es, vs, ws, h, h2 => by simp only [Reps] at h; subst h; exact h2
  | d :: ds, es, vs, ws, h, h2 => by
    simp only [Reps] at h
    obtain ⟨v, r, rfl, h1, h⟩ := h
    simp only [List.cons_append, Reps]
    exact ⟨v, r ++ ws, rfl, h1, Reps.app h h2⟩
theorem Reps.get {G : Gx} {H : Hp} {P : Addr → Prop} : ∀ {ds : List D} {vs : List V} {i : Nat} {d : D}, Reps G H P ds vs → ds[i]? = some d → ∃ v, vs[i]? = some v ∧ Rep G H P d v
  | [], vs, i, d, h, e => by simp at e
  | d0 :: ds, vs, 0, d, h, e => by
    simp only [Reps] at h
    obtain ⟨v, r, rfl, h1, h⟩ := h
    have e' : d0 = d := by simpa using e
    subst e'
    exact ⟨v, rfl, h1⟩
  | d0 :: ds, vs, i + 1, d, h, e => by
    simp only [Reps] at h
    obtain ⟨v, r, rfl, h1, h⟩ := h
    obtain ⟨w, e1, e2⟩ := Reps.get h (i := i) (d := d) (by simpa using e)
    exact ⟨w, by simpa using e1, e2⟩
theorem Reps.elk {G : Gx} {H : Hp} {P P' : Addr → Prop} {k : Kd} {xs ys : List D} {vs : List V} (e : PV.elk k xs = some ys) (h : Reps G H P xs vs) (hp : k ≠ .B → ∀ a, P a → P' a) : Reps G H P' ys vs := by
  cases k with
  | F => cases e; exact h.mono (hp (by decide))
  | O => cases e; exact h.mono (hp (by decide))
  | B =>
    simp only [PV.elk] at e
    by_cases f : xs.all PV.flat = true
    · rw [if_pos f] at e; cases e
      exact Reps.flat _ _ (by rw [flats_all]; exact f) h
    · rw [if_neg f] at e; cases e
theorem Reps.drop {G : Gx} {H : Hp} {P : Addr → Prop} : ∀ {ds : List D} {vs : List V} (n : Nat), Reps G H P ds vs → Reps G H P (ds.drop n) (vs.drop n)
  | ds, vs, 0, h => by simpa using h
  | [], vs, n + 1, h => by simp only [Reps] at h; subst h; simp [Reps]
  | d :: ds, vs, n + 1, h => by
    simp only [Reps] at h
    obtain ⟨v, r, rfl, _, h⟩ := h
    simpa using Reps.drop n h
theorem Reps.take {G : Gx} {H : Hp} {P : Addr → Prop} : ∀ {ds : List D} {vs : List V} (n : Nat), Reps G H P ds vs → Reps G H P (ds.take n) (vs.take n)
  | ds, vs, 0, h => by simp [Reps]
  | [], vs, n + 1, h => by simp only [Reps] at h; subst h; simp [Reps]
  | d :: ds, vs, n + 1, h => by
    simp only [Reps] at h
    obtain ⟨v, r, rfl, h1, h⟩ := h
    simp only [List.take_succ_cons, Reps]
    exact ⟨v, _, rfl, h1, Reps.take n h⟩
theorem Reps.set {G : Gx} {H : Hp} {P : Addr → Prop} {d : D} {v : V} (hd : Rep G H P d v) : ∀ {ds : List D} {vs : List V} (n : Nat), Reps G H P ds vs → Reps G H P (ds.set n d) (vs.set n v)
  | [], vs, n, h => by simp only [Reps] at h; subst h; simp [Reps]
  | d0 :: ds, vs, 0, h => by
    simp only [Reps] at h
    obtain ⟨v0, r, rfl, h1, h⟩ := h
    simp only [List.set_cons_zero, Reps]
    exact ⟨v, r, rfl, hd, h⟩
  | d0 :: ds, vs, n + 1, h => by
    simp only [Reps] at h
    obtain ⟨v0, r, rfl, h1, h⟩ := h
    simp only [List.set_cons_succ, Reps]
    exact ⟨v0, _, rfl, h1, Reps.set hd n h⟩
theorem Reps.eraseIdx {G : Gx} {H : Hp} {P : Addr → Prop} : ∀ {ds : List D} {vs : List V} (n : Nat), Reps G H P ds vs → Reps G H P (ds.eraseIdx n) (vs.eraseIdx n)
  | [], vs, n, h => by simp only [Reps] at h; subst h; simp [Reps]
  | d0 :: ds, vs, 0, h => by
    simp only [Reps] at h
    obtain ⟨v0, r, rfl, h1, h⟩ := h
    exact h
  | d0 :: ds, vs, n + 1, h => by
    simp only [Reps] at h
    obtain ⟨v0, r, rfl, h1, h⟩ := h
    simp only [List.eraseIdx_cons_succ, Reps]
    exact ⟨v0, _, rfl, h1, Reps.eraseIdx n h⟩

section
variable {G : Gx} {W : WX} {pr : Addr → Prop} {io : List (Nat × V)} {σ : L2.St} {s s1 : Sx} {ios : List Nat} {Q : VK} {X : Cx}
/-- a new object -/
def Sx.new (s : Sx) (p : Addr) (o : HO) : Sx := { s with H := upd s.H p o }
theorem tk_new {H : Hp} {p : Addr} (hp : H p = none) (o : HO) : Tk H (upd H p o) := ⟨fun a vs h => by rw [upd_ne (ne_of_none h hp)]; exact h, fun a o' u h => by rw [upd_ne (ne_of_none h hp)]; exact h⟩
theorem SR.new (r : SR G pr io σ s) {p : Addr} (hp : s.H p = none) (o : HO) : SR G pr io σ (s.new p o) := by
  refine ⟨Sl.keep (fun _ h => h) (fun _ h => .inr h) (tk_new hp o) (fun a u _ e => by show upd _ _ _ _ = _; rw [upd_ne (ne_of_none e hp)]; exact e) r.sl, r.nd, r.sep, fun a h => ?_, r.iov⟩
  show upd _ _ _ _ ≠ none
  by_cases e : a = p
  · subst e; rw [upd_same]; simp
  · rw [upd_ne e]; exact r.dom a h
theorem Ext.new {p : Addr} (hp : s.H p = none) (o : HO) : Ext s (s.new p o) := by
  refine ⟨fun a u e _ => ?_, fun a h => ?_, tk_new hp o, fun _ h => h, fun _ h => .inl h, fun _ h => .inl h⟩
  · show upd _ _ _ _ = _
    rw [upd_ne (ne_of_none e hp)]; exact e
  · show upd _ _ _ _ ≠ none
    by_cases e : a = p
    · subst e; rw [upd_same]; simp
    · rw [upd_ne e]; exact h
theorem SR.fresh (r : SR G pr io σ s) {p : Addr} (hp : s.H p = none) : ¬ s.fz p ∧ ¬ pr p ∧ p ∉ s.os :=
  ⟨fun z => r.dom p (.inl z) hp, fun z => r.dom p (.inr z) hp, fun z => (r.own p z).ne hp⟩
/-- ends: a new list, a new tuple, a new dict by number or text keys -/
theorem OuP.lst {ds : List D} {vs : List V} (h : OuP G W pr io σ s (.ok (.v .O (.lst ds)) s.ρ) Q) (r : SR G pr io σ s) (hd : Reps G s.H s.fz ds vs) {p : Addr} (hp : s.H p = none) : Q (.ref p) (upd s.H p (.lst vs)) := by
  have f := r.fresh hp
  refine h _ (s.new p (.lst vs)) [p] rfl (r.new hp _) (Ext.new hp _) ⟨?_, by simp, fun a ha => ?_⟩ fun a ha => ?_
  · show TmR _ _ _ _ _ _ _
    simp only [TmR, RepO]
    exact ⟨p, vs, rfl, rfl, upd_same, Reps.keep (fun _ z => z) (fun a o _ e => by show upd _ _ _ _ = _; rw [upd_ne (ne_of_none e hp)]; exact e) (tk_new hp _) _ _ hd⟩
  · rw [List.mem_singleton] at ha; subst ha; exact f
  · rw [List.mem_singleton] at ha; subst ha; exact .inr hp
theorem OuP.tup {ds : List D} {vs : List V} (h : OuP G W pr io σ s (.ok (.v .F (.tup ds)) s.ρ) Q) (r : SR G pr io σ s) (hd : Reps G s.H s.fz ds vs) {p : Addr} (hp : s.H p = none) : Q (.ref p) (upd s.H p (.tup vs)) := by
  refine h _ (s.new p (.tup vs)) [] rfl (r.new hp _) (Ext.new hp _) ⟨?_, .nil, fun a ha => by cases ha⟩ Frs.nil
  show TmR _ _ _ _ _ _ _
  simp only [TmR, Rep]
  exact ⟨trivial, p, vs, rfl, upd_same, Reps.keep (fun _ z => z) (fun a o _ e => by show upd _ _ _ _ = _; rw [upd_ne (ne_of_none e hp)]; exact e) (tk_new hp _) _ _ hd⟩

/-- what stands behind a value in flight -/
theorem SR.at (r : SR G pr io σ s) {i : Nat} {t : Tm} {v : V} (e : s.ρ[i]? = some (some t)) (hv : σ[i]? = some (some v)) : ∃ o, TmR G s.H s.fz pr t v o ∧ ∀ a ∈ o, a ∈ s.os := by
  obtain ⟨v', o1, o2, o3, e1, e2, h, _⟩ := Sl.get r.sl e
  rw [hv] at e1
  cases e1
  exact ⟨o2, h, fun a ha => by rw [e2]; simp [ha]⟩
theorem Tp.der {t u : Tm} {v : V} {ot : List Addr} (p : Tp G pr σ s t v ot) (r : SR G pr io σ s) (e : derT s.ρ t = some u) : ∃ o, TmR G s.H s.fz pr u v o := by
  cases t with
  | loc i =>
    obtain ⟨_, hv⟩ := p.rel
    simp only [derT] at e
    cases q : s.ρ[i]? with
    | none => rw [q] at e; cases e
    | some x =>
      cases x with
      | none => rw [q] at e; cases e
      | some t =>
        rw [q] at e
        cases e
        obtain ⟨o, h, _⟩ := r.at q hv
        exact ⟨o, h⟩
  | v k d => cases e; exact ⟨ot, p.rel⟩
  | tp ts => cases e; exact ⟨ot, p.rel⟩
  | ls ts => cases e; exact ⟨ot, p.rel⟩
  | ob c ts => cases e; exact ⟨ot, p.rel⟩

/-! ### operations on one, on two values -/
def eOp1 (f : Tm → Option Tm) (ga : Ev) : Ev := fun ρ => (ga ρ).bind fun t ρ1 => match (derT ρ1 t).bind f with
  | some r => .ok r ρ1
  | none => .no
def eOp2 (f : Tm → Tm → Option Tm) (ga gb : Ev) : Ev := fun ρ => (ga ρ).bind fun t ρ1 => (gb ρ1).bind fun u ρ2 => match derT ρ2 t, derT ρ2 u with
  | some x, some y => match f x y with
    | some r => .ok r ρ2
    | none => .no
  | _, _ => .no
/-- what is to be shown of an operation: r is its rule's reading -/
def Op1 (G : Gx) (W : WX) (f : Tm → Option Tm) (r : V → Hp → VK → Prop) : Prop := ∀ (pr : Addr → Prop) (io : List (Nat × V)) (σ : L2.St) (s : Sx) (x : V) (tx t : Tm) (ox : List Addr) (Q : VK), SR G pr io σ s → TmR G s.H s.fz pr tx x ox → f tx = some t →
  OuP G W pr io σ s (.ok t s.ρ) Q → r x s.H Q
def Op2 (G : Gx) (W : WX) (f : Tm → Tm → Option Tm) (r : R2) : Prop := ∀ (pr : Addr → Prop) (io : List (Nat × V)) (σ : L2.St) (s : Sx) (x y : V) (tx ty t : Tm) (ox oy : List Addr) (Q : VK), SR G pr io σ s → TmR G s.H s.fz pr tx x ox → TmR G s.H s.fz pr ty y oy → f tx ty = some t →
  OuP G W pr io σ s (.ok t s.ρ) Q → r x y s.H Q
theorem op1_end {f : Tm → Option Tm} {r : V → Hp → VK → Prop} (h : Op1 G W f r) {ga : Ev} {ta : TE} (hta : ta = tEv G W ios ga) {H : Hp} (q : tEv G W ios (eOp1 f ga) σ H Q) : ta σ H (fun x H1 => r x H1 Q) := by
  subst hta
  obtain ⟨pr, io, s, rfl, hi, hr, q⟩ := of_tEv q
  refine tEv_of hi hr (OuP.bind q fun t v s1 ot r1 x1 p1 f1 q1 => ?_)
  cases e : derT s1.ρ t with
  | none => simp only [e, Option.bind_none] at q1; exact q1.elim
  | some u =>
    simp only [e, Option.bind_some] at q1
    cases e2 : f u with
    | none => simp only [e2] at q1; exact q1.elim
    | some w =>
      simp only [e2] at q1
      obtain ⟨o, hu⟩ := p1.der r1 e
      exact h pr io σ s1 v u w o Q r1 hu e2 q1
theorem op2_end {f : Tm → Tm → Option Tm} {r : R2} (h : Op2 G W f r) {ga gb : Ev} {H : Hp} (q : tEv G W ios (eOp2 f ga gb) σ H Q) : tEv G W ios ga σ H (fun x H1 => tEv G W ios gb σ H1 fun y H2 => r x y H2 Q) := by
  obtain ⟨pr, io, s, rfl, hi, hr, q⟩ := of_tEv q
  refine tEv_of hi hr (OuP.bind q fun t v s1 ot r1 x1 p1 f1 q1 => ?_)
  refine tEv_of hi r1 (OuP.bind q1 fun t2 v2 s2 ot2 r2 x2 p2 f2 q2 => ?_)
  have p1' := p1.on r1 x2
  cases e : derT s2.ρ t with
  | none => simp only [e] at q2; exact q2.elim
  | some u =>
    cases e' : derT s2.ρ t2 with
    | none => simp only [e, e'] at q2; exact q2.elim
    | some u2 =>
      simp only [e, e'] at q2
      cases e2 : f u u2 with
      | none => simp only [e2] at q2; exact q2.elim
      | some w =>
        simp only [e2] at q2
        obtain ⟨o, hu⟩ := p1'.der r2 e
        obtain ⟨o', hu'⟩ := p2.der r2 e'
        exact h pr io σ s2 v v2 u u2 w o o' Q r2 hu hu' e2 q2
section
variable {a b : Expr} {pos : Pos} {ga gb : Ev}
theorem v_op {op : Operator} {r : R2} {f : Tm → Tm → Option Tm} (ho : OpR X (binaryOp op) r) (h : Op2 G W f r) (ha : PEv X G W ios a ga) (hb : PEv X G W ios b gb) : PEv X G W ios (.BinOp a op b pos) (eOp2 f ga gb) :=
  pe_imp (pe_op ho ha hb) fun _ _ _ q => op2_end h q
theorem v_cmp {op : CmpOp} {r : R2} {f : Tm → Tm → Option Tm} (ho : OpR X (compareOp op) r) (h : Op2 G W f r) (ha : PEv X G W ios a ga) (hb : PEv X G W ios b gb) (hm : behindInMarks op b = false) : PEv X G W ios (.Compare a [op] [b] pos) (eOp2 f ga gb) :=
  pe_imp (pe_cmpR ho ha hb hm) fun _ _ _ q => op2_end h q
theorem v_un {op : UnaryOp} {r : V → Hp → VK → Prop} {f : Tm → Option Tm} (ho : UnR X (unaryOp op) r) (h : Op1 G W f r) (ha : PEv X G W ios a ga) : PEv X G W ios (.UnaryOp op a pos) (eOp1 f ga) :=
  pe_imp (pe_un ho ha) fun _ _ _ q => op1_end h rfl q
theorem v_ix {r : R2} {f : Tm → Tm → Option Tm} (ho : IxR X r) (h : Op2 G W f r) (ha : PEv X G W ios a ga) (hb : PEv X G W ios b gb) (hs : PlainIx b) : PEv X G W ios (.Subscript a b pos) (eOp2 f ga gb) :=
  pe_imp (pe_ix ho ha hb hs) fun _ _ _ q => op2_end h q
end
end
end PV

namespace PV
open PySem PySem.Spec L2

def rd1 (f : D → Option D) : Tm → Option Tm := fun a => (f (toD a)).map (Tm.v .F)
def rd2 (f : D → D → Option D) : Tm → Tm → Option Tm := fun a b => (f (toD a) (toD b)).map (Tm.v .F)
/-- a rule's reading that reads, and answers something flat -/
def Rd1 (G : Gx) (f : D → Option D) (r : V → Hp → VK → Prop) : Prop := ∀ (H : Hp) (x : V) (dx d : D) (Q : VK), Rep G H TT1 dx x → f dx = some d → (∀ v, (∀ P, Rep G H P d v) → Q v H) → r x H Q
def Rd2 (G : Gx) (f : D → D → Option D) (r : R2) : Prop := ∀ (H : Hp) (x y : V) (dx dy d : D) (Q : VK), Rep G H TT1 dx x → Rep G H TT1 dy y → f dx dy = some d → (∀ v, (∀ P, Rep G H P d v) → Q v H) → r x y H Q
section
variable {G : Gx} {W : WX}
theorem Rd1.op {f : D → Option D} {r : V → Hp → VK → Prop} (h : Rd1 G f r) : Op1 G W (rd1 f) r := by
  intro pr io σ s x tx t ox Q hr hx e q
  simp only [rd1, Option.map_eq_some_iff] at e
  obtain ⟨d, e, rfl⟩ := e
  exact h s.H x _ d Q (TmR.toD _ _ _ hx) e fun v hv => q.done hr (hv _)
theorem Rd2.op {f : D → D → Option D} {r : R2} (h : Rd2 G f r) : Op2 G W (rd2 f) r := by
  intro pr io σ s x y tx ty t ox oy Q hr hx hy e q
  simp only [rd2, Option.map_eq_some_iff] at e
  obtain ⟨d, e, rfl⟩ := e
  exact h s.H x y _ _ d Q (TmR.toD _ _ _ hx) (TmR.toD _ _ _ hy) e fun v hv => q.done hr (hv _)
end

/-! ### ints -/
def dI2 (f : Int → Int → Option Int) : D → D → Option D
  | .int i, .int j => (f i j).map .int
  | _, _ => none
def dC2 (f : Int → Int → Bool) : D → D → Option D
  | .int i, .int j => some (.bl (f i j))
  | _, _ => none
theorem rdI {G : Gx} {f : Int → Int → Option Int} {C : Int → Int → Prop} {g : Int → Int → V} (h : ∀ i j k, f i j = some k → C i j ∧ g i j = .int k) : Rd2 G (dI2 f) (rI C g) := by
  intro H x y dx dy d Q hx hy e q
  cases dx <;> cases dy <;> simp only [dI2, Option.map_eq_some_iff, reduceCtorEq] at e
  rename_i i j
  obtain ⟨k, e, rfl⟩ := e
  simp only [Rep] at hx hy
  obtain ⟨h1, h2⟩ := h i j k e
  exact ⟨i, j, hx, hy, h1, by rw [h2]; exact q _ fun P => by simp only [Rep]⟩
theorem rdI0 {G : Gx} {f : Int → Int → Option Int} {g : Int → Int → V} (h : ∀ i j k, f i j = some k → g i j = .int k) : Rd2 G (dI2 f) (rI0 g) := by
  intro H x y dx dy d Q hx hy e q
  cases dx <;> cases dy <;> simp only [dI2, Option.map_eq_some_iff, reduceCtorEq] at e
  rename_i i j
  obtain ⟨k, e, rfl⟩ := e
  simp only [Rep] at hx hy
  exact ⟨i, j, hx, hy, by rw [h i j k e]; exact q _ fun P => by simp only [Rep]⟩
theorem rdC {G : Gx} {f : Int → Int → Bool} : Rd2 G (dC2 f) (rI0 fun i j => .bl (f i j)) := by
  intro H x y dx dy d Q hx hy e q
  cases dx <;> cases dy <;> simp only [dC2, Option.some.injEq, reduceCtorEq] at e
  subst e
  simp only [Rep] at hx hy
  exact ⟨_, _, hx, hy, q _ fun P => by simp only [Rep]⟩

/-- a + b -/
def addV (k : Kd) (x : D) (k' : Kd) (y : D) : Option Tm := match x, y with
  | .int i, .int j => some (.v .F (.int (i + j)))
  | .str a, .str b => if a.length + b.length ≤ sizeLine then some (.v .F (.str (a ++ b))) else none
  | .lst xs, .lst ys => match elk k xs, elk k' ys with
    | some xs, some ys => if xs.length + ys.length ≤ sizeLine then some (.v .O (.lst (xs ++ ys))) else none
    | _, _ => none
  | .tup xs, .tup ys => match elk k xs, elk k' ys with
    | some xs, some ys => if xs.length + ys.length ≤ sizeLine then some (.v .F (.tup (xs ++ ys))) else none
    | _, _ => none
  | _, _ => none
def opAdd (a b : Tm) : Option Tm := match a, b with
  | .v k x, .v k' y => addV k x k' y
  | _, _ => none
def eAdd : Ev → Ev → Ev := eOp2 opAdd
/-- the items of a list or tuple, as they are read -/
theorem lst_items {G : Gx} {H : Hp} {fz pr : Addr → Prop} {k : Kd} {xs ys : List D} {x : V} {ox : List Addr} (h : TmR G H fz pr (.v k (.lst xs)) x ox) (e : elk k xs = some ys) : ∃ a vs, x = .ref a ∧ H a = some (.lst vs) ∧ Reps G H fz ys vs := by
  cases k with
  | F =>
    simp only [TmR, Rep] at h
    obtain ⟨_, a, vs, e1, _, e2, h⟩ := h
    exact ⟨a, vs, e1, e2, h.elk e fun _ _ p => p⟩
  | B =>
    simp only [TmR, Rep] at h
    obtain ⟨_, a, vs, e1, _, e2, h⟩ := h
    exact ⟨a, vs, e1, e2, h.elk e fun z => absurd rfl z⟩
  | O =>
    simp only [TmR, RepO] at h
    obtain ⟨a, vs, e1, _, e2, h⟩ := h
    exact ⟨a, vs, e1, e2, h.elk e fun _ _ p => p⟩
theorem tup_items {G : Gx} {H : Hp} {fz pr : Addr → Prop} {k : Kd} {xs ys : List D} {x : V} {ox : List Addr} (h : TmR G H fz pr (.v k (.tup xs)) x ox) (e : elk k xs = some ys) : ∃ a vs, x = .ref a ∧ H a = some (.tup vs) ∧ Reps G H fz ys vs := by
  cases k with
  | F =>
    simp only [TmR, Rep] at h
    obtain ⟨_, a, vs, e1, e2, h⟩ := h
    exact ⟨a, vs, e1, e2, h.elk e fun _ _ p => p⟩
  | B =>
    simp only [TmR, Rep] at h
    obtain ⟨_, a, vs, e1, e2, h⟩ := h
    exact ⟨a, vs, e1, e2, h.elk e fun z => absurd rfl z⟩
  | O =>
    simp only [TmR, RepO, Rep] at h
    obtain ⟨_, a, vs, e1, e2, h⟩ := h
    exact ⟨a, vs, e1, e2, h.elk e fun _ _ p => p⟩
def rAddA (K : PySem.W.Frag) : R2 := fun x y H Q => (rI0 (fun i j => .int (i + j)) x y H Q ∨ (∃ i j, x = .str i ∧ y = .str j ∧ i.length + j.length ≤ sizeLine ∧ Q (.str (i ++ j)) H)) ∨ (rCat x y H Q ∨ rCatA K x y H Q)
theorem op_addA {X : Cx} : OpR X (binaryOp .Add) (rAddA X.K) := (op_add.or op_add_str).or (op_cat.or op_catA)
theorem op2_add {G : Gx} {W : WX} {K : PySem.W.Frag} : Op2 G W opAdd (rAddA K) := by
  intro pr io σ s x y tx ty t ox oy Q hr hx hy e q
  cases tx <;> cases ty <;> simp only [opAdd, reduceCtorEq] at e
  rename_i k d k' d'
  have rx := TmR.toD _ _ _ hx
  have ry := TmR.toD _ _ _ hy
  cases d <;> cases d' <;> simp only [addV, reduceCtorEq] at e
  · -- ints
    cases e
    simp only [toD, Rep] at rx ry
    exact .inl (.inl ⟨_, _, rx, ry, q.done hr (by simp only [Rep])⟩)
  · split at e
    · rename_i hl
      cases e
      simp only [toD, Rep] at rx ry
      exact .inl (.inr ⟨_, _, rx, ry, hl, q.done hr (by simp only [Rep])⟩)
    · cases e
  · -- tuples
    rename_i xs ys
    split at e
    · rename_i xs' ys' e1 e2
      split at e
      · rename_i hl
        cases e
        obtain ⟨a, vs, rfl, ha, hvs⟩ := tup_items hx e1
        obtain ⟨b, ws, rfl, hb, hws⟩ := tup_items hy e2
        refine .inr (.inr ⟨a, b, vs, ws, rfl, rfl, .of ha, .of hb, by rw [← hvs.len, ← hws.len]; exact hl, fun z => ?_, fun _ z => ?_, fun _ _ p hp => q.tup hr (hvs.app hws) hp⟩)
        · subst z
          have z : xs' = [] := by have := hvs.len; simpa using this
          subst z
          exact q.done hr (by simp only [Rep, List.nil_append]; exact ⟨b, ws, rfl, hb, hws⟩)
        · subst z
          have z : ys' = [] := by have := hws.len; simpa using this
          subst z
          exact q.done hr (by simp only [Rep, List.append_nil]; exact ⟨a, vs, rfl, ha, hvs⟩)
      · cases e
    · cases e
  · rename_i xs ys
    split at e
    · rename_i xs' ys' e1 e2
      split at e
      · rename_i hl
        cases e
        obtain ⟨a, vs, rfl, ha, hvs⟩ := lst_items hx e1
        obtain ⟨b, ws, rfl, hb, hws⟩ := lst_items hy e2
        exact .inr (.inl ⟨a, b, vs, ws, rfl, rfl, ha, hb, by rw [← hvs.len, ← hws.len]; exact hl, fun p hp => q.lst hr (hvs.app hws) hp⟩)
      · cases e
    · cases e
section
variable {G : Gx} {W : WX} {ios : List Nat} {X : Cx} {a b : Expr} {pos : Pos} {ga gb : Ev}
theorem v_add (ha : PEv X G W ios a ga) (hb : PEv X G W ios b gb) : PEv X G W ios (.BinOp a .Add b pos) (eAdd ga gb) := v_op op_addA op2_add ha hb

def eSub : Ev → Ev → Ev := eOp2 (rd2 (dI2 fun i j => some (i - j)))
theorem v_sub (ha : PEv X G W ios a ga) (hb : PEv X G W ios b gb) : PEv X G W ios (.BinOp a .Sub b pos) (eSub ga gb) := v_op op_sub (Rd2.op (rdI0 fun i j k e => by cases e; rfl)) ha hb
def mulI (i j : Int) : Option Int := if (-(2 ^ 64) < i ∧ i < 2 ^ 64) ∨ (-(2 ^ 64) < j ∧ j < 2 ^ 64) then some (i * j) else none
def divI (i j : Int) : Option Int := if 0 < j ∧ j < 1073741824 then some (i / j) else none
def modI (i j : Int) : Option Int := if 0 < j then some (i % j) else none
def powI (i j : Int) : Option Int := if 0 ≤ j ∧ j ≤ 1000000 ∧ i.natAbs < 2 ^ 64 then some (i ^ j.toNat) else none
def shlI (i j : Int) : Option Int := if 0 ≤ j ∧ j ≤ 1000000 ∧ i.natAbs < 2 ^ 64 then some (i * 2 ^ j.toNat) else none
def eDiv : Ev → Ev → Ev := eOp2 (rd2 (dI2 divI))
def eMod : Ev → Ev → Ev := eOp2 (rd2 (dI2 modI))
def ePow : Ev → Ev → Ev := eOp2 (rd2 (dI2 powI))
def eShl : Ev → Ev → Ev := eOp2 (rd2 (dI2 shlI))
theorem v_div (ha : PEv X G W ios a ga) (hb : PEv X G W ios b gb) : PEv X G W ios (.BinOp a .FloorDiv b pos) (eDiv ga gb) := v_op op_fdiv (Rd2.op (rdI fun i j k e => by
  unfold divI at e
  split at e
  · rename_i h; cases e; exact ⟨h, rfl⟩
  · cases e)) ha hb
theorem v_mod (ha : PEv X G W ios a ga) (hb : PEv X G W ios b gb) : PEv X G W ios (.BinOp a .Mod b pos) (eMod ga gb) := v_op op_mod (Rd2.op (rdI fun i j k e => by
  unfold modI at e
  split at e
  · rename_i h; cases e; exact ⟨h, rfl⟩
  · cases e)) ha hb
theorem v_pow (ha : PEv X G W ios a ga) (hb : PEv X G W ios b gb) : PEv X G W ios (.BinOp a .Pow b pos) (ePow ga gb) := v_op op_pow (Rd2.op (rdI fun i j k e => by
  unfold powI at e
  split at e
  · rename_i h; cases e; exact ⟨h, rfl⟩
  · cases e)) ha hb
def eLt : Ev → Ev → Ev := eOp2 (rd2 (dC2 fun i j => decide (i < j)))
def eLe : Ev → Ev → Ev := eOp2 (rd2 (dC2 fun i j => decide (i ≤ j)))
def eGt : Ev → Ev → Ev := eOp2 (rd2 (dC2 fun i j => decide (j < i)))
def eGe : Ev → Ev → Ev := eOp2 (rd2 (dC2 fun i j => decide (j ≤ i)))
theorem v_lt (ha : PEv X G W ios a ga) (hb : PEv X G W ios b gb) : PEv X G W ios (.Compare a [.Lt] [b] pos) (eLt ga gb) := v_cmp op_lt (Rd2.op rdC) ha hb (nomark _)
theorem v_ge (ha : PEv X G W ios a ga) (hb : PEv X G W ios b gb) : PEv X G W ios (.Compare a [.GtE] [b] pos) (eGe ga gb) := v_cmp op_ge (Rd2.op rdC) ha hb (nomark _)
end

/-- a * b: ints, a list times a number, a text times a number -/
def mulV (k : Kd) (x y : D) : Option Tm := match x, y with
  | .int i, .int j => (mulI i j).map fun n => .v .F (.int n)
  | .lst xs, .int n => match elk k xs with
    | some xs => if -(2 ^ 63) ≤ n ∧ n < 2 ^ 63 ∧ xs.length * n.toNat ≤ sizeLine then some (.v .O (.lst (List.replicate n.toNat xs).flatten)) else none
    | none => none
  | _, _ => none
def opMul (a b : Tm) : Option Tm := match a, b with
  | .v k x, .v _ y => mulV k x y
  | _, _ => none
def eMul : Ev → Ev → Ev := eOp2 opMul
theorem Reps.rep {G : Gx} {H : Hp} {P : Addr → Prop} {ds : List D} {vs : List V} (h : Reps G H P ds vs) : ∀ n, Reps G H P (List.replicate n ds).flatten (List.replicate n vs).flatten
  | 0 => by simp [Reps]
  | n + 1 => by
    rw [List.replicate_succ, List.replicate_succ, List.flatten_cons, List.flatten_cons]
    exact h.app (Reps.rep h n)
theorem op2_mul {G : Gx} {W : WX} : Op2 G W opMul (fun x y H Q => rI CMul (fun i j => .int (i * j)) x y H Q ∨ rRep x y H Q) := by
  intro pr io σ s x y tx ty t ox oy Q hr hx hy e q
  cases tx <;> cases ty <;> simp only [opMul, reduceCtorEq] at e
  rename_i k d k' d'
  have rx := TmR.toD _ _ _ hx
  have ry := TmR.toD _ _ _ hy
  cases d <;> cases d' <;> simp only [mulV, reduceCtorEq] at e
  · simp only [Option.map_eq_some_iff] at e
    obtain ⟨n, e, rfl⟩ := e
    unfold mulI at e
    split at e
    · rename_i h
      cases e
      simp only [toD, Rep] at rx ry
      exact .inl ⟨_, _, rx, ry, h, q.done hr (by simp only [Rep])⟩
    · cases e
  · rename_i xs n
    split at e
    · rename_i xs' e1
      split at e
      · rename_i hl
        cases e
        simp only [toD, Rep] at ry
        obtain ⟨a, vs, rfl, ha, hvs⟩ := lst_items hx e1
        exact .inr ⟨a, n, vs, rfl, ry, ha, hl.1, hl.2.1, by rw [← hvs.len]; exact hl.2.2, fun p hp => q.lst hr (hvs.rep _) hp⟩
      · cases e
    · cases e
theorem v_mul {G : Gx} {W : WX} {ios : List Nat} {X : Cx} {a b : Expr} {pos : Pos} {ga gb : Ev} (ha : PEv X G W ios a ga) (hb : PEv X G W ios b gb) : PEv X G W ios (.BinOp a .Mult b pos) (eMul ga gb) := v_op (op_mul.or op_rep) op2_mul ha hb

/-! ### == of data -/
mutual
def toPy : D → Option PyData
  | .non => some .none
  | .bl b => some (.bool b)
  | .int i => some (.int i)
  | .str x => some (.str x)
  | .tup xs => (toPys xs).map .tuple
  | .lst xs => (toPys xs).map .list
  | _ => none
def toPys : List D → Option (List PyData)
  | [] => some []
  | d :: ds => match toPy d, toPys ds with
    | some p, some ps => some (p :: ps)
    | _, _ => none
end
mutual
theorem Rep.dp {G : Gx} {K : PySem.W.Frag} {H : Hp} {P : Addr → Prop} : ∀ (d : D) (v : V) (p : PyData), Rep G H P d v → toPy d = some p → Dp K H v p
  | .non, v, p, h, e => by simp only [Rep] at h; simp only [toPy] at e; cases e; subst h; exact .non
  | .bl b, v, p, h, e => by simp only [Rep] at h; simp only [toPy] at e; cases e; subst h; exact .bl b
  | .int i, v, p, h, e => by simp only [Rep] at h; simp only [toPy] at e; cases e; subst h; exact .int i
  | .str x, v, p, h, e => by simp only [Rep] at h; simp only [toPy] at e; cases e; subst h; exact .str x
  | .tup xs, v, p, h, e => by
    simp only [Rep] at h; simp only [toPy, Option.map_eq_some_iff] at e
    obtain ⟨ps, e, rfl⟩ := e
    obtain ⟨a, vs, rfl, h1, h2⟩ := h
    exact .tup (.of h1) (Reps.dp xs vs ps h2 e)
  | .lst xs, v, p, h, e => by
    simp only [Rep] at h; simp only [toPy, Option.map_eq_some_iff] at e
    obtain ⟨ps, e, rfl⟩ := e
    obtain ⟨a, vs, rfl, _, h1, h2⟩ := h
    exact .lst (.of h1) (Reps.dp xs vs ps h2 e)
  | .dK ks xs, v, p, h, e => by simp [toPy] at e
  | .dT ks xs, v, p, h, e => by simp [toPy] at e
  | .ins c xs, v, p, h, e => by simp [toPy] at e
  | .scr ns, v, p, h, e => by simp [toPy] at e
  | .kt, v, p, h, e => by simp [toPy] at e
theorem Reps.dp {G : Gx} {K : PySem.W.Frag} {H : Hp} {P : Addr → Prop} : ∀ (ds : List D) (vs : List V) (ps : List PyData), Reps G H P ds vs → toPys ds = some ps → DpAll K H vs ps
  | [], vs, ps, h, e => by simp only [Reps] at h; simp only [toPys] at e; cases e; subst h; exact .nil
  | d :: ds, vs, ps, h, e => by
    simp only [Reps] at h; simp only [toPys] at e
    obtain ⟨v, r, rfl, h1, h2⟩ := h
    cases e1 : toPy d with
    | none => rw [e1] at e; cases e
    | some p =>
      cases e2 : toPys ds with
      | none => rw [e1, e2] at e; cases e
      | some ps' =>
        rw [e1, e2] at e
        cases e
        exact .cons (Rep.dp d v p h1 e1) (Reps.dp ds r ps' h2 e2)
end
def strD : D → Option Str
  | .str x => some x
  | _ => none
def eqP (neg : Bool) (x y : D) : Option D := match toPy x, toPy y with
  | some p, some q => if SeqAt.shaped p = true ∧ SeqAt.shaped q = true then some (.bl (if neg then !PyData.eqv p q else PyData.eqv p q)) else none
  | _, _ => none
def eqD (neg : Bool) (x y : D) : Option D := match strD x, strD y with
  | some a, some b => some (.bl (if neg then !decide (a = b) else decide (a = b)))
  | _, _ => eqP neg x y
theorem strD_eq {d : D} {a : Str} (h : strD d = some a) : d = .str a := by
  cases d <;> simp only [strD, Option.some.injEq, reduceCtorEq] at h
  rw [h]
def rEqA (K : PySem.W.Frag) : R2 := fun x y H Q => rEq x y H Q ∨ rEqD K x y H Q
def rNeA (K : PySem.W.Frag) : R2 := fun x y H Q => rNe x y H Q ∨ rNeD K x y H Q
theorem decV {a b : Str} : decide (V.str a = V.str b) = decide (a = b) := by simp
theorem rdEq {G : Gx} {K : PySem.W.Frag} : Rd2 G (eqD false) (rEqA K) := by
  intro H x y dx dy d Q hx hy e q
  unfold eqD at e
  split at e
  · rename_i a b e1 e2
    rw [strD_eq e1] at hx
    rw [strD_eq e2] at hy
    simp only [Rep] at hx hy
    subst hx; subst hy
    cases e
    exact .inl ⟨rfl, q _ fun P => by simp only [Rep]; rw [decV]; rfl⟩
  · unfold eqP at e
    split at e
    · rename_i p p' e1 e2
      split at e
      · rename_i hs
        cases e
        exact .inr ⟨p, p', Rep.dp _ _ _ hx e1, Rep.dp _ _ _ hy e2, hs.1, hs.2, q _ fun P => by simp only [Rep]; rfl⟩
      · cases e
    · cases e
theorem rdNe {G : Gx} {K : PySem.W.Frag} : Rd2 G (eqD true) (rNeA K) := by
  intro H x y dx dy d Q hx hy e q
  unfold eqD at e
  split at e
  · rename_i a b e1 e2
    rw [strD_eq e1] at hx
    rw [strD_eq e2] at hy
    simp only [Rep] at hx hy
    subst hx; subst hy
    cases e
    exact .inl ⟨rfl, q _ fun P => by simp only [Rep]; rw [decV]; rfl⟩
  · unfold eqP at e
    split at e
    · rename_i p p' e1 e2
      split at e
      · rename_i hs
        cases e
        exact .inr ⟨p, p', Rep.dp _ _ _ hx e1, Rep.dp _ _ _ hy e2, hs.1, hs.2, q _ fun P => by simp only [Rep]; rfl⟩
      · cases e
    · cases e
def eEq : Ev → Ev → Ev := eOp2 (rd2 (eqD false))
def eNe : Ev → Ev → Ev := eOp2 (rd2 (eqD true))
section
variable {G : Gx} {W : WX} {ios : List Nat} {X : Cx} {a b : Expr} {pos : Pos} {ga gb : Ev} {k : Nat}
theorem v_eq (hr : Room k X.A) (ha : PEv X G W ios a ga) (hb : PEv X G W ios b gb) : PEv X G W ios (.Compare a [.Eq] [b] pos) (eEq ga gb) := v_cmp (op_eq.or (op_eqD hr.units)) (Rd2.op rdEq) ha hb (nomark _)
theorem v_ne (hr : Room k X.A) (ha : PEv X G W ios a ga) (hb : PEv X G W ios b gb) : PEv X G W ios (.Compare a [.NotEq] [b] pos) (eNe ga gb) := v_cmp (op_ne.or (op_neD hr.units)) (Rd2.op rdNe) ha hb (nomark _)

/-! ### names, constants -/
def eVar (i : Nat) : Ev := fun ρ => match ρ[i]? with
  | some (some (.v .O d)) => .ok (.loc i) ρ
  | some (some (.v k d)) => .ok (.v k d) ρ
  | some (some t) => .ok (.loc i) ρ
  | _ => .no
theorem v_var (i : Nat) {x : Str} {pos : Pos} (hN : X.N[i]? = some x := by rfl) (hv : Vis X.env.scope x := by first | exact Or.inl rfl | exact Or.inr (Or.inl rfl) | exact Or.inr (Or.inr rfl)) (hd : (x == ("__debug__" : Str)) = false := by decide)
    (hcd : (x == ("__classdict__" : Str)) = false := by decide) : PEv X G W ios (.Name x pos) (eVar i) := by
  refine pe_imp (pe_var hN hv hd hcd) fun σ H Q q => ?_
  obtain ⟨pr, io, s, rfl, hi, r, q⟩ := of_tEv q
  have loc : ∀ t, s.ρ[i]? = some (some t) → OuP G W pr io σ s (.ok (.loc i) s.ρ) Q → tVar i σ s.H Q := fun t e q => by
    obtain ⟨v, _, _, _, e1, _, _, _⟩ := Sl.get r.sl e
    exact ⟨v, e1, q.here r (ot := []) ⟨⟨rfl, e1⟩, .nil, fun a ha => by cases ha⟩ Frs.nil⟩
  have val : ∀ k d, k ≠ .O → s.ρ[i]? = some (some (.v k d)) → OuP G W pr io σ s (.ok (.v k d) s.ρ) Q → tVar i σ s.H Q := fun k d hk e q => by
    obtain ⟨v, o1, o2, o3, e1, e2, h, _⟩ := Sl.get r.sl e
    have ho : o2 = [] := by
      cases k <;> simp only [TmR] at h
      · exact h.1
      · exact h.1
      · exact absurd rfl hk
    subst ho
    exact ⟨v, e1, q.here r (ot := []) ⟨h, .nil, fun a ha => by cases ha⟩ Frs.nil⟩
  unfold eVar at q
  cases e : s.ρ[i]? with
  | none => rw [e] at q; exact q.elim
  | some o =>
    cases o with
    | none => rw [e] at q; exact q.elim
    | some t =>
      rw [e] at q
      cases t with
      | v k d =>
        cases k with
        | O => exact loc _ e q
        | F => exact val _ _ (by decide) e q
        | B => exact val _ _ (by decide) e q
      | tp ts => exact loc _ e q
      | ls ts => exact loc _ e q
      | ob c ts => exact loc _ e q
      | loc j => exact loc _ e q
def eC (d : D) : Ev := fun ρ => .ok (.v .F d) ρ
theorem v_int {i j pos} : PEv X G W ios (.Constant (.int i) j pos) (eC (.int i)) := pe_imp pe_int fun σ H Q q => by
  obtain ⟨pr, io, s, rfl, hi, r, q⟩ := of_tEv q
  exact q.done r (by simp only [Rep])
theorem v_bl {b j pos} : PEv X G W ios (.Constant (.bool b) j pos) (eC (.bl b)) := pe_imp pe_bl fun σ H Q q => by
  obtain ⟨pr, io, s, rfl, hi, r, q⟩ := of_tEv q
  exact q.done r (by simp only [Rep])
theorem v_non {j pos} : PEv X G W ios (.Constant .none j pos) (eC .non) := pe_imp pe_non fun σ H Q q => by
  obtain ⟨pr, io, s, rfl, hi, r, q⟩ := of_tEv q
  exact q.done r (by simp only [Rep])
end
end PV

namespace PV
open PySem PySem.Spec L2
section
variable {G : Gx} {W : WX} {pr : Addr → Prop} {io : List (Nat × V)} {σ : L2.St} {s s1 : Sx} {ios : List Nat} {Q : VK} {X : Cx} {a b c : Expr} {pos : Pos} {ga gb gc : Ev}

/-! ### what is owned is shared from now on; what is owned is handed on -/
def Sx.frz (s : Sx) (ot : List Addr) (ρ : Ss) (os : List Addr) : Sx := { H := s.H, fz := fun a => s.fz a ∨ a ∈ ot, os := os, ρ := ρ }
def eF (g : Ev) : Ev := fun ρ => (g ρ).bind fun t ρ1 => match t with
  | .loc i => match ρ1[i]? with
    | some (some t0) => match frz t0 with
      | some d => .ok (.v .F d) (ρ1.set i (some (.v .F d)))
      | none => .no
    | _ => .no
  | t => match frz t with
    | some d => .ok (.v .F d) ρ1
    | none => .no
def eM (g : Ev) : Ev := fun ρ => (g ρ).bind fun t ρ1 => match t with
  | .loc i => match ρ1[i]? with
    | some (some t0) => .ok t0 (ρ1.set i none)
    | _ => .no
  | t => .ok t ρ1
/-- values in flight are shared from now on -/
theorem SR.frzO (r : SR G pr io σ s) {ot : List Addr} (own : ∀ a ∈ ot, Own s.H a) (sep : ∀ a ∈ ot, ¬ s.fz a ∧ ¬ pr a ∧ a ∉ s.os) : SR G pr io σ (s.frz ot s.ρ s.os) := by
  refine ⟨Sl.keep (fun _ h => .inl h) (fun _ h => .inr h) (Tk.refl _) (fun a o _ e => e) r.sl, r.nd, fun a ha => ⟨fun z => z.elim (r.sep a ha).1 fun z => (sep a z).2.2 ha, (r.sep a ha).2⟩, fun a h => ?_, r.iov⟩
  rcases h with (h | h) | h
  · exact r.dom a (.inl h)
  · exact (own a h).ne
  · exact r.dom a (.inr h)
theorem Ext.frzO (e : Ext s s1) {ot : List Addr} (f : Frs s ot) : Ext s (s1.frz ot s1.ρ s1.os) :=
  ⟨e.keep, e.dom, e.tk, fun a h => .inl (e.fz a h), fun a h => h.elim (e.fzo a) fun z => .inr (f a z), e.oso⟩
theorem tm_of {t : Tm} {v : V} {ot : List Addr} (h : TmT G pr σ s t v ot) (hl : ∀ i, t ≠ .loc i) : TmR G s.H s.fz pr t v ot := by
  cases t with
  | loc i => exact absurd rfl (hl i)
  | v k d => exact h
  | tp ts => exact h
  | ls ts => exact h
  | ob c ts => exact h
theorem loc_of {t : Tm} {v : V} {ot : List Addr} (h : TmR G s.H s.fz pr t v ot) : TmT G pr σ s t v ot := by
  cases t with
  | loc i => exact h.elim
  | v k d => exact h
  | tp ts => exact h
  | ls ts => exact h
  | ob c ts => exact h
theorem fz_read {H : Hp} (q : tEv G W ios (eF ga) σ H Q) : tEv G W ios ga σ H Q := by
  obtain ⟨pr, io, s, rfl, hi, r, q⟩ := of_tEv q
  refine tEv_of hi r (OuP.bind0 q fun t v s1 ot r1 x1 p1 f1 q1 => ?_)
  have temp : ∀ d, (∀ i, t ≠ .loc i) → frz t = some d → OuP G W pr io σ s (.ok (.v .F d) s1.ρ) Q → Q v s1.H := fun d hl e q => by
    refine q v (s1.frz ot s1.ρ s1.os) [] rfl (r1.frzO (fun a ha => p1.rel.own a ha) p1.sep) (x1.frzO f1) ⟨?_, .nil, fun a ha => by cases ha⟩ Frs.nil
    show TmR _ _ _ _ _ _ _
    simp only [TmR]
    exact ⟨trivial, TmR.frz _ _ _ _ (tm_of p1.rel hl) e⟩
  cases t with
  | loc i =>
    simp only at q1
    cases e : s1.ρ[i]? with
    | none => simp only [e] at q1; exact q1.elim
    | some o =>
      cases o with
      | none => simp only [e] at q1; exact q1.elim
      | some t0 =>
        simp only [e] at q1
        cases e2 : frz t0 with
        | none => simp only [e2] at q1; exact q1.elim
        | some d =>
          simp only [e2] at q1
          obtain ⟨_, hv⟩ := p1.rel
          obtain ⟨v', o1, o2, o3, e3, e4, h0, hput⟩ := Sl.get r1.sl e
          rw [hv] at e3; cases e3
          have nd := r1.nd
          rw [e4, List.nodup_append, List.nodup_append] at nd
          have hd := TmR.frz _ _ _ _ h0 e2
          have hs : Sl G s1.H (fun a => s1.fz a ∨ a ∈ o2) pr (s1.ρ.set i (some (.v .F d))) σ (o1 ++ ([] ++ o3)) :=
            hput (.v .F d) s1.H (fun a => s1.fz a ∨ a ∈ o2) [] (by simp only [TmR]; exact ⟨trivial, hd⟩) (fun a o _ e => e) (fun a h => .inl h) (Tk.refl _)
          refine q1 v (s1.frz o2 (s1.ρ.set i (some (.v .F d))) (o1 ++ ([] ++ o3))) [] rfl ⟨hs, ?_, fun a ha => ⟨fun z => ?_, ?_⟩, fun a h => ?_, r1.iov⟩ ?_ ⟨?_, .nil, fun a ha => by cases ha⟩ Frs.nil
          · show (o1 ++ ([] ++ o3)).Nodup
            rw [List.nil_append, List.nodup_append]
            exact ⟨nd.1, nd.2.1.2.1, fun a ha b hb => nd.2.2 a ha b (List.mem_append_right _ hb)⟩
          · have ha' : a ∈ o1 ∨ a ∈ o3 := by simpa [Sx.frz] using ha
            rcases z with z | z
            · exact (r1.sep a (by rw [e4]; rcases ha' with h | h <;> simp [h])).1 z
            · rcases ha' with h | h
              · exact nd.2.2 a h a (List.mem_append_left _ z) rfl
              · exact nd.2.1.2.2 a z a h rfl
          · have ha' : a ∈ o1 ∨ a ∈ o3 := by simpa [Sx.frz] using ha
            exact (r1.sep a (by rw [e4]; rcases ha' with h | h <;> simp [h])).2
          · rcases h with (h | h) | h
            · exact r1.dom a (.inl h)
            · exact (TmR.own _ _ _ h0 a h).ne
            · exact r1.dom a (.inr h)
          · refine ⟨x1.keep, x1.dom, x1.tk, fun a h => .inl (x1.fz a h), fun a h => ?_, fun a h => ?_⟩
            · rcases h with h | h
              · exact x1.fzo a h
              · exact .inr (x1.oso a (by rw [e4]; simp [h]))
            · have ha' : a ∈ o1 ∨ a ∈ o3 := by simpa [Sx.frz] using h
              exact x1.oso a (by rw [e4]; rcases ha' with h | h <;> simp [h])
          · show TmR _ _ _ _ _ _ _
            simp only [TmR]
            exact ⟨trivial, hd⟩
  | v k d =>
    simp only at q1
    cases e : frz (.v k d) with
    | none => rw [e] at q1; exact q1.elim
    | some d' => rw [e] at q1; exact temp d' (fun i z => nomatch z) e q1
  | tp ts =>
    simp only at q1
    cases e : frz (.tp ts) with
    | none => rw [e] at q1; exact q1.elim
    | some d' => rw [e] at q1; exact temp d' (fun i z => nomatch z) e q1
  | ls ts =>
    simp only at q1
    cases e : frz (.ls ts) with
    | none => rw [e] at q1; exact q1.elim
    | some d' => rw [e] at q1; exact temp d' (fun i z => nomatch z) e q1
  | ob c ts =>
    simp only at q1
    cases e : frz (.ob c ts) with
    | none => rw [e] at q1; exact q1.elim
    | some d' => rw [e] at q1; exact temp d' (fun i z => nomatch z) e q1
theorem v_fz (ha : PEv X G W ios a ga) : PEv X G W ios a (eF ga) := pe_imp ha fun _ _ _ q => fz_read q
theorem v_mv (ha : PEv X G W ios a ga) : PEv X G W ios a (eM ga) := pe_imp ha fun σ H Q q => by
  obtain ⟨pr, io, s, rfl, hi, r, q⟩ := of_tEv q
  refine tEv_of hi r (OuP.bind0 q fun t v s1 ot r1 x1 p1 f1 q1 => ?_)
  cases t with
  | loc i =>
    simp only at q1
    cases e : s1.ρ[i]? with
    | none => simp only [e] at q1; exact q1.elim
    | some o =>
      cases o with
      | none => simp only [e] at q1; exact q1.elim
      | some t0 =>
        simp only [e] at q1
        obtain ⟨_, hv⟩ := p1.rel
        obtain ⟨v', o1, o2, o3, e3, e4, h0, hs⟩ := Sl.drop r1.sl e
        rw [hv] at e3; cases e3
        have nd := r1.nd
        rw [e4, List.nodup_append, List.nodup_append] at nd
        refine q1 v { s1 with ρ := s1.ρ.set i none, os := o1 ++ o3 } o2 rfl ⟨hs, ?_, fun a ha => ?_, r1.dom, r1.iov⟩ ?_ ⟨loc_of h0, nd.2.1.1, fun a ha => ?_⟩ fun a ha => ?_
        · show (o1 ++ o3).Nodup
          rw [List.nodup_append]
          exact ⟨nd.1, nd.2.1.2.1, fun a ha b hb => nd.2.2 a ha b (List.mem_append_right _ hb)⟩
        · have ha' : a ∈ o1 ∨ a ∈ o3 := by simpa using ha
          exact r1.sep a (by rw [e4]; rcases ha' with h | h <;> simp [h])
        · refine ⟨x1.keep, x1.dom, x1.tk, x1.fz, x1.fzo, fun a h => ?_⟩
          have ha' : a ∈ o1 ∨ a ∈ o3 := by simpa using h
          exact x1.oso a (by rw [e4]; rcases ha' with h | h <;> simp [h])
        · have := r1.sep a (by rw [e4]; simp [ha])
          refine ⟨this.1, this.2, fun z => ?_⟩
          have ha' : a ∈ o1 ∨ a ∈ o3 := by simpa using z
          rcases ha' with h | h
          · exact nd.2.2 a h a (List.mem_append_left _ ha) rfl
          · exact nd.2.1.2.2 a ha a h rfl
        · exact x1.oso a (by rw [e4]; simp [ha])
  | v k d => exact q1 v s1 ot rfl r1 x1 p1 f1
  | tp ts => exact q1 v s1 ot rfl r1 x1 p1 f1
  | ls ts => exact q1 v s1 ot rfl r1 x1 p1 f1
  | ob c ts => exact q1 v s1 ot rfl r1 x1 p1 f1

/-! ### tests -/
abbrev PTv (X : Cx) (G : Gx) (W : WX) (ios : List Nat) (x : Expr) (g : Ev) : Prop := PT X x (tTest (tEv G W ios g))
theorem t_cmp {op : CmpOp} {r : R2} {f : Tm → Tm → Option Tm} (ho : OpR X (compareOp op) r) (h : Op2 G W f r) (ha : PEv X G W ios a ga) (hb : PEv X G W ios b gb) (hm : behindInMarks op b = false) : PTv X G W ios (.Compare a [op] [b] pos) (eOp2 f ga gb) :=
  pt_imp (pt_cmpR ho ha hb hm) fun σ H Q q => op2_end h q
theorem t_val (ha : PEv X G W ios a ga) (he : ∀ whole, isTrue a X.env whole = (do let v ← whole; standAt a.pos; holding [v] (truthy v)) := by intro _; rfl) : PTv X G W ios a ga := pt_val ha he
/-- a bool in flight -/
def asB : Tm → Option Bool
  | .v _ (.bl b) => some b
  | _ => none
theorem asB_of {t : Tm} {v : V} {ot : List Addr} {x : Bool} (p : Tp G pr σ s t v ot) (e : asB t = some x) : v = .bl x := by
  have h := p.rel
  cases t with
  | v k d =>
    cases d <;> simp only [asB, reduceCtorEq, Option.some.injEq] at e
    subst e
    cases k <;> simp only [TmT, TmR, Rep, RepO] at h <;> exact h.2
  | loc i => simp [asB] at e
  | tp ts => simp [asB] at e
  | ls ts => simp [asB] at e
  | ob c ts => simp [asB] at e
def eNot (g : Ev) : Ev := fun ρ => (g ρ).bind fun t ρ1 => match asB t with
  | some b => .ok (.v .F (.bl (!b))) ρ1
  | none => .no
def eAnd (ga gb : Ev) : Ev := fun ρ => (ga ρ).bind fun t ρ1 => match asB t with
  | some true => gb ρ1
  | some false => .ok (.v .F (.bl false)) ρ1
  | none => .no
def eOr (ga gb : Ev) : Ev := fun ρ => (ga ρ).bind fun t ρ1 => match asB t with
  | some true => .ok (.v .F (.bl true)) ρ1
  | some false => gb ρ1
  | none => .no
def eIf (gc ga gb : Ev) : Ev := fun ρ => (gc ρ).bind fun t ρ1 => match asB t with
  | some true => ga ρ1
  | some false => gb ρ1
  | none => .no
/-- a test's reading -/
theorem tTest_of {g : Ev} {k : Bool → Ss → Ou} {Q : VK} (hi : io.map Prod.fst = ios) (r : SR G pr io σ s) {R : Bool → Hp → Prop}
    (q : OuP G W pr io σ s ((g s.ρ).bind fun t ρ1 => match asB t with | some b => k b ρ1 | none => .no) Q) (h : ∀ b s1, SR G pr io σ s1 → Ext s s1 → OuP G W pr io σ s1 (k b s1.ρ) Q → R b s1.H) : tTest (tEv G W ios g) σ s.H R := by
  refine tEv_of hi r (OuP.bind q fun t v s1 ot r1 x1 p1 f1 q1 => ?_)
  cases e : asB t with
  | none => rw [e] at q1; exact q1.elim
  | some b =>
    rw [e] at q1
    exact ⟨b, asB_of p1 e, h b s1 r1 x1 q1⟩
theorem OuP.isB (r : SR G pr io σ s) {x : Bool} {R : Bool → Hp → Prop} (q : OuP G W pr io σ s (.ok (.v .F (.bl x)) s.ρ) fun v H => ∃ k, v = .bl k ∧ R k H) : R x s.H := by
  obtain ⟨k, e, h⟩ := q.done (v := .bl x) r (by simp only [Rep])
  cases e
  exact h
theorem t_not (ha : PTv X G W ios a ga) : PTv X G W ios (.UnaryOp .Not a pos) (eNot ga) := pt_imp (pt_not ha) fun σ H Q q => by
  obtain ⟨pr, io, s, rfl, hi, r, q⟩ := of_tEv q
  exact tTest_of hi r (k := fun b ρ1 => .ok (.v .F (.bl (!b))) ρ1) q fun b s1 r1 x1 q1 => q1.isB r1
theorem match_eta (o : Option Bool) (A B : Ou) : (match o with | some true => A | some false => B | none => Ou.no) = (match o with | some b => (if b = true then A else B) | none => Ou.no) := by
  cases o with
  | none => rfl
  | some b => cases b <;> rfl
theorem t_and {rest : List Expr} (ha : PTv X G W ios a ga) (hb : PW X (.BoolOp .And (b :: rest) pos) (tTest (tEv G W ios gb))) : PW X (.BoolOp .And (a :: b :: rest) pos) (tTest (tEv G W ios (eAnd ga gb))) := by
  refine ⟨fun wh pins s σ H Q I q => (pw_and ha hb).run wh pins s σ H Q I ?_⟩
  obtain ⟨pr, io, s, rfl, hi, r, q⟩ := of_tEv q
  refine tTest_of hi r (k := fun b ρ1 => if b = true then gb ρ1 else .ok (.v .F (.bl false)) ρ1) (by simpa only [eAnd, match_eta] using q) fun b s1 r1 x1 q1 => ?_
  cases b with
  | true => exact iteT (tEv_of hi r1 q1)
  | false => exact iteF (q1.isB r1)
theorem t_or {rest : List Expr} (ha : PTv X G W ios a ga) (hb : PW X (.BoolOp .Or (b :: rest) pos) (tTest (tEv G W ios gb))) : PW X (.BoolOp .Or (a :: b :: rest) pos) (tTest (tEv G W ios (eOr ga gb))) := by
  refine ⟨fun wh pins s σ H Q I q => (pw_or ha hb).run wh pins s σ H Q I ?_⟩
  obtain ⟨pr, io, s, rfl, hi, r, q⟩ := of_tEv q
  refine tTest_of hi r (k := fun b ρ1 => if b = true then .ok (.v .F (.bl true)) ρ1 else gb ρ1) (by simpa only [eOr, match_eta] using q) fun b s1 r1 x1 q1 => ?_
  cases b with
  | true => exact iteT (q1.isB r1)
  | false => exact iteF (tEv_of hi r1 q1)
theorem t_and1 (ha : PTv X G W ios a ga) : PW X (.BoolOp .And [a] pos) (tTest (tEv G W ios ga)) := pw_and1 ha
theorem t_or1 (ha : PTv X G W ios a ga) : PW X (.BoolOp .Or [a] pos) (tTest (tEv G W ios ga)) := pw_or1 ha
theorem v_ifx (hc : PTv X G W ios c gc) (ha : PEv X G W ios a ga) (hb : PEv X G W ios b gb) : PEv X G W ios (.IfExp c a b pos) (eIf gc ga gb) := pe_imp (pe_ifExp hc ha hb) fun σ H Q q => by
  obtain ⟨pr, io, s, rfl, hi, r, q⟩ := of_tEv q
  refine tTest_of hi r (k := fun b ρ1 => if b = true then ga ρ1 else gb ρ1) (by simpa only [eIf, match_eta] using q) fun b s1 r1 x1 q1 => ?_
  cases b with
  | true => exact iteT (tEv_of hi r1 q1)
  | false => exact iteF (tEv_of hi r1 q1)
/-- as values -/
theorem asB_val {g : Ev} {k : Bool → Ss → Ou} {Q : VK} (hi : io.map Prod.fst = ios) (r : SR G pr io σ s) {R : Bool → Hp → Prop}
    (q : OuP G W pr io σ s ((g s.ρ).bind fun t ρ1 => match asB t with | some b => k b ρ1 | none => .no) Q) (h : ∀ b s1, SR G pr io σ s1 → Ext s s1 → OuP G W pr io σ s1 (k b s1.ρ) Q → R b s1.H) : tEv G W ios g σ s.H fun x H1 => ∃ c, x = .bl c ∧ R c H1 := tTest_of hi r q h
theorem v_not (ha : PEv X G W ios a ga) : PEv X G W ios (.UnaryOp .Not a pos) (eNot ga) := pe_imp (pe_not ha) fun σ H Q q => by
  obtain ⟨pr, io, s, rfl, hi, r, q⟩ := of_tEv q
  exact asB_val hi r (k := fun b ρ1 => .ok (.v .F (.bl (!b))) ρ1) (R := fun c H1 => Q (.bl (!c)) H1) q fun b s1 r1 x1 q1 => q1.done r1 (by simp only [Rep])
theorem v_and {rest : List Expr} (ha : PEv X G W ios a ga) (hb : PEv X G W ios (.BoolOp .And (b :: rest) pos) gb) : PEv X G W ios (.BoolOp .And (a :: b :: rest) pos) (eAnd ga gb) := pe_imp (pe_and ha hb) fun σ H Q q => by
  obtain ⟨pr, io, s, rfl, hi, r, q⟩ := of_tEv q
  refine asB_val hi r (k := fun b ρ1 => if b = true then gb ρ1 else .ok (.v .F (.bl false)) ρ1) (R := fun c H1 => if c = true then tEv G W ios gb σ H1 Q else Q (.bl false) H1) (by simpa only [eAnd, match_eta] using q) fun b s1 r1 x1 q1 => ?_
  cases b with
  | true => exact iteT (tEv_of hi r1 q1)
  | false => exact iteF (q1.done r1 (by simp only [Rep]))
theorem v_bop1 {op : BoolOp} (ha : PEv X G W ios a ga) : PEv X G W ios (.BoolOp op [a] pos) ga := pe_one ha

/-! ### is None -/
def isNon : D → Bool
  | .non => true
  | _ => false
theorem isNon_rep {H : Hp} {P : Addr → Prop} {d : D} {v : V} (h : Rep G H P d v) : decide (v = .non) = isNon d := by
  cases d <;> simp only [Rep] at h
  · subst h; rfl
  · subst h; rfl
  · subst h; rfl
  · subst h; rfl
  · obtain ⟨a, _, rfl, _⟩ := h; rfl
  · obtain ⟨a, _, rfl, _⟩ := h; rfl
  · obtain ⟨a, _, rfl, _⟩ := h; rfl
  · obtain ⟨a, _, _, _, rfl, _⟩ := h; rfl
  · obtain ⟨a, _, _, rfl, _⟩ := h; rfl
  · obtain ⟨a, rfl, _⟩ := h; rfl
  · obtain ⟨a, rfl, _⟩ := h; rfl
  · obtain ⟨a, _, _, rfl, _⟩ := h; rfl
  · rcases h with ⟨_, a, rfl⟩ | ⟨_, a, rfl⟩ <;> rfl
def eIsN : Ev → Ev → Ev := eOp2 (rd2 fun x y => if isNon y = true then some (.bl (isNon x)) else none)
def eNotN : Ev → Ev → Ev := eOp2 (rd2 fun x y => if isNon y = true then some (.bl (!isNon x)) else none)
theorem isNon_v {H : Hp} {P : Addr → Prop} {d : D} {v : V} (h : Rep G H P d v) (e : isNon d = true) : v = .non := by
  rw [← isNon_rep h] at e
  exact of_decide_eq_true e
theorem rdIsN : Rd2 G (fun x y => if isNon y = true then some (.bl (isNon x)) else none) (fun x y H Q => y = .non ∧ Q (.bl (decide (x = .non))) H) := by
  intro H x y dx dy d Q hx hy e q
  simp only at e
  split at e
  · rename_i h
    cases e
    exact ⟨isNon_v hy h, q _ fun P => by simp only [Rep]; rw [isNon_rep hx]⟩
  · cases e
theorem rdNotN : Rd2 G (fun x y => if isNon y = true then some (.bl (!isNon x)) else none) (fun x y H Q => y = .non ∧ Q (.bl (!decide (x = .non))) H) := by
  intro H x y dx dy d Q hx hy e q
  simp only at e
  split at e
  · rename_i h
    cases e
    exact ⟨isNon_v hy h, q _ fun P => by simp only [Rep]; rw [isNon_rep hx]⟩
  · cases e
theorem v_isN (ha : PEv X G W ios a ga) (hb : PEv X G W ios b gb) : PEv X G W ios (.Compare a [.Is] [b] pos) (eIsN ga gb) := v_cmp op_isN (Rd2.op rdIsN) ha hb (nomark _)
/-! ### argument lists, displays -/
def gNil : Ss → OuL := fun ρ => .ok [] ρ
def gCons (g : Ev) (gs : Ss → OuL) : Ss → OuL := fun ρ => (g ρ).bindL fun t ρ1 => (gs ρ1).bindL fun ts ρ2 => .ok (t :: ts) ρ2
theorem TmTs.own {ts : List Tm} {vs : List V} {ot : List Addr} (h : TmTs G pr σ s ts vs ot) : ∀ a ∈ ot, Own s.H a := by
  induction ts generalizing vs ot with
  | nil => obtain ⟨_, rfl⟩ := h; intro a ha; cases ha
  | cons t ts ih =>
    obtain ⟨v, r, o1, o2, rfl, rfl, h1, h2⟩ := h
    intro a ha
    rcases List.mem_append.mp ha with ha | ha
    · exact h1.own a ha
    · exact ih h2 a ha
theorem va_nil : PAv X G W ios [] gNil := pa_imp pa_nil fun σ H Q q => by
  obtain ⟨pr, io, s, rfl, hi, r, q⟩ := of_tEvs q
  exact q [] s [] rfl r (Ext.refl s) ⟨⟨rfl, rfl⟩, .nil, fun a ha => by cases ha⟩ Frs.nil
theorem Tps.cons {t : Tm} {ts : List Tm} {v : V} {vs : List V} {o1 o2 : List Addr} {s2 : Sx} (p1 : Tp G pr σ s1 t v o1) (r1 : SR G pr io σ s1) (x2 : Ext s1 s2) (p2 : Tps G pr σ s2 ts vs o2) (f2 : Frs s1 o2) : Tps G pr σ s2 (t :: ts) (v :: vs) (o1 ++ o2) := by
  have p1' := p1.on r1 x2
  refine ⟨⟨v, vs, o1, o2, rfl, rfl, p1'.rel, p2.rel⟩, ?_, fun a ha => ?_⟩
  · rw [List.nodup_append]
    exact ⟨p1.nd, p2.nd, fun a ha b hb e => by subst e; exact p1.apart f2 a ha hb⟩
  · rcases List.mem_append.mp ha with ha | ha
    · exact p1'.sep a ha
    · exact p2.sep a ha
theorem Frs.app {o1 o2 : List Addr} (f1 : Frs s o1) (f2 : Frs s o2) : Frs s (o1 ++ o2) := fun a ha => (List.mem_append.mp ha).elim (f1 a) (f2 a)
theorem va_cons {e : Expr} {es : List Expr} {gs : Ss → OuL} (ha : PEv X G W ios e ga) (hr : PAv X G W ios es gs) (hs : starEach (e :: es) X.env = (false, eval e X.env) :: starEach es X.env := by rfl) : PAv X G W ios (e :: es) (gCons ga gs) := pa_imp (pa_cons ha hr hs) fun σ H Q q => by
  obtain ⟨pr, io, s, rfl, hi, r, q⟩ := of_tEvs q
  refine tEv_of hi r (OuP.bindLG (Ext.refl s) q fun t v s1 o1 r1 x1 p1 f1 q1 => ?_)
  refine tEvs_of hi r1 (OuLP.bindLG x1 q1 fun ts vs s2 o2 r2 x2 p2 f2 q2 => ?_)
  exact q2 (v :: vs) s2 (o1 ++ o2) rfl r2 (x1.trans x2) (Tps.cons p1 r1 x2 p2 f2) (f1.app (f2.on x1))
/-- frozen: all values of a list in flight -/
theorem TmTs.frz : ∀ {ts : List Tm} {vs : List V} {ot : List Addr} {ds : List D}, TmTs G pr σ s ts vs ot → PV.frzs ts = some ds → Reps G s.H (fun a => s.fz a ∨ a ∈ ot) ds vs
  | [], vs, ot, ds, h, e => by obtain ⟨rfl, _⟩ := h; simp only [PV.frzs, Option.some.injEq] at e; subst e; simp only [Reps]
  | t :: ts, vs, ot, ds, h, e => by
    obtain ⟨v, r, o1, o2, rfl, rfl, h1, h2⟩ := h
    simp only [PV.frzs] at e
    cases e1 : PV.frz t with
    | none => rw [e1] at e; cases e
    | some d =>
      cases e2 : PV.frzs ts with
      | none => rw [e1, e2] at e; cases e
      | some ds' =>
        rw [e1, e2] at e
        cases e
        have hl : ∀ i, t ≠ .loc i := fun i z => by subst z; simp [PV.frz] at e1
        simp only [Reps]
        exact ⟨v, r, rfl, (TmR.frz _ _ _ _ (tm_of h1 hl) e1).mono fun a p => p.elim .inl fun z => .inr (List.mem_append_left _ z), (TmTs.frz h2 e2).mono fun a p => p.elim .inl fun z => .inr (List.mem_append_right _ z)⟩
def eTup (gs : Ss → OuL) : Ev := fun ρ => (gs ρ).bind fun ts ρ1 => match frzs ts with
  | some ds => if ds.length ≤ sizeLine then .ok (.v .F (.tup ds)) ρ1 else .no
  | none => .no
def eLst (gs : Ss → OuL) : Ev := fun ρ => (gs ρ).bind fun ts ρ1 => match frzs ts with
  | some ds => if ds.length ≤ sizeLine then .ok (.v .O (.lst ds)) ρ1 else .no
  | none => .no
/-- own parts in a tuple, in a list -/
def eTpO (gs : Ss → OuL) : Ev := fun ρ => (gs ρ).bind fun ts ρ1 => if ts.length ≤ sizeLine ∧ (ts.all fun t => match t with | .loc _ => false | _ => true) = true then .ok (.tp ts) ρ1 else .no
def eLsO (gs : Ss → OuL) : Ev := fun ρ => (gs ρ).bind fun ts ρ1 => if ts.length ≤ sizeLine ∧ (ts.all fun t => match t with | .loc _ => false | _ => true) = true then .ok (.ls ts) ρ1 else .no
variable {es : List Expr} {gs : Ss → OuL}
theorem v_tup {x1} (h : PAv X G W ios es gs) : PEv X G W ios (.Tuple es x1 pos) (eTup gs) := pe_imp (pe_tup h) fun σ H Q q => by
  obtain ⟨pr, io, s, rfl, hi, r, q⟩ := of_tEv q
  refine tEvs_of hi r (OuLP.bind0 q fun ts vs s1 ot r1 x1 p1 f1 q1 => ?_)
  cases e : frzs ts with
  | none => rw [e] at q1; exact q1.elim
  | some ds =>
    rw [e] at q1
    simp only at q1
    split at q1
    · rename_i hl
      have hd := p1.rel.frz e
      have r2 := r1.frzO (ot := ot) p1.rel.own p1.sep
      have x2 := x1.frzO f1
      exact ⟨by rw [← hd.len]; exact hl, fun p hp => OuP.tup (s := s1.frz ot s1.ρ s1.os) (OuP.later q1 x2) r2 hd hp⟩
    · exact q1.elim
theorem v_lst (h : PAv X G W ios es gs) : PEv X G W ios (.List es pos) (eLst gs) := pe_imp (pe_lst h) fun σ H Q q => by
  obtain ⟨pr, io, s, rfl, hi, r, q⟩ := of_tEv q
  refine tEvs_of hi r (OuLP.bind0 q fun ts vs s1 ot r1 x1 p1 f1 q1 => ?_)
  cases e : frzs ts with
  | none => rw [e] at q1; exact q1.elim
  | some ds =>
    rw [e] at q1
    simp only at q1
    split at q1
    · rename_i hl
      have hd := p1.rel.frz e
      have r2 := r1.frzO (ot := ot) p1.rel.own p1.sep
      have x2 := x1.frzO f1
      exact ⟨by rw [← hd.len]; exact hl, fun p hp => OuP.lst (s := s1.frz ot s1.ρ s1.os) (OuP.later q1 x2) r2 hd hp⟩
    · exact q1.elim
theorem TmTs.tm : ∀ {ts : List Tm} {vs : List V} {ot : List Addr}, TmTs G pr σ s ts vs ot → (ts.all fun t => match t with | .loc _ => false | _ => true) = true → TmRs G s.H s.fz pr ts vs ot
  | [], vs, ot, h, e => by simp only [TmRs]; exact h
  | t :: ts, vs, ot, h, e => by
    obtain ⟨v, r, o1, o2, rfl, rfl, h1, h2⟩ := h
    rw [List.all_cons, Bool.and_eq_true] at e
    simp only [TmRs]
    exact ⟨v, r, o1, o2, rfl, rfl, tm_of h1 fun i z => by subst z; simp at e, TmTs.tm h2 e.2⟩
theorem TmRs.len {H : Hp} {fz : Addr → Prop} : ∀ {ts : List Tm} {vs : List V} {ot : List Addr}, TmRs G H fz pr ts vs ot → ts.length = vs.length
  | [], vs, ot, h => by simp only [TmRs] at h; rw [h.1]; rfl
  | t :: ts, vs, ot, h => by simp only [TmRs] at h; obtain ⟨v, r, o1, o2, rfl, rfl, h1, h2⟩ := h; simp [TmRs.len h2]
end
end PV

namespace PV
open PySem PySem.Spec L2
section
variable {G : Gx} {W : WX} {pr : Addr → Prop} {io : List (Nat × V)} {σ : L2.St} {s s1 : Sx} {ios : List Nat} {Q : VK} {X : Cx} {a b c : Expr} {pos p : Pos} {ga gb gc : Ev} {x : Str}

/-! ### a[b] -/
def subK (k : Kd) (d : D) : Tm := match k with
  | .B => .v .B d
  | _ => .v .F d
def idxV (k : Kd) (x y : D) : Option Tm := match x, y with
  | .lst xs, .int i => (atI xs i).map (subK k)
  | .tup xs, .int i => (atI xs i).map (subK k)
  | .scr ns, .int i => (atI ns i).map fun n => .v .F (.int n)
  | .str z, .int i => if z.length ≤ sizeLine then (atI z.cps.toList i).map fun c => .v .F (.str ⟨#[c]⟩) else none
  | _, _ => none
def opIdx (a b : Tm) : Option Tm := match a, b with
  | .v k x, .v _ y => idxV k x y
  | _, _ => none
def eIdx : Ev → Ev → Ev := eOp2 opIdx
theorem Reps.atI {H : Hp} {P : Addr → Prop} {ds : List D} {vs : List V} {i : Int} {d : D} (h : Reps G H P ds vs) (e : L2.atI ds i = some d) : ∃ v, L2.atI vs i = some v ∧ Rep G H P d v := by
  unfold L2.atI at e ⊢
  rw [← h.len]
  cases q : ixN ds.length i with
  | none => rw [q] at e; cases e
  | some j =>
    rw [q] at e
    exact h.get e
/-- the part of a value -/
theorem OuP.sub {k : Kd} {d : D} {v : V} (h : OuP G W pr io σ s (.ok (subK k d) s.ρ) Q) (r : SR G pr io σ s) (hd : Rep G s.H (if k = .B then fun a => s.fz a ∨ pr a else s.fz) d v) : Q v s.H := by
  cases k with
  | F => exact h.done r (by simpa using hd)
  | O => exact h.done r (by simpa using hd)
  | B =>
    refine h.here r (ot := []) ⟨?_, .nil, fun a ha => by cases ha⟩ Frs.nil
    show TmR G s.H s.fz pr (.v .B d) v []
    simp only [TmR]
    exact ⟨trivial, by simpa using hd⟩
theorem lst_all {H : Hp} {fz : Addr → Prop} {k : Kd} {xs : List D} {x : V} {ox : List Addr} (h : TmR G H fz pr (.v k (.lst xs)) x ox) : ∃ a vs, x = .ref a ∧ H a = some (.lst vs) ∧ Reps G H (if k = .B then fun a => fz a ∨ pr a else fz) xs vs := by
  cases k with
  | F => simp only [TmR, Rep] at h; obtain ⟨_, a, vs, e1, _, e2, h⟩ := h; exact ⟨a, vs, e1, e2, by simpa using h⟩
  | B => simp only [TmR, Rep] at h; obtain ⟨_, a, vs, e1, _, e2, h⟩ := h; exact ⟨a, vs, e1, e2, by simpa using h⟩
  | O => simp only [TmR, RepO] at h; obtain ⟨a, vs, e1, _, e2, h⟩ := h; exact ⟨a, vs, e1, e2, by simpa using h⟩
theorem tup_all {H : Hp} {fz : Addr → Prop} {k : Kd} {xs : List D} {x : V} {ox : List Addr} (h : TmR G H fz pr (.v k (.tup xs)) x ox) : ∃ a vs, x = .ref a ∧ H a = some (.tup vs) ∧ Reps G H (if k = .B then fun a => fz a ∨ pr a else fz) xs vs := by
  cases k with
  | F => simp only [TmR, Rep] at h; obtain ⟨_, a, vs, e1, e2, h⟩ := h; exact ⟨a, vs, e1, e2, by simpa using h⟩
  | B => simp only [TmR, Rep] at h; obtain ⟨_, a, vs, e1, e2, h⟩ := h; exact ⟨a, vs, e1, e2, by simpa using h⟩
  | O => simp only [TmR, RepO, Rep] at h; obtain ⟨_, a, vs, e1, e2, h⟩ := h; exact ⟨a, vs, e1, e2, by simpa using h⟩
theorem op2_idx {K : PySem.W.Frag} (hK : G.K = K) : Op2 G W opIdx (rIx K) := by
  intro pr io σ s x y tx ty t ox oy Q hr hx hy e q
  cases tx <;> cases ty <;> simp only [opIdx, reduceCtorEq] at e
  rename_i k d k' d'
  have ry := TmR.toD _ _ _ hy
  cases d <;> cases d' <;> simp only [idxV, reduceCtorEq, Option.map_eq_some_iff] at e <;> simp only [toD, Rep] at ry
  · rename_i z i
    split at e
    · rename_i hl
      simp only [Option.map_eq_some_iff] at e
      obtain ⟨c, e, rfl⟩ := e
      have rx := TmR.toD _ _ _ hx
      simp only [toD, Rep] at rx
      exact .inr (.inr ⟨z, i, c, rx, ry, hl, e, q.done hr (by simp only [Rep])⟩)
    · cases e
  · obtain ⟨d0, e, rfl⟩ := e
    obtain ⟨a, vs, rfl, ha, hvs⟩ := tup_all hx
    obtain ⟨v, hv, hd⟩ := hvs.atI e
    exact .inr (.inl ⟨a, vs, _, v, rfl, ry, .of ha, hv, q.sub hr hd⟩)
  · obtain ⟨d0, e, rfl⟩ := e
    obtain ⟨a, vs, rfl, ha, hvs⟩ := lst_all hx
    obtain ⟨v, hv, hd⟩ := hvs.atI e
    exact .inl ⟨a, vs, _, v, rfl, ry, .of ha, hv, q.sub hr hd⟩
  · obtain ⟨n, e, rfl⟩ := e
    have rx := TmR.toD _ _ _ hx
    simp only [toD, Rep] at rx
    obtain ⟨a, rfl, ha⟩ := rx
    refine .inl ⟨a, _, _, .int n, rfl, ry, hK ▸ ha.sq, ?_, q.done hr (by simp only [Rep])⟩
    unfold L2.atI at e ⊢
    rw [List.length_map]
    rename_i ns i
    cases h : ixN ns.length i with
    | none => rw [h] at e; cases e
    | some j =>
      rw [h] at e
      have e' : ns[j]? = some n := e
      show (ns.map V.int)[j]? = some (V.int n)
      rw [List.getElem?_map, e']
      rfl
theorem v_idx (hK : G.K = X.K) (ha : PEv X G W ios a ga) (hb : PEv X G W ios b gb) (hs : PlainIx b := by exact fun _ _ => rfl) : PEv X G W ios (.Subscript a b pos) (eIdx ga gb) := v_ix ix_seq (op2_idx hK) ha hb hs

/-! ### a[lo:hi] -/
def cutD {α : Type} (xs : List α) (lo hi : Option Int) : List α := (xs.drop (HT.sIx xs.length 0 lo)).take (HT.sIx xs.length xs.length hi - HT.sIx xs.length 0 lo)
def asI : Tm → Option Int
  | .v _ (.int i) => some i
  | _ => none
theorem asI_of {t : Tm} {v : V} {ot : List Addr} {i : Int} (p : Tp G pr σ s t v ot) (e : asI t = some i) : v = .int i := by
  have h := p.rel
  cases t with
  | v k d =>
    cases d <;> simp only [asI, reduceCtorEq, Option.some.injEq] at e
    subst e
    cases k <;> simp only [TmT, TmR, Rep, RepO] at h <;> exact h.2
  | loc i => simp [asI] at e
  | tp ts => simp [asI] at e
  | ls ts => simp [asI] at e
  | ob c ts => simp [asI] at e
def slV (k : Kd) (x : D) (l h : Option Int) : Option Tm := match x with
  | .lst xs => (elk k xs).map fun xs => .v .O (.lst (cutD xs l h))
  | .tup xs => some (subK k (.tup (cutD xs l h)))
  | .str z => if z.length ≤ sizeLine then some (.v .F (.str (cutS z l h))) else none
  | _ => none
def opSl (a : Tm) (l h : Option Int) : Option Tm := match a with
  | .v k x => slV k x l h
  | _ => none
def evO (g : Option Ev) (ρ : Ss) (k : Option Int → Ss → Ou) : Ou := match g with
  | none => k none ρ
  | some g => (g ρ).bind fun t ρ1 => match asI t with
    | some i => k (some i) ρ1
    | none => .no
def eSl (ga : Ev) (gl gh : Option Ev) : Ev := fun ρ => (ga ρ).bind fun t ρ1 => evO gl ρ1 fun l ρ2 => evO gh ρ2 fun h ρ3 => match derT ρ3 t with
  | some u => match opSl u l h with
    | some r => .ok r ρ3
    | none => .no
  | none => .no
/-- an optional bound's reading -/
def tPO (G : Gx) (W : WX) (ios : List Nat) : Option Ev → TO
  | none => tNoPart
  | some g => tPart (tEv G W ios g)
def POv (X : Cx) (G : Gx) (W : WX) (ios : List Nat) (e : Option Expr) (g : Option Ev) : Prop := PO X e (tPO G W ios g)
theorem vo_none : POv X G W ios none none := po_none
theorem vo_some (ha : PEv X G W ios a ga) : POv X G W ios (some a) (some ga) := po_some ha
theorem evO_read {g : Option Ev} {k : Option Int → Ss → Ou} {Q : VK} (hi : io.map Prod.fst = ios) (r : SR G pr io σ s) {R : Option Int → Hp → Prop} (q : OuP G W pr io σ s (evO g s.ρ k) Q)
    (h : ∀ i s1, SR G pr io σ s1 → Ext s s1 → OuP G W pr io σ s1 (k i s1.ρ) Q → R i s1.H) : tPO G W ios g σ s.H R := by
  cases g with
  | none => exact h none s r (Ext.refl s) q
  | some g =>
    show tEv G W ios g σ s.H (fun x H1 => ∃ i, x = .int i ∧ R (some i) H1)
    refine tEv_of hi r (OuP.bind q fun t v s1 ot r1 x1 p1 f1 q1 => ?_)
    cases e : asI t with
    | none => rw [e] at q1; exact q1.elim
    | some i =>
      rw [e] at q1
      exact ⟨i, asI_of p1 e, h (some i) s1 r1 x1 q1⟩
theorem cut_reps {H : Hp} {P : Addr → Prop} {ds : List D} {vs : List V} {l h : Option Int} (r : Reps G H P ds vs) : Reps G H P (cutD ds l h) (cutV vs l h) := by
  unfold cutD cutV
  rw [← r.len]
  exact (r.drop _).take _
theorem v_sl {lo hi : Option Expr} {gl gh : Option Ev} {p2 : Pos} (ha : PEv X G W ios a ga) (hl : POv X G W ios lo gl) (hh : POv X G W ios hi gh) : PEv X G W ios (.Subscript a (.Slice lo hi none p2) pos) (eSl ga gl gh) := pe_imp (pe_slice (sl_list.or (sl_tupA.or sl_str)) ha hl hh) fun σ H Q q => by
  obtain ⟨pr, io, s, rfl, hio, r, q⟩ := of_tEv q
  refine tEv_of hio r (OuP.bind q fun t v s1 ot r1 x1 p1 f1 q1 => ?_)
  refine evO_read hio r1 q1 fun l s2 r2 x2 q2 => ?_
  refine evO_read hio r2 q2 fun h s3 r3 x3 q3 => ?_
  have p3 := (p1.on r1 x2).on r2 x3
  cases e : derT s3.ρ t with
  | none => rw [e] at q3; exact q3.elim
  | some u =>
    rw [e] at q3
    obtain ⟨o, hu⟩ := p3.der r3 e
    cases u with
    | v k d =>
      simp only [opSl] at q3
      cases d <;> simp only [slV] at q3
      case str z =>
        split at q3
        · rename_i w e2
          split at e2
          · rename_i hz
            cases e2
            have hx := TmR.toD _ _ _ hu
            simp only [toD, Rep] at hx
            exact .inr (.inr ⟨z, hx, hz, q3.done r3 (by simp only [Rep])⟩)
          · cases e2
        · exact q3.elim
      case tup xs =>
        obtain ⟨a, vs, rfl, h1, h2⟩ := tup_all hu
        refine .inr (.inl ⟨a, vs, rfl, .of h1, fun hw => ?_, fun hw p hp => ?_⟩)
        · refine q3.sub r3 ?_
          simp only [Rep]
          have e3 : cutD xs l h = xs := by
            unfold cutD
            rw [← h2.len] at hw
            rw [hw.1, hw.2]
            simp
          rw [e3]
          exact ⟨a, vs, rfl, h1, h2⟩
        · have hk : TmR G (upd s3.H p (.tup (cutV vs l h))) s3.fz pr (subK k (.tup (cutD xs l h))) (.ref p) [] := by
            have kp : Reps G (upd s3.H p (.tup (cutV vs l h))) (if k = .B then fun a => s3.fz a ∨ pr a else s3.fz) (cutD xs l h) (cutV vs l h) := Reps.keep (fun _ z => z) (fun a o _ e => by show upd _ _ _ _ = _; rw [upd_ne (ne_of_none e hp)]; exact e) (tk_new hp _) _ _ (cut_reps h2)
            cases k <;> simp only [subK, TmR, Rep] <;> exact ⟨trivial, p, _, rfl, upd_same, by simpa using kp⟩
          refine q3 _ (s3.new p (.tup (cutV vs l h))) [] rfl (r3.new hp _) (Ext.new hp _) ⟨?_, .nil, fun a ha => by cases ha⟩ Frs.nil
          cases k <;> exact hk
      case lst xs =>
        cases e2 : elk k xs with
        | none => rw [e2] at q3; exact q3.elim
        | some ys =>
          rw [e2] at q3
          obtain ⟨a, vs, rfl, h1, h2⟩ := lst_items hu e2
          exact .inl ⟨a, vs, rfl, .of h1, fun p hp => q3.lst r3 (cut_reps h2) hp⟩
      all_goals exact q3.elim
    | loc i => simp only [opSl] at q3; exact q3.elim
    | tp ts => simp only [opSl] at q3; exact q3.elim
    | ls ts => simp only [opSl] at q3; exact q3.elim
    | ob c ts => simp only [opSl] at q3; exact q3.elim
/-- xs[::-1] -/
def opRev (t : Tm) : Option Tm := match t with
  | .v k (.lst xs) => (elk k xs).map fun xs => .v .O (.lst xs.reverse)
  | _ => none
def eRev : Ev → Ev := eOp1 opRev
theorem Reps.rev {H : Hp} {P : Addr → Prop} : ∀ {ds : List D} {vs : List V}, Reps G H P ds vs → Reps G H P ds.reverse vs.reverse
  | [], vs, h => by simp only [Reps] at h; subst h; simp [Reps]
  | d :: ds, vs, h => by
    simp only [Reps] at h
    obtain ⟨v, r, rfl, h1, h⟩ := h
    rw [List.reverse_cons, List.reverse_cons]
    exact (Reps.rev h).app (by simp only [Reps]; exact ⟨v, [], rfl, h1, rfl⟩)
theorem v_rev {k : Nat} {p1 p2 p3 : Pos} (ha : PEv X G W ios a ga) : PEv X G W ios (.Subscript a (.Slice none none (some (.UnaryOp .USub (.Constant (.int 1) k p1) p2)) p3) pos) (eRev ga) := pe_imp (pe_revL ha) fun σ H Q q => by
  refine op1_end (r := fun x H Q => ∃ a xs, x = .ref a ∧ SqL X.K H a xs ∧ ∀ p, H p = none → Q (.ref p) (upd H p (.lst xs.reverse))) ?_ rfl q
  intro pr io σ s x tx t ox Q hr hx e q
  cases tx <;> simp only [opRev, reduceCtorEq] at e
  rename_i k d
  cases d <;> simp only [reduceCtorEq, Option.map_eq_some_iff] at e
  obtain ⟨ys, e, rfl⟩ := e
  obtain ⟨a, vs, rfl, h1, h2⟩ := lst_items hx e
  exact ⟨a, vs, rfl, .of h1, fun p hp => q.lst hr h2.rev hp⟩

/-! ### built-ins -/
theorem call1 {id : Value} {r : List V → Hp → VK → Prop} {f : Tm → Option Tm} (h : Op1 G W f fun x H Q => r [x] H Q) {σ : L2.St} {H : Hp} {Q : VK} (q : tEv G W ios (eOp1 f ga) σ H Q) : tCB r (tCons (tEv G W ios ga) tNil) σ H Q := op1_end h rfl q
theorem call2 {r : List V → Hp → VK → Prop} {f : Tm → Tm → Option Tm} (h : Op2 G W f fun x y H Q => r [x, y] H Q) {σ : L2.St} {H : Hp} {Q : VK} (q : tEv G W ios (eOp2 f ga gb) σ H Q) : tCB r (tCons (tEv G W ios ga) (tCons (tEv G W ios gb) tNil)) σ H Q := op2_end h q
theorem v_b1 {id : String} {r : List V → Hp → VK → Prop} {f : Tm → Option Tm} (hc : CallR X (.builtin id) r) (h : Op1 G W f fun x H Q => r [x] H Q) (hm : X.mg x = none) (ha : PEv X G W ios a ga) (hg : Gl X x := by rfl) (hv : bootBuiltins x = some (.builtin id) := by decide +kernel)
    (hn : x ≠ "__name__" := by decide) (hdb : (x == ("__debug__" : Str)) = false := by decide) (hs : starEach [a] X.env = (false, eval a X.env) :: starEach [] X.env := by rfl) : PEv X G W ios (.Call (.Name x p) [a] [] pos) (eOp1 f ga) :=
  pe_imp (pe_callB hc hg hm hv (pa_cons ha pa_nil hs) hn hdb hs (by rfl)) fun _ _ _ q => call1 (id := .none) h q
theorem v_ty1 {id : String} {r : List V → Hp → VK → Prop} {f : Tm → Option Tm} (hc : CallR X (.type id) r) (h : Op1 G W f fun x H Q => r [x] H Q) (hm : X.mg x = none) (ha : PEv X G W ios a ga) (hg : Gl X x := by rfl) (hv : bootBuiltins x = some (.type id) := by decide +kernel)
    (hn : x ≠ "__name__" := by decide) (hdb : (x == ("__debug__" : Str)) = false := by decide) (hs : starEach [a] X.env = (false, eval a X.env) :: starEach [] X.env := by rfl) : PEv X G W ios (.Call (.Name x p) [a] [] pos) (eOp1 f ga) :=
  pe_imp (pe_callTy hc hg hm hv (pa_cons ha pa_nil hs) hn hdb hs (by rfl)) fun _ _ _ q => call1 (id := .none) h q
theorem v_b2 {id : String} {r : List V → Hp → VK → Prop} {f : Tm → Tm → Option Tm} (hc : CallR X (.builtin id) r) (h : Op2 G W f fun x y H Q => r [x, y] H Q) (hm : X.mg x = none) (ha : PEv X G W ios a ga) (hb : PEv X G W ios b gb) (hg : Gl X x := by rfl) (hv : bootBuiltins x = some (.builtin id) := by decide +kernel)
    (hn : x ≠ "__name__" := by decide) (hdb : (x == ("__debug__" : Str)) = false := by decide) (hs : starEach [a, b] X.env = (false, eval a X.env) :: starEach [b] X.env := by rfl) (hs2 : starEach [b] X.env = (false, eval b X.env) :: starEach [] X.env := by rfl)
    (hpl : (backTo pos (starEach [b] X.env)).any (·.1) = false := by rfl) : PEv X G W ios (.Call (.Name x p) [a, b] [] pos) (eOp2 f ga gb) :=
  pe_imp (pe_callB hc hg hm hv (pa_cons ha (pa_cons hb pa_nil hs2) hs) hn hdb hs hpl) fun _ _ _ q => call2 h q
/-- len -/
def lenD : D → Option D
  | .str z => if z.length ≤ sizeLine then some (.int z.length) else none
  | .lst xs => some (.int xs.length)
  | .tup xs => some (.int xs.length)
  | .scr xs => some (.int xs.length)
  | _ => none
theorem rdLen {K : PySem.W.Frag} (hK : G.K = K) : Rd1 G lenD (fun x H Q => (fun xs H Q => ∃ x n, xs = [x] ∧ LenV K x H n ∧ Q (.int n) H : List V → Hp → VK → Prop) [x] H Q) := by
  intro H x dx d Q hx e q
  cases dx <;> simp only [lenD, Option.some.injEq, reduceCtorEq] at e <;> simp only [Rep] at hx
  · rename_i z
    split at e
    · rename_i hz
      cases e
      subst hx
      exact ⟨_, z.length, rfl, ⟨hz, rfl⟩, q _ fun P => by simp only [Rep]⟩
    · cases e
  · obtain ⟨a, vs, rfl, h1, h2⟩ := hx
    subst e
    exact ⟨_, vs.length, rfl, .inr ⟨vs, .of h1, rfl⟩, q _ fun P => by simp only [Rep]; rw [h2.len]⟩
  · obtain ⟨a, vs, rfl, _, h1, h2⟩ := hx
    subst e
    exact ⟨_, vs.length, rfl, .inl ⟨vs, .of h1, rfl⟩, q _ fun P => by simp only [Rep]; rw [h2.len]⟩
  · rename_i ns
    obtain ⟨a, rfl, h1⟩ := hx
    subst e
    exact ⟨_, ns.length, rfl, .inl ⟨_, hK ▸ h1.sq, by rw [List.length_map]⟩, q _ fun P => by simp only [Rep]⟩
def eLen : Ev → Ev := eOp1 (rd1 lenD)
theorem v_len (hK : G.K = X.K) (hm : X.mg "len" = none) (ha : PEv X G W ios a ga) (hg : Gl X "len" := by rfl) (hs : starEach [a] X.env = (false, eval a X.env) :: starEach [] X.env := by rfl) : PEv X G W ios (.Call (.Name "len" p) [a] [] pos) (eLen ga) :=
  v_b1 call_len (Rd1.op (rdLen hK)) hm ha hg (hs := hs)
def absD : D → Option D
  | .int i => some (.int (if i < 0 then -i else i))
  | _ => none
def eAbs : Ev → Ev := eOp1 (rd1 absD)
theorem v_abs (hm : X.mg "abs" = none) (ha : PEv X G W ios a ga) (hg : Gl X "abs" := by rfl) (hs : starEach [a] X.env = (false, eval a X.env) :: starEach [] X.env := by rfl) : PEv X G W ios (.Call (.Name "abs" p) [a] [] pos) (eAbs ga) :=
  v_b1 call_abs (Rd1.op (by
    intro H x dx d Q hx e q
    cases dx <;> simp only [absD, Option.some.injEq, reduceCtorEq] at e
    subst e
    simp only [Rep] at hx
    subst hx
    exact ⟨_, rfl, q _ fun P => by simp only [Rep]⟩)) hm ha hg (hs := hs)
def eMax2 : Ev → Ev → Ev := eOp2 (rd2 (dI2 fun i j => some (if j > i then j else i)))
def eMin2 : Ev → Ev → Ev := eOp2 (rd2 (dI2 fun i j => some (if j < i then j else i)))
theorem v_max2 (hc : X.calm = true) (hm : X.mg "max" = none) (ha : PEv X G W ios a ga) (hb : PEv X G W ios b gb) (hg : Gl X "max" := by rfl) (hs : starEach [a, b] X.env = (false, eval a X.env) :: starEach [b] X.env := by rfl) (hs2 : starEach [b] X.env = (false, eval b X.env) :: starEach [] X.env := by rfl)
    (hpl : (backTo pos (starEach [b] X.env)).any (·.1) = false := by rfl) : PEv X G W ios (.Call (.Name "max" p) [a, b] [] pos) (eMax2 ga gb) :=
  v_b2 (call_max2 hc) (Rd2.op (by
    intro H x y dx dy d Q hx hy e q
    cases dx <;> cases dy <;> simp only [dI2, Option.map_some, Option.some.injEq, reduceCtorEq] at e
    subst e
    simp only [Rep] at hx hy
    subst hx; subst hy
    exact ⟨_, _, rfl, q _ fun P => by simp only [Rep]⟩)) hm ha hb hg (hs := hs) (hs2 := hs2) (hpl := hpl)
theorem v_min2 (hc : X.calm = true) (hm : X.mg "min" = none) (ha : PEv X G W ios a ga) (hb : PEv X G W ios b gb) (hg : Gl X "min" := by rfl) (hs : starEach [a, b] X.env = (false, eval a X.env) :: starEach [b] X.env := by rfl) (hs2 : starEach [b] X.env = (false, eval b X.env) :: starEach [] X.env := by rfl)
    (hpl : (backTo pos (starEach [b] X.env)).any (·.1) = false := by rfl) : PEv X G W ios (.Call (.Name "min" p) [a, b] [] pos) (eMin2 ga gb) :=
  v_b2 (call_min2 hc) (Rd2.op (by
    intro H x y dx dy d Q hx hy e q
    cases dx <;> cases dy <;> simp only [dI2, Option.map_some, Option.some.injEq, reduceCtorEq] at e
    subst e
    simp only [Rep] at hx hy
    subst hx; subst hy
    exact ⟨_, _, rfl, q _ fun P => by simp only [Rep]⟩)) hm ha hb hg (hs := hs) (hs2 := hs2) (hpl := hpl)
/-- all of them ints -/
def intsD : List D → Option (List Int)
  | [] => some []
  | .int i :: ds => (intsD ds).map (i :: ·)
  | _ => none
theorem intsD_map : ∀ ns : List Int, intsD (ns.map .int) = some ns
  | [] => rfl
  | n :: ns => by simp [intsD, intsD_map ns]
theorem intsD_eq : ∀ {ds : List D} {ns : List Int}, intsD ds = some ns → ds = ns.map .int
  | [], ns, e => by simp only [intsD, Option.some.injEq] at e; subst e; rfl
  | d :: ds, ns, e => by
    cases d <;> simp only [intsD, reduceCtorEq, Option.map_eq_some_iff] at e
    obtain ⟨ms, e, rfl⟩ := e
    rw [intsD_eq e]
    rfl
theorem reps_ints {H : Hp} {P : Addr → Prop} : ∀ {ns : List Int} {vs : List V}, Reps G H P (ns.map .int) vs → vs = ns.map V.int
  | [], vs, h => by simpa [Reps] using h
  | n :: ns, vs, h => by
    simp only [List.map_cons, Reps, Rep] at h
    obtain ⟨v, r, rfl, rfl, h⟩ := h
    rw [reps_ints h]
    rfl
theorem reps_of_ints {H : Hp} {P : Addr → Prop} : ∀ ns : List Int, Reps G H P (ns.map .int) (ns.map V.int)
  | [] => by simp [Reps]
  | n :: ns => by
    simp only [List.map_cons, Reps, Rep]
    exact ⟨_, _, rfl, rfl, reps_of_ints ns⟩
/-- a function on a list of ints -/
def dL1 (f : List Int → Option Int) : D → Option D
  | .lst xs => (intsD xs).bind fun ns => (f ns).map .int
  | _ => none
def eSum : Ev → Ev := eOp1 (rd1 (dL1 fun ns => some ns.sum))
theorem rdL1 {K : PySem.W.Frag} {f : List Int → Option Int} {r : List V → Hp → VK → Prop} (h : ∀ H Q a ns n, SqL K H a (ns.map V.int) → f ns = some n → Q (.int n) H → r [.ref a] H Q) : Rd1 G (dL1 f) (fun x H Q => r [x] H Q) := by
  intro H x dx d Q hx e q
  cases dx <;> simp only [dL1, reduceCtorEq, Option.bind_eq_some_iff, Option.map_eq_some_iff] at e
  obtain ⟨ns, e1, n, e2, rfl⟩ := e
  rw [intsD_eq e1] at hx
  simp only [Rep] at hx
  obtain ⟨a, vs, rfl, _, h1, h2⟩ := hx
  rw [reps_ints h2] at h1
  exact h H Q a ns n (.of h1) e2 (q _ fun P => by simp only [Rep])
def eMax1 : Ev → Ev := eOp1 (rd1 (dL1 fun ns => ns.max?))
def eMin1 : Ev → Ev := eOp1 (rd1 (dL1 fun ns => ns.min?))
theorem v_min1 (hc : X.calm = true) (hm : X.mg "min" = none) (ha : PEv X G W ios a ga) (hg : Gl X "min" := by rfl) (hs : starEach [a] X.env = (false, eval a X.env) :: starEach [] X.env := by rfl) : PEv X G W ios (.Call (.Name "min" p) [a] [] pos) (eMin1 ga) :=
  v_b1 (cr_min hc) (Rd1.op (rdL1 fun H Q a ns n h e q => by
    have hm := List.min?_eq_some_iff.mp e
    refine ⟨a, ns, rfl, h, List.length_pos_of_mem hm.1, fun m h1 h2 => ?_⟩
    have := hm.2 m h1
    have := h2 n hm.1
    have e : m = n := by omega
    subst e
    exact q)) hm ha hg (hs := hs)
/-- list(xs), tuple(xs) -/
def opList (t : Tm) : Option Tm := match t with
  | .v k (.lst xs) => (elk k xs).map fun xs => .v .O (.lst xs)
  | .v k (.tup xs) => (elk k xs).map fun xs => .v .O (.lst xs)
  | _ => none
def opTuple (t : Tm) : Option Tm := match t with
  | .v k (.lst xs) => (elk k xs).map fun xs => .v .F (.tup xs)
  | .v k (.tup xs) => (elk k xs).map fun xs => .v .F (.tup xs)
  | _ => none
def eList : Ev → Ev := eOp1 opList
def eTuple : Ev → Ev := eOp1 opTuple
theorem v_tuple (hm : X.mg "tuple" = none) (ha : PEv X G W ios a ga) (hg : Gl X "tuple" := by rfl) (hs : starEach [a] X.env = (false, eval a X.env) :: starEach [] X.env := by rfl) : PEv X G W ios (.Call (.Name "tuple" p) [a] [] pos) (eTuple ga) :=
  v_ty1 call_tuple_of (by
    intro pr io σ s x tx t ox Q hr hx e q
    cases tx <;> simp only [opTuple, reduceCtorEq] at e
    rename_i k d
    cases d <;> simp only [reduceCtorEq, Option.map_eq_some_iff] at e <;> obtain ⟨ys, e, rfl⟩ := e
    · obtain ⟨a, vs, rfl, h1, h2⟩ := tup_items hx e
      exact ⟨a, vs, rfl, .inr ⟨.of h1, q.done hr (by simp only [Rep]; exact ⟨a, vs, rfl, h1, h2⟩)⟩⟩
    · obtain ⟨a, vs, rfl, h1, h2⟩ := lst_items hx e
      exact ⟨a, vs, rfl, .inl ⟨.of h1, fun p hp => q.tup hr h2 hp⟩⟩) hm ha hg (hs := hs)
end
end PV

namespace PV
open PySem PySem.Spec L2

/-! ### statements -/
inductive Fl where
  | nx (ρ : Ss) | rt (t : Tm) (ρ : Ss) | bk (ρ : Ss) | ct (ρ : Ss)
  | ex (e : Er) (ρ : Ss)
  | no
abbrev Sm := Ss → Fl
def FlP (G : Gx) (W : WX) (pr : Addr → Prop) (io : List (Nat × V)) (s : Sx) (o : Fl) (D : Ends) : Prop := match o with
  | .nx ρ' => ∀ σ' s', s'.ρ = ρ' → SR G pr io σ' s' → Ext s s' → D.nx σ' s'.H
  | .bk ρ' => ∀ σ' s', s'.ρ = ρ' → SR G pr io σ' s' → Ext s s' → D.bk σ' s'.H
  | .ct ρ' => ∀ σ' s', s'.ρ = ρ' → SR G pr io σ' s' → Ext s s' → D.ct σ' s'.H
  | .rt t ρ' => ∀ v σ' s' ot, s'.ρ = ρ' → SR G pr io σ' s' → Ext s s' → Tp G pr σ' s' t v ot → Frs s ot → D.rt v s'.H
  | .ex e ρ' => ∀ cls d σ' s', s'.ρ = ρ' → SR G pr io σ' s' → Ext s s' → ErR G s'.H s'.fz e cls d → W cls d σ' s'.H
  | .no => False
def tSv (G : Gx) (W : WX) (ios : List Nat) (g : Sm) : TS := fun D σ H => ∃ pr io s, s.H = H ∧ io.map Prod.fst = ios ∧ SR G pr io σ s ∧ FlP G W pr io s (g s.ρ) D
abbrev PSv (X : Cx) (G : Gx) (W : WX) (ios : List Nat) (st : Stmt) (g : Sm) : Prop := PS X st (tSv G W ios g)
abbrev PBv (X : Cx) (G : Gx) (W : WX) (ios : List Nat) (st : List Stmt) (g : Sm) : Prop := PSs X st (tSv G W ios g)
theorem ps_imp {X : Cx} {x : Stmt} {t t' : TS} (h : PS X x t) (i : ∀ D σ H, t' D σ H → t D σ H) : PS X x t' := ⟨fun pins s σ H D I q => h.run pins s σ H D I (i D σ H q)⟩
theorem pss_imp {X : Cx} {x : List Stmt} {t t' : TS} (h : PSs X x t) (i : ∀ D σ H, t' D σ H → t D σ H) : PSs X x t' := ⟨fun pins s σ H D I q => h.run pins s σ H D I (i D σ H q)⟩
def Ou.toF (o : Ou) (k : Tm → Ss → Fl) : Fl := match o with
  | .ok t ρ => k t ρ
  | .ex e ρ => .ex e ρ
  | .no => .no
section
variable {G : Gx} {W : WX} {pr : Addr → Prop} {io : List (Nat × V)} {σ : L2.St} {s s1 : Sx} {ios : List Nat} {D : Ends} {X : Cx} {a b c : Expr} {pos p : Pos} {ga gb gc : Ev} {st : Stmt} {rest : List Stmt} {g1 g2 : Sm}
theorem of_tSv {H : Hp} {g : Sm} (h : tSv G W ios g D σ H) : ∃ pr io s, s.H = H ∧ io.map Prod.fst = ios ∧ SR G pr io σ s ∧ FlP G W pr io s (g s.ρ) D := h
theorem tSv_of {g : Sm} (hi : io.map Prod.fst = ios) (r : SR G pr io σ s) (h : FlP G W pr io s (g s.ρ) D) : tSv G W ios g D σ s.H := ⟨pr, io, s, rfl, hi, r, h⟩
theorem FlP.later {o : Fl} (h : FlP G W pr io s o D) (e : Ext s s1) : FlP G W pr io s1 o D := by
  cases o with
  | nx ρ' => exact fun σ' s' h1 h2 h3 => h σ' s' h1 h2 (e.trans h3)
  | bk ρ' => exact fun σ' s' h1 h2 h3 => h σ' s' h1 h2 (e.trans h3)
  | ct ρ' => exact fun σ' s' h1 h2 h3 => h σ' s' h1 h2 (e.trans h3)
  | rt t ρ' => exact fun v σ' s' ot h1 h2 h3 h4 h5 => h v σ' s' ot h1 h2 (e.trans h3) h4 (h5.on e)
  | ex e' ρ' => exact fun cls d σ' s' h1 h2 h3 h4 => h cls d σ' s' h1 h2 (e.trans h3) h4
  | no => exact h
/-- an expression first -/
theorem FlP.toF {o : Ou} {k : Tm → Ss → Fl} (h : FlP G W pr io s (o.toF k) D) {R : VK}
    (hk : ∀ t v s1 ot, SR G pr io σ s1 → Ext s s1 → Tp G pr σ s1 t v ot → Frs s ot → FlP G W pr io s (k t s1.ρ) D → R v s1.H) : OuP G W pr io σ s o R := by
  cases o with
  | ok t ρ' =>
    intro v s1 ot e1 r1 x1 p1 f1
    subst e1
    exact hk t v s1 ot r1 x1 p1 f1 h
  | ex e ρ' => exact fun cls d s' h1 h2 h3 h4 => h cls d σ s' h1 h2 h3 h4
  | no => exact h
def sNil : Sm := fun ρ => .nx ρ
def sSeq (g1 g2 : Sm) : Sm := fun ρ => match g1 ρ with
  | .nx ρ1 => g2 ρ1
  | o => o
theorem b_nil : PBv X G W ios [] sNil := pss_imp pss_nil fun D σ H q => by
  obtain ⟨pr, io, s, rfl, hi, r, q⟩ := of_tSv q
  exact q σ s rfl r (Ext.refl s)
theorem FlP.seq {o : Fl} {g2 : Sm} (hi : io.map Prod.fst = ios) (h : FlP G W pr io s (match o with | .nx ρ1 => g2 ρ1 | o => o) D) : FlP G W pr io s o { D with nx := tSv G W ios g2 D } := by
  cases o with
  | nx ρ' => exact fun σ' s' h1 h2 h3 => by subst h1; exact tSv_of hi h2 (FlP.later h h3)
  | bk ρ' => exact h
  | ct ρ' => exact h
  | rt t ρ' => exact h
  | ex e ρ' => exact h
  | no => exact h
theorem b_cons (h1 : PSv X G W ios st g1) (h2 : PBv X G W ios rest g2) : PBv X G W ios (st :: rest) (sSeq g1 g2) := pss_imp (pss_cons h1 h2) fun D σ H q => by
  obtain ⟨pr, io, s, rfl, hi, r, q⟩ := of_tSv q
  exact tSv_of hi r (FlP.seq hi q)
theorem b_one (h1 : PSv X G W ios st g1) : PBv X G W ios [st] g1 := pss_one h1
def sBreak : Sm := fun ρ => .bk ρ
def sCont : Sm := fun ρ => .ct ρ
/-- never reached -/
def sNever : Sm := fun _ => .no
def sExpr (g : Ev) : Sm := fun ρ => (g ρ).toF fun _ ρ1 => .nx ρ1
theorem s_expr (ha : PEv X G W ios a ga) (hs : swapsWith a none pos.line X.env = pure false := by rfl) : PSv X G W ios (.Expr a pos) (sExpr ga) := ps_imp (ps_expr ha hs) fun D σ H q => by
  obtain ⟨pr, io, s, rfl, hi, r, q⟩ := of_tSv q
  exact tEv_of hi r (FlP.toF q fun t v s1 ot r1 x1 p1 f1 q1 => q1 σ s1 rfl r1 x1)
def sRet (g : Ev) : Sm := fun ρ => (g ρ).toF fun t ρ1 => .rt t ρ1
theorem s_ret (ha : PEv X G W ios a ga) : PSv X G W ios (.Return (some a) pos) (sRet ga) := ps_imp (ps_ret ha) fun D σ H q => by
  obtain ⟨pr, io, s, rfl, hi, r, q⟩ := of_tSv q
  exact tEv_of hi r (FlP.toF q fun t v s1 ot r1 x1 p1 f1 q1 => q1 v σ s1 ot rfl r1 x1 p1 f1)
def sRetN : Sm := fun ρ => .rt (.v .F .non) ρ
def sIf (gc : Ev) (g1 g2 : Sm) : Sm := fun ρ => (gc ρ).toF fun t ρ1 => match asB t with
  | some true => g1 ρ1
  | some false => g2 ρ1
  | none => .no
theorem s_if {ba bb : List Stmt} (hc : PTv X G W ios c gc) (ha : PBv X G W ios ba g1) (hb : PBv X G W ios bb g2) : PSv X G W ios (.If c ba bb pos) (sIf gc g1 g2) := ps_imp (ps_if hc ha hb) fun D σ H q => by
  obtain ⟨pr, io, s, rfl, hi, r, q⟩ := of_tSv q
  show tEv G W ios gc σ s.H (fun x H' => ∃ k, x = .bl k ∧ (if k = true then tSv G W ios g1 D σ H' else tSv G W ios g2 D σ H'))
  refine tEv_of hi r (FlP.toF q fun t v s1 ot r1 x1 p1 f1 q1 => ?_)
  cases e : asB t with
  | none => rw [e] at q1; exact q1.elim
  | some k =>
    rw [e] at q1
    refine ⟨k, asB_of p1 e, ?_⟩
    cases k with
    | true => exact iteT (tSv_of hi r1 (FlP.later q1 x1))
    | false => exact iteF (tSv_of hi r1 (FlP.later q1 x1))

/-! ### name = value -/
def isLoc : Tm → Bool
  | .loc _ => true
  | _ => false
theorem notLoc {t : Tm} (h : isLoc t = false) : ∀ i, t ≠ .loc i := fun i z => by subst z; simp [isLoc] at h
def sSet (i : Nat) (g : Ev) : Sm := fun ρ => (g ρ).toF fun t ρ1 => if isLoc t = false ∧ i < ρ1.length then .nx (ρ1.set i (some t)) else .no
/-- a value in flight is stored at a name -/
theorem SR.store (r : SR G pr io σ s1) (x : Ext s s1) {t : Tm} {v : V} {ot : List Addr} (p : Tp G pr σ s1 t v ot) (f : Frs s ot) (hl : isLoc t = false) {i : Nat} (hi : i < s1.ρ.length) (hio : i ∉ io.map Prod.fst) :
    ∃ os', SR G pr io (σ.set i (some v)) { s1 with ρ := s1.ρ.set i (some t), os := os' } ∧ Ext s { s1 with ρ := s1.ρ.set i (some t), os := os' } := by
  obtain ⟨o1, o2, o3, e, h⟩ := Sl.put (tm_of p.rel (notLoc hl)) r.sl hi
  have nd := r.nd
  rw [e, List.nodup_append, List.nodup_append] at nd
  have sep : ∀ a, (a ∈ o1 ∨ a ∈ o3) → a ∈ s1.os := fun a h => by rw [e]; rcases h with h | h <;> simp [h]
  refine ⟨o1 ++ (ot ++ o3), ⟨h, ?_, fun a ha => ?_, r.dom, fun q hq => ?_⟩, ⟨x.keep, x.dom, x.tk, x.fz, x.fzo, fun a ha => ?_⟩⟩
  · show (o1 ++ (ot ++ o3)).Nodup
    rw [List.nodup_append, List.nodup_append]
    refine ⟨nd.1, ⟨p.nd, nd.2.1.2.1, fun a ha b hb z => ?_⟩, fun a ha b hb z => ?_⟩
    · subst z; exact (p.sep a ha).2.2 (sep a (.inr hb))
    · subst z
      rcases List.mem_append.mp hb with hb | hb
      · exact (p.sep a hb).2.2 (sep a (.inl ha))
      · exact nd.2.2 a ha a (List.mem_append_right _ hb) rfl
  · have ha' : a ∈ o1 ∨ a ∈ ot ∨ a ∈ o3 := by simpa using ha
    rcases ha' with h | h | h
    · exact r.sep a (sep a (.inl h))
    · exact ⟨(p.sep a h).1, (p.sep a h).2.1⟩
    · exact r.sep a (sep a (.inr h))
  · have hne : q.1 ≠ i := fun z => hio (by rw [← z]; exact List.mem_map_of_mem hq)
    show (σ.set i (some v))[q.1]? = _
    rw [List.getElem?_set_ne (Ne.symm hne)]
    exact r.iov q hq
  · have ha' : a ∈ o1 ∨ a ∈ ot ∨ a ∈ o3 := by simpa using ha
    rcases ha' with h | h | h
    · exact x.oso a (sep a (.inl h))
    · exact f a h
    · exact x.oso a (sep a (.inr h))
theorem s_set {i : Nat} {x : Str} {pos' : Pos} (hN : X.N.Nodup) (hio : i ∉ ios) (ha : PEv X G W ios a ga) (hi : X.N[i]? = some x := by rfl) (hx : Loc X.env.scope x := by first | exact Or.inl rfl | exact Or.inr rfl)
    (hs : swapsWith a (some (.Name x pos')) pos.line X.env = pure false := by rfl) (hf : X.fn x = true ∨ X.env.scope.names.lookup x = some .local := by first | exact .inl rfl | exact .inr rfl | assumption) :
    PSv X G W ios (.Assign [.Name x pos'] a pos) (sSet i ga) := ps_imp (ps_set hN hi hx ha hs hf) fun D σ H q => by
  obtain ⟨pr, io, s, rfl, hi, r, q⟩ := of_tSv q
  refine tEv_of hi r (FlP.toF q fun t v s1 ot r1 x1 p1 f1 q1 => ?_)
  split at q1
  · rename_i hc
    obtain ⟨os', r2, x2⟩ := r1.store x1 p1 f1 hc.1 hc.2 (by rw [hi]; exact hio)
    exact q1 _ { s1 with ρ := s1.ρ.set i (some t), os := os' } rfl r2 x2
  · exact q1.elim
end
end PV

namespace PV
open PySem PySem.Spec L2 PyProof.Rows

/-! ### defs whose caller shows nothing under way -/
/-- room, and no text of a container is under way -/
structure RoomG (k : Nat) (A : Around) : Prop where
  r : Room k A
  g : A.guards = some []
theorem RoomG.mono {j k : Nat} {A : Around} (h : RoomG k A) (l : j ≤ k) : RoomG j A := ⟨h.r.mono l, h.g⟩
theorem RoomG.deeper {k : Nat} {A : Around} (h : RoomG (k + 1) A) (env : Env) : RoomG k (A.deeper env) := ⟨h.r.deeper env, h.g⟩
/-- a def's promise (sp), kept wherever there is such room -/
structure FnG (P : Program) (w : World) (K : PySem.W.Frag) (mg : Str → Option Value) (base : Heap) (k : Nat) (f : Addr) (fd : FuncData) (ps : List Str) (sp : Sp) : Prop where
  len : ∀ vs H Q E, sp vs H Q E → vs.length = ps.length
  go : ∀ (A : Around) (outer : List Env) (s : Shared) (H : Hp) (args : Args) (us : List Value) (vs : List V) (Q : VK) (E : XK), RoomG k A → Env0 P w K mg base A outer s H → BindsTo s fd args (ps.zip us) → Vals vs us → sp vs H Q E →
    codeAny (model P w) A (.call (.ref f) args) (CR (L2N.CX P w) outer P w H s Q E) s
section
variable {P : Program} {w : World} {K : PySem.W.Frag} {mg : Str → Option Value} {base : Heap}
theorem FnG.mono {j k : Nat} {f : Addr} {fd : FuncData} {ps : List Str} {sp : Sp} (F : FnG P w K mg base j f fd ps sp) (h : j ≤ k) : FnG P w K mg base k f fd ps sp := ⟨F.len, fun A outer s H args us vs Q E hr => F.go A outer s H args us vs Q E (hr.mono h)⟩
theorem fnG_of {k : Nat} {f : Addr} {name qual : Str} {params : Arguments} {body : List Stmt} {scope : Scope} {dV kV doc pm cdv ct oc : Value} {an od : Option Addr} {osl : Array (Option Value)} {N ps : List Str} {sp : Sp}
    (lk : K.lookup f = some ⟨oc, od, .func (PySem.W.fnOf name qual params body scope dV kV doc pm an cdv ct), osl⟩) (hcd : PySem.W.codeIn K cdv qual = true) (S : FnScope N ps scope) (len : ∀ vs H Q E, sp vs H Q E → vs.length = ps.length)
    (hbody : ∀ (A : Around) (outer : List Env) (s : Shared) (H : Hp) (vs : List V) (Q : VK) (E : XK), RoomG k (A.deeper (envOfC qual scope s.heap.objs.size f cdv)) → sp vs H Q E →
      ∃ t, PSs (cxOf (L2N.CX P w) P w K mg base N qual scope f cdv A outer s H E) body t ∧ t { nx := fun _ H' => Q .non H', rt := Q } (start N vs) H) :
    FnG P w K mg base (k + 1) f (PySem.W.fnOf name qual params body scope dV kV doc pm an cdv ct) ps sp := by
  constructor
  · exact len
  intro A outer s H args us vs Q E hr e0 hb r hsp
  have kept := e0.mod.kin.keeps fun b o e => (e0.bs b o e).1
  have kind_of : ∀ y ∈ ps.zip us, scope.names.lookup y.1 = some .local ∨ (scope.names.lookup y.1 = some .cell ∧ ((cellsFrom (s.heap.objs.size + 1) scope.names []).lookup y.1).isSome = true) := fun y hy => by
    obtain ⟨n, v⟩ := y
    exact (S.par n (List.of_mem_zip hy).1).imp id fun q => ⟨q, PySem.W.cellsFrom_some _ _ _ (.inl q)⟩
  refine codeAny_call_function hr.r.depth (kept _ _ lk) rfl S.co S.gen rfl (PySem.W.codeRec_of kept hcd) (hb _ _ _ _ (wpAny_newFunctionEnv_cells S.kind kind_of fun env he s1 x => ?_))
  cases he
  refine ⟨(e0.mod.nolimit.keeps fun b o e => (e0.bs b o e).1).keeps x.toInCall.keep, codeAny_func ?_⟩
  obtain ⟨t, ht, hq⟩ := hbody A outer s H vs Q E (hr.deeper _) hsp
  have I := inv_start (CX := L2N.CX P w) (E := E) S hr.r.hd e0 (len _ _ _ _ hsp) r x
  refine wpAny_mono (ht.run [] s1 (start N vs) H _ I hq) (fun fl s' hs => ?_) fun _ _ h => h
  match fl, hs with
  | .ret u, ⟨v, σ', H', J, rv, q⟩ => exact ⟨v, H', J.os, J.bare, J.base, J.hok, rv, q⟩
  | .next, ⟨σ', H', J, q⟩ => exact ⟨.non, H', J.os, J.bare, J.base, J.hok, rfl, q⟩
  | .brk, ⟨_, _, _, q⟩ => exact q.elim
  | .cont, ⟨_, _, _, q⟩ => exact q.elim
end
section
variable {X : Cx} {k : Nat} {f : Addr} {fd : FuncData} {ps : List Str} {sp : Sp} {E : L2.St → XK} {x : Str} {p pos : Pos} {e : Expr} {es : List Expr} {t : TA}
theorem run_G {pins : List (Addr × Obj)} {σ : L2.St} {H : Hp} {s : Shared} {Q : VK} {us : List Value} {vs : List V} (F : FnG X.prog X.w X.K X.mg X.base k f fd ps sp) (hr : RoomG k X.A) (hb : Binds X.K fd ps []) (hx : PassesAt (L2N.CX X.prog X.w) X σ (E σ))
    (I : Inv X pins σ H s) (r : Vals vs us) (h : sp vs H Q (E σ)) : wpAny (model X.prog X.w) X.A (call (.ref f) us) (EP X pins σ Q) X.xe s := by
  have b := hb s us I.kIn (by rw [List.append_nil, ← r.length]; exact F.len _ _ _ _ h)
  rw [List.append_nil] at b
  refine wpAny_call (codeAny_mono (F.go X.A X.stack s H ⟨us, []⟩ us vs Q (E σ) hr I.env0 b r h) fun w s' hw => ?_)
  match w, hw with
  | .error e, hw => exact hx pins H s e s' I hw
  | .ok (.ret u), hw => exact I.after hw
  | .ok .next, hw => exact hw.elim
  | .ok .brk, hw => exact hw.elim
  | .ok .cont, hw => exact hw.elim
def tCallG (sp : Sp) (E : L2.St → XK) (t : TA) : TE := fun σ H Q => t σ H fun vs H1 => sp vs H1 Q (E σ)
theorem pe_callG (F : FnG X.prog X.w X.K X.mg X.base k f fd ps sp) (hr : RoomG k X.A) (hg : Gl X x) (hm : X.mg x = some (.ref f)) (hk : PySem.W.keepIn X.K (.ref f) = true) (hb : Binds X.K fd ps []) (hx : ∀ σ, PassesAt (L2N.CX X.prog X.w) X σ (E σ))
    (ha : PA X (e :: es) t) (hdb : (x == ("__debug__" : Str)) = false) (he : starEach (e :: es) X.env = (false, eval e X.env) :: starEach es X.env) (hpl : (backTo pos (starEach es X.env)).any (·.1) = false) :
    PE X (.Call (.Name x p) (e :: es) [] pos) (tCallG sp E t) :=
  ⟨fun pins s σ H Q I h => wpAny_Call_Name_kw (ld_glob I hg hm (PySem.W.callWith_K (h₀ := X.base) I.ok.mod.kin hk (thn (ha.run pos pins s σ H _ I h) fun us s1 h1 => by
    obtain ⟨vs, H1, I1, r, q⟩ := h1
    exact ⟨I1.kIn, run_G F hr hb (hx σ) I1 r q⟩) he hpl) hdb)⟩
/-- a property -/
def tPropG (C : Addr) (sp : Sp) (ta : TE) : TE := fun σ H Q => ta σ H fun x H1 => ∃ a dx fs, x = .ref a ∧ H1 a = some (.ins C dx fs) ∧ sp [.ref a] H1 Q fun _ _ _ => False
end
end PV

namespace PV
open PySem PySem.Spec L2

/-! ### defs and their calls -/
/-- how an argument is handed: lent, shared for good, to be changed and given back -/
inductive Md where
  | b | f | io
  deriving DecidableEq
inductive Fo where
  | ok (t : Tm) (us : List Tm)
  | ex (e : Er) (us : List Tm)
  | no
abbrev Fn := List Tm → Fo
mutual
/-- nothing lent in it -/
def unB : Tm → Option Tm
  | .v .B d => if flat d = true then some (.v .F d) else none
  | .v k d => some (.v k d)
  | .tp ts => (unBs ts).map .tp
  | .ls ts => (unBs ts).map .ls
  | .ob c ts => (unBs ts).map (.ob c)
  | .loc _ => none
def unBs : List Tm → Option (List Tm)
  | [] => some []
  | t :: ts => match unB t, unBs ts with
    | some d, some ds => some (d :: ds)
    | _, _ => none
end
def getIo (ρ : Ss) : List Nat → Option (List Tm)
  | [] => some []
  | i :: is => match ρ[i]? with
    | some (some t) => match unB t, getIo (ρ.set i none) is with
      | some u, some us => some (u :: us)
      | _, _ => none
    | _ => none
/-- a def by its body: n names, the parameters to be given back -/
def defn (n : Nat) (ios : List Nat) (body : Sm) : Fn := fun ts => match body (ts.map some ++ List.replicate (n - ts.length) none) with
  | .nx ρ => match getIo ρ ios with
    | some us => .ok (.v .F .non) us
    | none => .no
  | .rt t ρ => match unB t, getIo ρ ios with
    | some t, some us => .ok t us
    | _, _ => .no
  | .ex e ρ => match getIo ρ ios with
    | some us => .ex e us
    | none => .no
  | _ => .no
mutual
theorem TmR.unB {G : Gx} {H : Hp} {fz pr pr' : Addr → Prop} : ∀ (t : Tm) (v : V) (os : List Addr) (u : Tm), TmR G H fz pr t v os → PV.unB t = some u → TmR G H fz pr' u v os
  | .v .F d, v, os, u, h, e => by simp only [TmR] at h; simp only [PV.unB, Option.some.injEq] at e; subst e; simp only [TmR]; exact h
  | .v .B d, v, os, u, h, e => by
    simp only [TmR] at h; simp only [PV.unB] at e
    by_cases f : PV.flat d = true
    · rw [if_pos f] at e; cases e; simp only [TmR]; exact ⟨h.1, Rep.flat _ _ f h.2⟩
    · rw [if_neg f] at e; cases e
  | .v .O d, v, os, u, h, e => by simp only [TmR] at h; simp only [PV.unB, Option.some.injEq] at e; subst e; simp only [TmR]; exact h
  | .tp ts, v, os, u, h, e => by
    simp only [TmR] at h; simp only [PV.unB, Option.map_eq_some_iff] at e
    obtain ⟨ds, e1, rfl⟩ := e
    obtain ⟨a, vs, ev, h1, h2⟩ := h
    simp only [TmR]
    exact ⟨a, vs, ev, h1, TmRs.unB ts vs os ds h2 e1⟩
  | .ls ts, v, os, u, h, e => by
    simp only [TmR] at h; simp only [PV.unB, Option.map_eq_some_iff] at e
    obtain ⟨ds, e1, rfl⟩ := e
    obtain ⟨a, vs, o, ev, eo, h1, h2⟩ := h
    simp only [TmR]
    exact ⟨a, vs, o, ev, eo, h1, TmRs.unB ts vs o ds h2 e1⟩
  | .ob c ts, v, os, u, h, e => by
    simp only [TmR] at h; simp only [PV.unB, Option.map_eq_some_iff] at e
    obtain ⟨ds, e1, rfl⟩ := e
    obtain ⟨a, dx, vs, o, ev, eo, h1, hl, h2⟩ := h
    simp only [TmR]
    exact ⟨a, dx, vs, o, ev, eo, h1, hl, TmRs.unB ts vs o ds h2 e1⟩
  | .loc i, v, os, u, h, e => by simp only [TmR] at h
theorem TmRs.unB {G : Gx} {H : Hp} {fz pr pr' : Addr → Prop} : ∀ (ts : List Tm) (vs : List V) (os : List Addr) (us : List Tm), TmRs G H fz pr ts vs os → PV.unBs ts = some us → TmRs G H fz pr' us vs os
  | [], vs, os, us, h, e => by simp only [TmRs] at h; simp only [PV.unBs, Option.some.injEq] at e; subst e; simp only [TmRs]; exact h
  | t :: ts, vs, os, us, h, e => by
    simp only [TmRs] at h; simp only [PV.unBs] at e
    obtain ⟨v, r, o1, o2, rfl, rfl, h1, h2⟩ := h
    cases e1 : PV.unB t with
    | none => rw [e1] at e; cases e
    | some d =>
      cases e2 : PV.unBs ts with
      | none => rw [e1, e2] at e; cases e
      | some ds' =>
        rw [e1, e2] at e
        cases e
        simp only [TmRs]
        exact ⟨v, r, o1, o2, rfl, rfl, TmR.unB t v o1 d h1 e1, TmRs.unB ts r o2 ds' h2 e2⟩
end

/-- what is asked of a call's outcome: the parameters to be given back at vo -/
def FoP (G : Gx) (pr : Addr → Prop) (vo : List V) (s : Sx) (o : Fo) (Q : VK) (E : XK) : Prop := match o with
  | .ok t us => ∀ v s' oio ot, Ext s s' → (∀ a, (s'.fz a ∨ pr a) → s'.H a ≠ none) → TmRs G s'.H s'.fz (fun _ => False) us vo oio → TmR G s'.H s'.fz (fun _ => False) t v ot → (oio ++ ot).Nodup → (∀ a ∈ oio ++ ot, ¬ s'.fz a ∧ ¬ pr a ∧ (a ∈ s.os ∨ s.H a = none)) → Q v s'.H
  | .ex e us => ∀ cls d s' oio, Ext s s' → (∀ a, (s'.fz a ∨ pr a) → s'.H a ≠ none) → TmRs G s'.H s'.fz (fun _ => False) us vo oio → ErR G s'.H s'.fz e cls d → oio.Nodup → (∀ a ∈ oio, ¬ s'.fz a ∧ ¬ pr a ∧ (a ∈ s.os ∨ s.H a = none)) → E cls d s'.H
  | .no => False
/-- a def's promise by value -/
def spV (G : Gx) (n : Nat) (ios : List Nat) (f : Fn) : Sp := fun vs H Q E => vs.length = n ∧ ∃ pr io s ts, s.H = H ∧ io.map Prod.fst = ios ∧ s.ρ = ts.map some ∧ SR G pr io (vs.map some) s ∧ FoP G pr (io.map Prod.snd) s (f ts) Q E

section
variable {G : Gx} {W : WX} {pr : Addr → Prop} {io : List (Nat × V)} {σ : L2.St} {s s1 : Sx} {ios : List Nat} {Q : VK} {X : Cx}
theorem Sl.pad {H : Hp} {fz : Addr → Prop} : ∀ {ts : List Tm} {vs : List V} {os : List Addr} (n : Nat), Sl G H fz pr (ts.map some) (vs.map some) os → Sl G H fz pr (ts.map some ++ List.replicate n none) (vs.map some ++ List.replicate n none) os
  | [], vs, os, n, h => by
    simp only [List.map_nil, Sl] at h
    obtain ⟨h1, rfl⟩ := h
    have : vs = [] := by simpa using h1
    subst this
    simp only [List.map_nil, List.nil_append]
    induction n with
    | zero => simp [Sl]
    | succ n ih => rw [List.replicate_succ, List.replicate_succ]; simp only [Sl]; exact ⟨_, _, rfl, ih⟩
  | t :: ts, vs, os, n, h => by
    simp only [List.map_cons, Sl] at h
    obtain ⟨v, r, o1, o2, e, rfl, h1, h2⟩ := h
    cases vs with
    | nil => simp at e
    | cons w ws =>
      simp only [List.map_cons, List.cons.injEq, Option.some.injEq] at e
      obtain ⟨rfl, rfl⟩ := e
      simp only [List.map_cons, List.cons_append, Sl]
      exact ⟨_, _, o1, o2, rfl, rfl, h1, Sl.pad n h2⟩
/-- what is given back, taken out of the slots -/
theorem Sl.getIo {H : Hp} {fz : Addr → Prop} : ∀ {io : List (Nat × V)} {ρ : Ss} {os : List Addr} {us : List Tm}, Sl G H fz pr ρ σ os → os.Nodup → (∀ p ∈ io, σ[p.1]? = some (some p.2)) → PV.getIo ρ (io.map Prod.fst) = some us →
    ∃ oio, TmRs G H fz (fun _ => False) us (io.map Prod.snd) oio ∧ oio.Nodup ∧ ∀ a ∈ oio, a ∈ os
  | [], ρ, os, us, h, nd, hv, e => by
    simp only [List.map_nil, PV.getIo, Option.some.injEq] at e
    subst e
    exact ⟨[], by simp [TmRs], .nil, fun a ha => by cases ha⟩
  | (i, w) :: io, ρ, os, us, h, nd, hv, e => by
    simp only [List.map_cons, PV.getIo] at e
    split at e
    · rename_i t et
      split at e
      · rename_i u us' e1 e2
        cases e
        obtain ⟨v, o1, o2, o3, e3, e4, h1, h2⟩ := Sl.drop h et
        have hw := hv (i, w) List.mem_cons_self
        rw [e3] at hw
        cases hw
        rw [e4, List.nodup_append, List.nodup_append] at nd
        have nd2 : (o1 ++ o3).Nodup := by
          rw [List.nodup_append]
          exact ⟨nd.1, nd.2.1.2.1, fun a ha b hb => nd.2.2 a ha b (List.mem_append_right _ hb)⟩
        obtain ⟨oio, k1, k2, k3⟩ := Sl.getIo h2 nd2 (fun p hp => hv p (List.mem_cons_of_mem _ hp)) e2
        refine ⟨o2 ++ oio, ?_, ?_, fun a ha => ?_⟩
        · simp only [List.map_cons, TmRs]
          exact ⟨w, _, o2, oio, rfl, rfl, TmR.unB _ _ _ _ h1 e1, k1⟩
        · rw [List.nodup_append]
          refine ⟨nd.2.1.1, k2, fun a ha b hb z => ?_⟩
          subst z
          rcases List.mem_append.mp (k3 a hb) with hb | hb
          · exact nd.2.2 a hb a (List.mem_append_left _ ha) rfl
          · exact nd.2.1.2.2 a ha a hb rfl
        · rw [e4]
          rcases List.mem_append.mp ha with ha | ha
          · simp [ha]
          · rcases List.mem_append.mp (k3 a ha) with hb | hb <;> simp [hb]
      · cases e
    · cases e
/-- a def as it stands behind the top -/
def FunX (K : PySem.W.Frag) (x qual : Str) (st : Stmt) (f : Addr) (fd : FuncData) : Prop := ∃ (oc : Value) (od : Option Addr) (dV kV doc pm : Value) (an : Option Addr) (cdv ct : Value) (osl : Array (Option Value)),
  fd = PySem.W.fnOf x qual (defArgs st) (defBody st) (defScope st) dV kV doc pm an cdv ct ∧ K.lookup f = some ⟨oc, od, .func fd, osl⟩ ∧ PySem.W.codeIn K cdv qual = true
theorem FunX.of {K : PySem.W.Frag} {x qual : Str} {st : Stmt} {f : Addr} {fd : FuncData} (F : Fun K x qual st f fd) : FunX K x qual st f fd := by
  obtain ⟨oc, od, kV, doc, pm, an, cdv, ct, osl, h⟩ := F.ex
  exact ⟨oc, od, .none, kV, doc, pm, an, cdv, ct, osl, h⟩
/-- where a def's body runs -/
structure Rm (X : Cx) (W : WX) (k : Nat) : Prop where
  rm : RoomG k X.A
  tk : L2N.Takes X W
  po : PassesOwn (model X.prog X.w) X.A X.env X.xe
  stk : X.stack = X.env :: X.outer
  frm : X.env.frame = some X.env.locals
/-- THE RULE: a def by its body -/
theorem fn_v {P : Program} {w : World} {K : PySem.W.Frag} {mg : Str → Option Value} {base : Heap} {x qual : Str} {st : Stmt} {f : Addr} {fd : FuncData} {N ps : List Str} {k : Nat} {body : Sm} (F : FunX K x qual st f fd) (S : FnScope N ps (defScope st))
    (hps : ps.length ≤ N.length) (ios : List Nat)
    (hb : ∀ (cdv : Value) (A : Around) (outer : List Env) (s0 : Shared) (H : Hp) (E : XK), Rm (cxOf (L2N.CX P w) P w K mg base N qual (defScope st) f cdv A outer s0 H E) (fun cls d _ H => E cls d H) k →
      PBv (cxOf (L2N.CX P w) P w K mg base N qual (defScope st) f cdv A outer s0 H E) G (fun cls d _ H => E cls d H) ios (defBody st) body) :
    FnG P w K mg base (k + 1) f fd ps (spV G ps.length ios (defn N.length ios body)) := by
  obtain ⟨oc, od, dV, kV, doc, pm, an, cdv, ct, osl, rfl, lk, hcd⟩ := F
  refine fnG_of lk hcd S (fun vs H Q E h => h.1) (fun A outer s0 H vs Q E hr h => ?_)
  obtain ⟨hl, pr, io, s, ts, rfl, hi, eρ, r, q⟩ := h
  refine ⟨tSv G (fun cls d _ H => E cls d H) ios body, ?_, ?_⟩
  · exact hb _ _ _ _ _ _ ⟨hr, L2N.takes_of rfl rfl rfl rfl, passes_of rfl, rfl, rfl⟩
  · have hlen : ts.length = vs.length := by have := Sl.len r.sl; rw [eρ] at this; simpa using this
    have hst : L2.start N vs = vs.map some ++ List.replicate (N.length - ts.length) none := by unfold L2.start; rw [hlen]
    have sl : Sl G s.H s.fz pr (ts.map some ++ List.replicate (N.length - ts.length) none) (L2.start N vs) s.os := by
      rw [hst]
      have := r.sl
      rw [eρ] at this
      exact this.pad _
    have r' : SR G pr io (L2.start N vs) { s with ρ := ts.map some ++ List.replicate (N.length - ts.length) none } := by
      refine ⟨sl, r.nd, r.sep, r.dom, fun p hp => ?_⟩
      have h := r.iov p hp
      rw [hst, List.getElem?_append_left (by
        have := (List.getElem?_eq_some_iff.mp h).1
        exact this)]
      exact h
    refine tSv_of (s := { s with ρ := ts.map some ++ List.replicate (N.length - ts.length) none }) hi r' ?_
    have xt : ∀ {s' : Sx}, Ext { s with ρ := ts.map some ++ List.replicate (N.length - ts.length) none } s' → Ext s s' := fun e => ⟨e.keep, e.dom, e.tk, e.fz, e.fzo, e.oso⟩
    unfold defn at q
    have fin : ∀ {t : Tm} {u : Tm} {us : List Tm} {ρ' : Ss}, unB t = some u → getIo ρ' ios = some us → FoP G pr (io.map Prod.snd) s (.ok u us) Q E → ∀ v σ' s' ot, s'.ρ = ρ' → SR G pr io σ' s' → Ext { s with ρ := ts.map some ++ List.replicate (N.length - ts.length) none } s' →
        Tp G pr σ' s' t v ot → Frs { s with ρ := ts.map some ++ List.replicate (N.length - ts.length) none } ot → Q v s'.H := by
      intro t u us ρ' hu hg q v σ' s' ot e1 r1 x1 p1 f1
      subst e1
      rw [← hi] at hg
      obtain ⟨oio, k1, k2, k3⟩ := Sl.getIo r1.sl r1.nd r1.iov hg
      have hlc : ∀ i, t ≠ .loc i := fun i z => by subst z; simp [unB] at hu
      refine q v s' oio ot (xt x1) r1.dom k1 (TmR.unB _ _ _ _ (tm_of p1.rel hlc) hu) ?_ fun a ha => ?_
      · rw [List.nodup_append]
        exact ⟨k2, p1.nd, fun a ha b hb z => by subst z; exact (p1.sep a hb).2.2 (k3 a ha)⟩
      · rcases List.mem_append.mp ha with ha | ha
        · exact ⟨(r1.sep a (k3 a ha)).1, (r1.sep a (k3 a ha)).2, x1.oso a (k3 a ha)⟩
        · exact ⟨(p1.sep a ha).1, (p1.sep a ha).2.1, f1 a ha⟩
    show FlP G _ pr io _ (body (ts.map some ++ List.replicate (N.length - ts.length) none)) _
    cases eb : body (ts.map some ++ List.replicate (N.length - ts.length) none) with
    | nx ρ' =>
      rw [eb] at q
      simp only at q
      cases eg : getIo ρ' ios with
      | none => rw [eg] at q; exact q.elim
      | some us =>
        rw [eg] at q
        exact fun σ' s' e1 r1 x1 => fin (t := .v .F .non) (by simp [unB]) eg q .non σ' s' [] e1 r1 x1 ⟨by simp only [TmT, TmR, Rep]; exact ⟨trivial, trivial⟩, .nil, fun a ha => by cases ha⟩ Frs.nil
    | rt t ρ' =>
      rw [eb] at q
      simp only at q
      cases eu : unB t with
      | none => rw [eu] at q; exact q.elim
      | some u =>
        cases eg : getIo ρ' ios with
        | none => rw [eu, eg] at q; exact q.elim
        | some us =>
          rw [eu, eg] at q
          exact fun v σ' s' ot e1 r1 x1 p1 f1 => fin eu eg q v σ' s' ot e1 r1 x1 p1 f1
    | ex e ρ' =>
      rw [eb] at q
      simp only at q
      cases eg : getIo ρ' ios with
      | none => rw [eg] at q; exact q.elim
      | some us =>
        rw [eg] at q
        intro cls d σ' s' e1 r1 x1 k
        subst e1
        rw [← hi] at eg
        obtain ⟨oio, k1, k2, k3⟩ := Sl.getIo r1.sl r1.nd r1.iov eg
        exact q cls d s' oio (xt x1) r1.dom k1 k k2 fun a ha => ⟨(r1.sep a (k3 a ha)).1, (r1.sep a (k3 a ha)).2, x1.oso a (k3 a ha)⟩
    | bk ρ' => rw [eb] at q; exact q.elim
    | ct ρ' => rw [eb] at q; exact q.elim
    | no => rw [eb] at q; exact q.elim
end
end PV

namespace PV
open PySem PySem.Spec L2

/-! ### calls of defs -/
def pullT : List Tm → List Md → Ss → Option (List Tm × Ss)
  | t :: ts, .io :: ms, ρ => match t with
    | .loc i => match ρ[i]? with
      | some (some u) => match pullT ts ms (ρ.set i none) with
        | some (us, ρ') => some (u :: us, ρ')
        | none => none
      | _ => none
    | t => match pullT ts ms ρ with
      | some (us, ρ') => some (t :: us, ρ')
      | none => none
  | _ :: ts, .b :: ms, ρ => pullT ts ms ρ
  | _ :: ts, .f :: ms, ρ => pullT ts ms ρ
  | [], [], ρ => some ([], ρ)
  | _, _, _ => none
def paramsT : List Tm → List Md → List Tm → Ss → Option (List Tm)
  | _ :: ts, .io :: ms, u :: us, ρ => (paramsT ts ms us ρ).map (u :: ·)
  | t :: ts, .b :: ms, us, ρ => match derT ρ t, paramsT ts ms us ρ with
    | some x, some ps => some (.v .B (toD x) :: ps)
    | _, _ => none
  | t :: ts, .f :: ms, us, ρ => match t, paramsT ts ms us ρ with
    | .v .F d, some ps => some (.v .F d :: ps)
    | .v .B d, some ps => if flat d = true then some (.v .F d :: ps) else none
    | _, _ => none
  | [], [], [], _ => some []
  | _, _, _, _ => none
def putT : List Tm → List Md → List Tm → Ss → Option Ss
  | t :: ts, .io :: ms, u :: us, ρ => match t with
    | .loc i => if i < ρ.length then putT ts ms us (ρ.set i (some u)) else none
    | _ => putT ts ms us ρ
  | _ :: ts, .b :: ms, us, ρ => putT ts ms us ρ
  | _ :: ts, .f :: ms, us, ρ => putT ts ms us ρ
  | [], [], [], ρ => some ρ
  | _, _, _, _ => none
def callF (f : Fn) (ms : List Md) (ts : List Tm) (ρ1 : Ss) : Ou := match pullT ts ms ρ1 with
  | some (us, ρ2) => match paramsT ts ms us ρ2 with
    | some ps => match f ps with
      | .ok t us' => match putT ts ms us' ρ2 with
        | some ρ3 => .ok t ρ3
        | none => .no
      | .ex e us' => match putT ts ms us' ρ2 with
        | some ρ3 => .ex e ρ3
        | none => .no
      | .no => .no
    | none => .no
  | none => .no
def eCall (f : Fn) (ms : List Md) (gs : Ss → OuL) : Ev := fun ρ => (gs ρ).bind (callF f ms)
def ioV : List Md → List V → List V
  | .io :: ms, v :: vs => v :: ioV ms vs
  | _ :: ms, _ :: vs => ioV ms vs
  | _, _ => []
section
variable {G : Gx} {W : WX} {pr : Addr → Prop} {io : List (Nat × V)} {σ : L2.St} {s s1 : Sx} {ios : List Nat} {Q : VK} {X : Cx}
/-- the arguments that are not given back -/
def TmTb (G : Gx) (pr : Addr → Prop) (σ : L2.St) (s : Sx) : List Tm → List Md → List V → List Addr → Prop
  | _ :: ts, .io :: ms, _ :: vs, o => TmTb G pr σ s ts ms vs o
  | t :: ts, .b :: ms, v :: vs, o => ∃ o1 o2, o = o1 ++ o2 ∧ TmT G pr σ s t v o1 ∧ TmTb G pr σ s ts ms vs o2
  | t :: ts, .f :: ms, v :: vs, o => ∃ o1 o2, o = o1 ++ o2 ∧ TmT G pr σ s t v o1 ∧ TmTb G pr σ s ts ms vs o2
  | [], [], [], o => o = []
  | _, _, _, _ => False
theorem pull_ok : ∀ {ts : List Tm} {ms : List Md} {ρ ρ2 : Ss} {us : List Tm} {vs : List V} {os ot : List Addr}, Sl G s.H s.fz pr ρ σ os → TmTs G pr σ s ts vs ot → (os ++ ot).Nodup → pullT ts ms ρ = some (us, ρ2) →
    ∃ os2 oio otb, Sl G s.H s.fz pr ρ2 σ os2 ∧ TmRs G s.H s.fz pr us (ioV ms vs) oio ∧ TmTb G pr σ s ts ms vs otb ∧ (os2 ++ (oio ++ otb)).Nodup ∧ (∀ a ∈ os2, a ∈ os) ∧ (∀ a ∈ oio, a ∈ os ∨ a ∈ ot) ∧ ∀ a ∈ otb, a ∈ ot
  | [], [], ρ, ρ2, us, vs, os, ot, h, ht, nd, e => by
    simp only [pullT, Option.some.injEq, Prod.mk.injEq] at e
    obtain ⟨rfl, rfl⟩ := e
    obtain ⟨rfl, rfl⟩ := ht
    exact ⟨os, [], [], h, by simp [TmRs, ioV], by simp [TmTb], by simpa using nd, fun a ha => ha, (fun a ha => by simp at ha), (fun a ha => by simp at ha)⟩
  | [], m :: ms, ρ, ρ2, us, vs, os, ot, h, ht, nd, e => by cases m <;> simp [pullT] at e
  | t :: ts, [], ρ, ρ2, us, vs, os, ot, h, ht, nd, e => by simp [pullT] at e
  | t :: ts, .b :: ms, ρ, ρ2, us, vs, os, ot, h, ht, nd, e => by
    obtain ⟨v, r, o1, o2, rfl, rfl, h1, h2⟩ := ht
    simp only [pullT] at e
    have nd' : (os ++ o2).Nodup := by simp only [List.nodup_append, List.mem_append] at nd ⊢; grind
    obtain ⟨os2, oio, otb, k1, k2, k3, k4, k5, k6, k7⟩ := pull_ok h h2 nd' e
    refine ⟨os2, oio, o1 ++ otb, k1, k2, ⟨o1, otb, rfl, h1, k3⟩, ?_, k5, fun a ha => (k6 a ha).imp id fun z => List.mem_append_right _ z, fun a ha => ?_⟩
    · simp only [List.nodup_append, List.mem_append] at nd k4 ⊢; grind
    · rcases List.mem_append.mp ha with ha | ha
      · exact List.mem_append_left _ ha
      · exact List.mem_append_right _ (k7 a ha)
  | t :: ts, .f :: ms, ρ, ρ2, us, vs, os, ot, h, ht, nd, e => by
    obtain ⟨v, r, o1, o2, rfl, rfl, h1, h2⟩ := ht
    simp only [pullT] at e
    have nd' : (os ++ o2).Nodup := by simp only [List.nodup_append, List.mem_append] at nd ⊢; grind
    obtain ⟨os2, oio, otb, k1, k2, k3, k4, k5, k6, k7⟩ := pull_ok h h2 nd' e
    refine ⟨os2, oio, o1 ++ otb, k1, k2, ⟨o1, otb, rfl, h1, k3⟩, ?_, k5, fun a ha => (k6 a ha).imp id fun z => List.mem_append_right _ z, fun a ha => ?_⟩
    · simp only [List.nodup_append, List.mem_append] at nd k4 ⊢; grind
    · rcases List.mem_append.mp ha with ha | ha
      · exact List.mem_append_left _ ha
      · exact List.mem_append_right _ (k7 a ha)
  | t :: ts, .io :: ms, ρ, ρ2, us, vs, os, ot, h, ht, nd, e => by
    obtain ⟨v, r, o1, o2, rfl, rfl, h1, h2⟩ := ht
    by_cases hl : isLoc t = true
    · cases t with
      | loc i =>
        obtain ⟨rfl, hv⟩ := h1
        simp only [pullT] at e
        split at e
        · rename_i u eu
          split at e
          · rename_i us' ρ' e1
            cases e
            obtain ⟨w, p1, p2, p3, e3, rfl, q1, q2⟩ := Sl.drop h eu
            rw [hv] at e3
            cases e3
            have nd' : ((p1 ++ p3) ++ o2).Nodup := by simp only [List.nodup_append, List.mem_append, List.nil_append] at nd ⊢; grind
            obtain ⟨os2, oio, otb, k1, k2, k3, k4, k5, k6, k7⟩ := pull_ok q2 h2 nd' e1
            refine ⟨os2, p2 ++ oio, otb, k1, ?_, k3, ?_, fun a ha => ?_, fun a ha => ?_, fun a ha => List.mem_append_right _ (k7 a ha)⟩
            · simp only [TmRs, ioV]; exact ⟨v, _, p2, oio, rfl, rfl, q1, k2⟩
            · simp only [List.nodup_append, List.mem_append, List.nil_append] at nd k4 k5 k6 ⊢; grind
            · have := k5 a ha; simp only [List.mem_append] at this ⊢; grind
            · simp only [List.mem_append] at k6 ha ⊢; grind
          · cases e
        · cases e
      | v k d => simp [isLoc] at hl
      | tp ts => simp [isLoc] at hl
      | ls ts => simp [isLoc] at hl
      | ob c ts => simp [isLoc] at hl
    · have hl' : isLoc t = false := by simpa using hl
      have e' : (match pullT ts ms ρ with | some (us, ρ') => some (t :: us, ρ') | none => none) = some (us, ρ2) := by
        cases t <;> first | exact e | simp [isLoc] at hl'
      split at e'
      · rename_i us' ρ' e1
        cases e'
        have nd' : (os ++ o2).Nodup := by simp only [List.nodup_append, List.mem_append] at nd ⊢; grind
        obtain ⟨os2, oio, otb, k1, k2, k3, k4, k5, k6, k7⟩ := pull_ok h h2 nd' e1
        refine ⟨os2, o1 ++ oio, otb, k1, ?_, k3, ?_, k5, fun a ha => ?_, fun a ha => List.mem_append_right _ (k7 a ha)⟩
        · simp only [TmRs, ioV]; exact ⟨v, _, o1, oio, rfl, rfl, tm_of h1 (notLoc hl'), k2⟩
        · simp only [List.nodup_append, List.mem_append] at nd k4 k5 k6 k7 ⊢; grind
        · simp only [List.mem_append] at k6 ha ⊢; grind
      · cases e'
/-- forgetting the owner, keeping whose addresses they are -/
theorem imp3 {A B C C' : Prop} (h : C → C') (p : A ∨ B ∨ C) : A ∨ B ∨ C' := p.imp id fun q => q.imp id h
mutual
theorem tm_toDP {H : Hp} {fz : Addr → Prop} : ∀ (t : Tm) (v : V) (os : List Addr), TmR G H fz pr t v os → Rep G H (fun a => fz a ∨ pr a ∨ a ∈ os) (toD t) v
  | .v .F d, v, os, h => by simp only [TmR] at h; simp only [toD]; exact h.2.mono fun a p => .inl p
  | .v .B d, v, os, h => by simp only [TmR] at h; simp only [toD]; exact h.2.mono fun a p => p.imp id .inl
  | .v .O d, v, os, h => by simp only [TmR] at h; simp only [toD]; exact h.any.mono fun a p => p.imp id .inr
  | .tp ts, v, os, h => by simp only [TmR] at h; simp only [toD, Rep]; obtain ⟨a, vs, e, h1, h2⟩ := h; exact ⟨a, vs, e, h1, tms_toDP ts vs os h2⟩
  | .ls ts, v, os, h => by
    simp only [TmR] at h; simp only [toD, Rep]
    obtain ⟨a, vs, o, e, rfl, h1, h2⟩ := h
    exact ⟨a, vs, e, .inr (.inr List.mem_cons_self), h1, (tms_toDP ts vs o h2).mono fun b p => imp3 (List.mem_cons_of_mem _) p⟩
  | .ob c ts, v, os, h => by
    simp only [TmR] at h; simp only [toD, Rep]
    obtain ⟨a, dx, vs, o, e, rfl, h1, hl, h2⟩ := h
    exact ⟨a, dx, vs, e, .inr (.inr List.mem_cons_self), h1, hl, (tms_toDP ts vs o h2).mono fun b p => imp3 (List.mem_cons_of_mem _) p⟩
  | .loc i, v, os, h => by simp only [TmR] at h
theorem tms_toDP {H : Hp} {fz : Addr → Prop} : ∀ (ts : List Tm) (vs : List V) (os : List Addr), TmRs G H fz pr ts vs os → Reps G H (fun a => fz a ∨ pr a ∨ a ∈ os) (toDs ts) vs
  | [], vs, os, h => by simp only [TmRs] at h; simp only [toDs, Reps]; exact h.1
  | t :: ts, vs, os, h => by
    simp only [TmRs] at h; simp only [toDs, Reps]
    obtain ⟨v, r, o1, o2, rfl, rfl, h1, h2⟩ := h
    exact ⟨v, r, rfl, (tm_toDP t v o1 h1).mono fun a p => imp3 (List.mem_append_left _) p, (tms_toDP ts r o2 h2).mono fun a p => imp3 (List.mem_append_right _) p⟩
end
/-- the callee's parameters -/
theorem params_ok {os2 otb : List Addr} {pr' : Addr → Prop} {ρ2 : Ss} (hs : Sl G s.H s.fz pr ρ2 σ os2) (hp : ∀ a, (pr a ∨ a ∈ os2 ∨ a ∈ otb) → s.fz a ∨ pr' a) :
    ∀ {ts : List Tm} {ms : List Md} {us ps : List Tm} {vs : List V} {o1 o2 : List Addr}, TmRs G s.H s.fz pr us (ioV ms vs) o1 → TmTb G pr σ s ts ms vs o2 → (∀ a ∈ o2, a ∈ otb) → paramsT ts ms us ρ2 = some ps →
    Sl G s.H s.fz pr' (ps.map some) (vs.map some) o1
  | [], [], us, ps, vs, o1, o2, h, hb, ho, e => by
    cases us with
    | nil =>
      simp only [paramsT, Option.some.injEq] at e
      subst e
      cases vs with
      | nil => simp only [ioV, TmRs] at h; simp only [List.map_nil, Sl]; exact ⟨trivial, h.2⟩
      | cons v vs => simp [TmTb] at hb
    | cons u us => simp [paramsT] at e
  | [], m :: ms, us, ps, vs, o1, o2, h, hb, ho, e => by cases m <;> simp [paramsT] at e
  | t :: ts, [], us, ps, vs, o1, o2, h, hb, ho, e => by simp [paramsT] at e
  | t :: ts, .io :: ms, us, ps, vs, o1, o2, h, hb, ho, e => by
    cases us with
    | nil => simp [paramsT] at e
    | cons u us =>
      cases vs with
      | nil => simp [TmTb] at hb
      | cons v vs =>
        simp only [paramsT, Option.map_eq_some_iff] at e
        obtain ⟨ps', e, rfl⟩ := e
        simp only [ioV, TmRs] at h
        obtain ⟨v', r, p1, p2, ev, rfl, h1, h2⟩ := h
        cases ev
        simp only [TmTb] at hb
        simp only [List.map_cons, Sl]
        refine ⟨v, _, p1, p2, rfl, rfl, ?_, params_ok hs hp h2 hb ho e⟩
        exact TmR.keep (fun _ h => h) (fun a p => hp a (.inl p)) (Tk.refl _) _ _ _ (fun a o _ e => e) h1
  | t :: ts, .b :: ms, us, ps, vs, o1, o2, h, hb, ho, e => by
    cases vs with
    | nil => simp [TmTb] at hb
    | cons v vs =>
      simp only [paramsT] at e
      split at e
      · rename_i x ps' e1 e2
        cases e
        simp only [ioV] at h
        obtain ⟨p1, p2, rfl, h1, h2⟩ := hb
        simp only [List.map_cons, Sl]
        refine ⟨v, _, [], o1, rfl, rfl, ?_, params_ok hs hp h h2 (fun a ha => ho a (List.mem_append_right _ ha)) e2⟩
        simp only [TmR]
        refine ⟨trivial, ?_⟩
        cases t with
        | loc i =>
          obtain ⟨rfl, hv⟩ := h1
          simp only [derT] at e1
          split at e1
          · rename_i u eu
            cases e1
            obtain ⟨w, q1, q2, q3, e3, e4, hx, _⟩ := Sl.get hs eu
            rw [hv] at e3
            cases e3
            refine (tm_toDP _ _ _ hx).mono fun a p => ?_
            rcases p with p | p | p
            · exact .inl p
            · exact hp a (.inl p)
            · exact hp a (.inr (.inl (by rw [e4]; simp [p])))
          · cases e1
        | v k d =>
          cases e1
          refine (tm_toDP _ _ _ h1).mono fun a p => ?_
          rcases p with p | p | p
          · exact .inl p
          · exact hp a (.inl p)
          · exact hp a (.inr (.inr (ho a (List.mem_append_left _ p))))
        | tp ts =>
          cases e1
          refine (tm_toDP _ _ _ h1).mono fun a p => ?_
          rcases p with p | p | p
          · exact .inl p
          · exact hp a (.inl p)
          · exact hp a (.inr (.inr (ho a (List.mem_append_left _ p))))
        | ls ts =>
          cases e1
          refine (tm_toDP _ _ _ h1).mono fun a p => ?_
          rcases p with p | p | p
          · exact .inl p
          · exact hp a (.inl p)
          · exact hp a (.inr (.inr (ho a (List.mem_append_left _ p))))
        | ob c ts =>
          cases e1
          refine (tm_toDP _ _ _ h1).mono fun a p => ?_
          rcases p with p | p | p
          · exact .inl p
          · exact hp a (.inl p)
          · exact hp a (.inr (.inr (ho a (List.mem_append_left _ p))))
      · cases e
  | t :: ts, .f :: ms, us, ps, vs, o1, o2, h, hb, ho, e => by
    cases vs with
    | nil => simp [TmTb] at hb
    | cons v vs =>
      simp only [paramsT] at e
      split at e
      · rename_i d ps' e2
        cases e
        simp only [ioV] at h
        obtain ⟨p1, p2, rfl, h1, h2⟩ := hb
        simp only [List.map_cons, Sl]
        refine ⟨v, _, [], o1, rfl, rfl, ?_, params_ok hs hp h h2 (fun a ha => ho a (List.mem_append_right _ ha)) e2⟩
        simp only [TmT, TmR] at h1
        simp only [TmR]
        exact ⟨trivial, h1.2⟩
      · rename_i d ps' e2
        split at e
        · rename_i hf
          cases e
          simp only [ioV] at h
          obtain ⟨p1, p2, rfl, h1, h2⟩ := hb
          simp only [List.map_cons, Sl]
          refine ⟨v, _, [], o1, rfl, rfl, ?_, params_ok hs hp h h2 (fun a ha => ho a (List.mem_append_right _ ha)) e2⟩
          simp only [TmT, TmR] at h1
          simp only [TmR]
          exact ⟨trivial, Rep.flat _ _ hf h1.2⟩
        · cases e
      · cases e
/-- what is given back goes to its slots -/
theorem put_ok : ∀ {ts : List Tm} {ms : List Md} {us : List Tm} {ρ2 ρ3 : Ss} {vs : List V} {os2 oio : List Addr}, Sl G s.H s.fz pr ρ2 σ os2 → TmRs G s.H s.fz pr us (ioV ms vs) oio → (∀ (i : Nat) t v, ts[i]? = some t → vs[i]? = some v → ∀ j, t = .loc j → σ[j]? = some (some v)) → ts.length = vs.length → (os2 ++ oio).Nodup → putT ts ms us ρ2 = some ρ3 →
    ∃ os3, Sl G s.H s.fz pr ρ3 σ os3 ∧ os3.Nodup ∧ ∀ a ∈ os3, a ∈ os2 ∨ a ∈ oio
  | [], [], us, ρ2, ρ3, vs, os2, oio, h, hu, hv, hl, nd, e => by
    cases us with
    | nil => simp only [putT, Option.some.injEq] at e; subst e; rw [List.nodup_append] at nd; exact ⟨os2, h, nd.1, fun a ha => .inl ha⟩
    | cons u us => simp [putT] at e
  | [], m :: ms, us, ρ2, ρ3, vs, os2, oio, h, hu, hv, hl, nd, e => by cases m <;> simp [putT] at e
  | t :: ts, [], us, ρ2, ρ3, vs, os2, oio, h, hu, hv, hl, nd, e => by simp [putT] at e
  | t :: ts, .b :: ms, us, ρ2, ρ3, vs, os2, oio, h, hu, hv, hl, nd, e => by
    cases vs with
    | nil => simp at hl
    | cons v vs =>
      simp only [putT] at e
      exact put_ok (vs := vs) h (show TmRs G s.H s.fz pr us (ioV ms vs) oio from hu) (fun i t v h1 h2 => hv (i + 1) t v (by simpa using h1) (by simpa using h2)) (by simpa using hl) nd e
  | t :: ts, .f :: ms, us, ρ2, ρ3, vs, os2, oio, h, hu, hv, hl, nd, e => by
    cases vs with
    | nil => simp at hl
    | cons v vs =>
      simp only [putT] at e
      exact put_ok (vs := vs) h (show TmRs G s.H s.fz pr us (ioV ms vs) oio from hu) (fun i t v h1 h2 => hv (i + 1) t v (by simpa using h1) (by simpa using h2)) (by simpa using hl) nd e
  | t :: ts, .io :: ms, us, ρ2, ρ3, vs, os2, oio, h, hu, hv, hl, nd, e => by
    cases vs with
    | nil => simp at hl
    | cons v vs =>
      cases us with
      | nil => simp [putT] at e
      | cons u us =>
        simp only [ioV, TmRs] at hu
        obtain ⟨v', r, p1, p2, ev, rfl, h1, h2⟩ := hu
        cases ev
        have rest : ∀ {ρ : Ss} {os : List Addr}, Sl G s.H s.fz pr ρ σ os → (os ++ p2).Nodup → putT ts ms us ρ = some ρ3 → ∃ os3, Sl G s.H s.fz pr ρ3 σ os3 ∧ os3.Nodup ∧ ∀ a ∈ os3, a ∈ os ∨ a ∈ p2 := fun hs hn he =>
          put_ok hs h2 (fun i t v h1 h2 => hv (i + 1) t v (by simpa using h1) (by simpa using h2)) (by simpa using hl) hn he
        cases t with
        | loc j =>
          simp only [putT] at e
          split at e
          · rename_i hj
            obtain ⟨q1, q2, q3, rfl, hs⟩ := Sl.put h1 h hj
            have hvj := hv 0 (.loc j) v rfl rfl j rfl
            have e2 : σ.set j (some v) = σ := by
              apply List.ext_getElem?
              intro k
              by_cases hk : k = j
              · subst hk
                rw [List.getElem?_set_self (by have := (List.getElem?_eq_some_iff.mp hvj).1; exact this), hvj]
              · rw [List.getElem?_set_ne (Ne.symm hk)]
            rw [e2] at hs
            obtain ⟨os3, k1, k2, k3⟩ := rest hs (by simp only [List.nodup_append, List.mem_append] at nd ⊢; grind) e
            exact ⟨os3, k1, k2, fun a ha => by have := k3 a ha; simp only [List.mem_append] at this ⊢; grind⟩
          · cases e
        | v k d =>
          simp only [putT] at e
          obtain ⟨os3, k1, k2, k3⟩ := rest h (by simp only [List.nodup_append, List.mem_append] at nd ⊢; grind) e
          exact ⟨os3, k1, k2, fun a ha => by have := k3 a ha; simp only [List.mem_append] at this ⊢; grind⟩
        | tp ts' =>
          simp only [putT] at e
          obtain ⟨os3, k1, k2, k3⟩ := rest h (by simp only [List.nodup_append, List.mem_append] at nd ⊢; grind) e
          exact ⟨os3, k1, k2, fun a ha => by have := k3 a ha; simp only [List.mem_append] at this ⊢; grind⟩
        | ls ts' =>
          simp only [putT] at e
          obtain ⟨os3, k1, k2, k3⟩ := rest h (by simp only [List.nodup_append, List.mem_append] at nd ⊢; grind) e
          exact ⟨os3, k1, k2, fun a ha => by have := k3 a ha; simp only [List.mem_append] at this ⊢; grind⟩
        | ob c ts' =>
          simp only [putT] at e
          obtain ⟨os3, k1, k2, k3⟩ := rest h (by simp only [List.nodup_append, List.mem_append] at nd ⊢; grind) e
          exact ⟨os3, k1, k2, fun a ha => by have := k3 a ha; simp only [List.mem_append] at this ⊢; grind⟩
theorem TmTs.len : ∀ {ts : List Tm} {vs : List V} {ot : List Addr}, TmTs G pr σ s ts vs ot → ts.length = vs.length
  | [], vs, ot, h => by obtain ⟨rfl, _⟩ := h; rfl
  | t :: ts, vs, ot, h => by obtain ⟨v, r, o1, o2, rfl, rfl, _, h2⟩ := h; simp [TmTs.len h2]
theorem TmTs.loc : ∀ {ts : List Tm} {vs : List V} {ot : List Addr}, TmTs G pr σ s ts vs ot → ∀ (i : Nat) t v, ts[i]? = some t → vs[i]? = some v → ∀ j, t = .loc j → σ[j]? = some (some v)
  | [], vs, ot, h, i, t, v, h1, h2, j, e => by simp at h1
  | t0 :: ts, vs, ot, h, i, t, v, h1, h2, j, e => by
    obtain ⟨w, r, o1, o2, rfl, rfl, k1, k2⟩ := h
    cases i with
    | zero =>
      simp only [List.getElem?_cons_zero, Option.some.injEq] at h1 h2
      subst h1 h2 e
      exact k1.2
    | succ i => exact TmTs.loc k2 i t v (by simpa using h1) (by simpa using h2) j e
/-- the parameters' places that are given back -/
def ioPos : Nat → List Md → List Nat
  | _, [] => []
  | k, .io :: ms => k :: ioPos (k + 1) ms
  | k, _ :: ms => ioPos (k + 1) ms
def ioZip : Nat → List Md → List V → List (Nat × V)
  | k, .io :: ms, v :: vs => (k, v) :: ioZip (k + 1) ms vs
  | k, _ :: ms, _ :: vs => ioZip (k + 1) ms vs
  | _, _, _ => []
theorem ioZip_fst : ∀ (k : Nat) (ms : List Md) (vs : List V), ms.length = vs.length → (ioZip k ms vs).map Prod.fst = ioPos k ms
  | k, [], vs, h => by cases vs <;> rfl
  | k, m :: ms, [], h => by simp at h
  | k, m :: ms, v :: vs, h => by
    have h' : ms.length = vs.length := by simpa using h
    cases m <;> simp [ioZip, ioPos, ioZip_fst _ _ _ h']
theorem ioZip_snd : ∀ (k : Nat) (ms : List Md) (vs : List V), (ioZip k ms vs).map Prod.snd = ioV ms vs
  | k, [], vs => by cases vs <;> rfl
  | k, m :: ms, [] => by cases m <;> rfl
  | k, m :: ms, v :: vs => by cases m <;> simp [ioZip, ioV, ioZip_snd]
theorem ioZip_at : ∀ (k : Nat) (ms : List Md) (vs : List V), ∀ p ∈ ioZip k ms vs, ∃ j, p.1 = k + j ∧ vs[j]? = some p.2
  | k, [], vs, p, h => by cases vs <;> simp [ioZip] at h
  | k, m :: ms, [], p, h => by cases m <;> simp [ioZip] at h
  | k, m :: ms, v :: vs, p, h => by
    have go : p ∈ ioZip (k + 1) ms vs → ∃ j, p.1 = k + j ∧ (v :: vs)[j]? = some p.2 := fun h => by
      obtain ⟨j, e1, e2⟩ := ioZip_at (k + 1) ms vs p h
      exact ⟨j + 1, by omega, by simpa using e2⟩
    cases m with
    | b => exact go h
    | f => exact go h
    | io =>
      simp only [ioZip, List.mem_cons] at h
      rcases h with rfl | h
      · exact ⟨0, rfl, rfl⟩
      · exact go h
theorem pull_len : ∀ {ts : List Tm} {ms : List Md} {ρ : Ss} {q : List Tm × Ss}, pullT ts ms ρ = some q → ts.length = ms.length
  | [], [], ρ, q, e => rfl
  | [], m :: ms, ρ, q, e => by cases m <;> simp [pullT] at e
  | t :: ts, [], ρ, q, e => by simp [pullT] at e
  | t :: ts, .b :: ms, ρ, q, e => by simp only [pullT] at e; simp [pull_len e]
  | t :: ts, .f :: ms, ρ, q, e => by simp only [pullT] at e; simp [pull_len e]
  | t :: ts, .io :: ms, ρ, q, e => by
    have k : ∀ {ρ' : Ss} {o : Option (List Tm × Ss)}, pullT ts ms ρ' = o → o.isSome = true → ts.length = ms.length := fun h1 h2 => by
      obtain ⟨q', hq⟩ := Option.isSome_iff_exists.mp h2
      rw [hq] at h1
      exact pull_len h1
    cases t with
    | loc i =>
      simp only [pullT] at e
      split at e
      · split at e
        · rename_i e1
          simp [k e1 rfl]
        · cases e
      · cases e
    | v k' d => simp only [pullT] at e; split at e; · rename_i e1; simp [k e1 rfl]
                · cases e
    | tp _ => simp only [pullT] at e; split at e; · rename_i e1; simp [k e1 rfl]
              · cases e
    | ls _ => simp only [pullT] at e; split at e; · rename_i e1; simp [k e1 rfl]
              · cases e
    | ob _ _ => simp only [pullT] at e; split at e; · rename_i e1; simp [k e1 rfl]
                · cases e
/-- THE CALL: a promise by value, asked by the caller -/
theorem call_read {f : Fn} {ms : List Md} {ts : List Tm} {vs : List V} {ot : List Addr} {n : Nat} {E : XK} (hn : ms.length = n) (r1 : SR G pr io σ s1) (x1 : Ext s s1) (p1 : Tps G pr σ s1 ts vs ot) (f1 : Frs s ot)
    (hE : ∀ cls d H, W cls d σ H → E cls d H) (q : OuP G W pr io σ s (callF f ms ts s1.ρ) Q) : spV G n (ioPos 0 ms) f vs s1.H Q E := by
  unfold callF at q
  split at q
  · rename_i us ρ2 e1
    split at q
    · rename_i ps e2
      have nd0 : (s1.os ++ ot).Nodup := by
        rw [List.nodup_append]
        exact ⟨r1.nd, p1.nd, fun a ha b hb z => by subst z; exact (p1.sep a hb).2.2 ha⟩
      obtain ⟨os2, oio, otb, k1, k2, k3, k4, k5, k6, k7⟩ := pull_ok r1.sl p1.rel nd0 e1
      have hlen : ts.length = ms.length := pull_len e1
      have hlv : ts.length = vs.length := p1.rel.len
      have ownA : ∀ a, (a ∈ s1.os ∨ a ∈ ot) → Own s1.H a := fun a h => h.elim (r1.own a) (p1.rel.own a)
      have sepA : ∀ a, (a ∈ s1.os ∨ a ∈ ot) → ¬ s1.fz a ∧ ¬ pr a := fun a h => h.elim (r1.sep a) fun z => ⟨(p1.sep a z).1, (p1.sep a z).2.1⟩
      let pr' : Addr → Prop := fun a => s1.H a ≠ none ∧ a ∉ oio
      have dis : ∀ a ∈ oio, a ∉ os2 ∧ a ∉ otb := fun a ha => by simp only [List.nodup_append, List.mem_append] at k4; grind
      have hp : ∀ a, (pr a ∨ a ∈ os2 ∨ a ∈ otb) → s1.fz a ∨ pr' a := fun a h => by
        refine .inr ⟨?_, fun z => ?_⟩
        · rcases h with h | h | h
          · exact r1.dom a (.inr h)
          · exact (ownA a (.inl (k5 a h))).ne
          · exact (ownA a (.inr (k7 a h))).ne
        · rcases h with h | h | h
          · exact (sepA a (k6 a z)).2 h
          · exact (dis a z).1 h
          · exact (dis a z).2 h
      have hsl : Sl G s1.H s1.fz pr' (ps.map some) (vs.map some) oio := params_ok k1 hp k2 k3 (fun a h => h) e2
      have r0 : SR G pr' (ioZip 0 ms vs) (vs.map some) { H := s1.H, fz := s1.fz, os := oio, ρ := ps.map some } := by
        refine ⟨hsl, ?_, fun a ha => ⟨(sepA a (k6 a ha)).1, fun z => z.2 ha⟩, fun a h => ?_, fun p hp => ?_⟩
        · simp only [List.nodup_append] at k4; exact k4.2.1.1
        · rcases h with h | h
          · exact r1.dom a (.inl h)
          · exact h.1
        · obtain ⟨j, h1, h2⟩ := ioZip_at 0 ms vs p hp
          rw [h1, Nat.zero_add, List.getElem?_map, h2]
          rfl
      refine ⟨by rw [← hn, ← hlen, hlv], pr', ioZip 0 ms vs, { H := s1.H, fz := s1.fz, os := oio, ρ := ps.map some }, ps, rfl, ioZip_fst 0 ms vs (by rw [← hlen, hlv]), rfl, r0, ?_⟩
      rw [ioZip_snd]
      -- behind the call
      have back : ∀ {us' : List Tm} {ρ3 : Ss} {s' : Sx} {oio' : List Addr}, putT ts ms us' ρ2 = some ρ3 → Ext { H := s1.H, fz := s1.fz, os := oio, ρ := ps.map some } s' → (∀ a, (s'.fz a ∨ pr' a) → s'.H a ≠ none) → TmRs G s'.H s'.fz (fun _ => False) us' (ioV ms vs) oio' →
          oio'.Nodup → (∀ a ∈ oio', ¬ s'.fz a ∧ ¬ pr' a ∧ (a ∈ oio ∨ s1.H a = none)) → ∃ os3, SR G pr io σ { s' with ρ := ρ3, os := os3 } ∧ Ext s { s' with ρ := ρ3, os := os3 } ∧ ∀ a ∈ os3, a ∈ os2 ∨ a ∈ oio' := by
        intro us' ρ3 s' oio' e3 x' dom' hus nd' sep'
        have kp : ∀ a o, s1.H a = some o → a ∉ oio → s'.H a = some o := x'.keep
        have sl2 : Sl G s'.H s'.fz pr ρ2 σ os2 := Sl.keep x'.fz (fun a p => .inr p) x'.tk (fun a o p e => kp a o e fun z => by
          rcases p with p | p | p
          · exact (dis a z).1 p
          · exact (sepA a (k6 a z)).1 p
          · exact (sepA a (k6 a z)).2 p) k1
        have dis2 : ∀ a ∈ os2, a ∉ oio' := fun a ha hb => by
          rcases (sep' a hb).2.2 with z | z
          · exact (dis a z).1 ha
          · exact (ownA a (.inl (k5 a ha))).ne z
        have hus' : TmRs G s'.H s'.fz pr us' (ioV ms vs) oio' := TmRs.keep (fun _ h => h) (fun a p => p.elim) (Tk.refl _) _ _ _ (fun a o _ e => e) hus
        have nd2 : (os2 ++ oio').Nodup := by
          rw [List.nodup_append]
          simp only [List.nodup_append] at k4
          exact ⟨k4.1, nd', fun a ha b hb z => by subst z; exact dis2 a ha hb⟩
        obtain ⟨os3, m1, m2, m3⟩ := put_ok (s := s') sl2 hus' p1.rel.loc hlv nd2 e3
        refine ⟨os3, ⟨m1, m2, fun a ha => ?_, fun a h => ?_, r1.iov⟩, ⟨fun a o e n => ?_, fun a h => ?_, x1.tk.trans x'.tk, fun a h => x'.fz a (x1.fz a h), fun a h => ?_, fun a ha => ?_⟩, m3⟩
        · rcases m3 a ha with h | h
          · refine ⟨fun z => ?_, (sepA a (.inl (k5 a h))).2⟩
            rcases x'.fzo a z with y | y | y
            · exact (sepA a (.inl (k5 a h))).1 y
            · exact (dis a y).1 h
            · exact (ownA a (.inl (k5 a h))).ne y
          · refine ⟨(sep' a h).1, fun z => ?_⟩
            rcases (sep' a h).2.2 with y | y
            · exact (sepA a (k6 a y)).2 z
            · exact r1.dom a (.inr z) y
        · rcases h with h | h
          · exact dom' a (.inl h)
          · exact x'.dom a (r1.dom a (.inr h))
        · refine kp a o (x1.keep a o e n) fun z => ?_
          rcases k6 a z with y | y
          · rcases x1.oso a y with w | w
            · exact n w
            · rw [e] at w; cases w
          · rcases f1 a y with w | w
            · exact n w
            · rw [e] at w; cases w
        · exact x'.dom a (x1.dom a h)
        · rcases x'.fzo a h with y | y | y
          · exact x1.fzo a y
          · exact .inr ((k6 a y).elim (x1.oso a) (f1 a))
          · exact .inr (.inr (x1.back y))
        · rcases m3 a ha with h | h
          · exact x1.oso a (k5 a h)
          · rcases (sep' a h).2.2 with y | y
            · exact (k6 a y).elim (x1.oso a) (f1 a)
            · exact .inr (x1.back y)
      unfold FoP
      split at q
      · rename_i t us' ef
        split at q
        · rename_i ρ3 e3
          simp only [ef]
          intro v s' oio' ott x' dom' hus ht nd' sep'
          simp only [List.nodup_append] at nd'
          obtain ⟨os3, r3, x3, m3⟩ := back e3 x' dom' hus nd'.1 fun a ha => sep' a (List.mem_append_left _ ha)
          refine q v { s' with ρ := ρ3, os := os3 } ott rfl r3 x3 ⟨?_, nd'.2.1, fun a ha => ⟨(sep' a (List.mem_append_right _ ha)).1, fun z => ?_, fun z => ?_⟩⟩ fun a ha => ?_
          · exact loc_of (TmR.keep (fun _ h => h) (fun a p => p.elim) (Tk.refl _) _ _ _ (fun a o _ e => e) ht)
          · rcases (sep' a (List.mem_append_right _ ha)).2.2 with y | y
            · exact (sepA a (k6 a y)).2 z
            · exact r1.dom a (.inr z) y
          · rcases m3 a z with h | h
            · rcases (sep' a (List.mem_append_right _ ha)).2.2 with y | y
              · exact (dis a y).1 h
              · exact (ownA a (.inl (k5 a h))).ne y
            · exact nd'.2.2 a h a ha rfl
          · rcases (sep' a (List.mem_append_right _ ha)).2.2 with y | y
            · exact (k6 a y).elim (x1.oso a) (f1 a)
            · exact .inr (x1.back y)
        · exact q.elim
      · rename_i e us' ef
        split at q
        · rename_i ρ3 e3
          simp only [ef]
          intro cls d s' oio' x' dom' hus he nd' sep'
          obtain ⟨os3, r3, x3, m3⟩ := back e3 x' dom' hus nd' sep'
          exact hE _ _ _ (q cls d { s' with ρ := ρ3, os := os3 } rfl r3 x3 he)
        · exact q.elim
      · exact q.elim
    · exact q.elim
  · exact q.elim
variable {k : Nat} {fa : Addr} {fd : FuncData} {ps : List Str} {n : Nat} {fn : Fn} {ms : List Md} {x : Str} {p pos apos : Pos} {a o : Expr} {e : Expr} {es : List Expr} {gs : Ss → OuL} {ga : Ev}
theorem call_end {t : TA} (ht : t = tEvs G W ios gs) (hn : ms.length = n) {H : Hp} (q : tEv G W ios (eCall fn ms gs) σ H Q) : t σ H fun vs H1 => spV G n (ioPos 0 ms) fn vs H1 Q (WE W σ) := by
  subst ht
  obtain ⟨pr, io, s, rfl, hi, r, q⟩ := of_tEv q
  exact tEvs_of hi r (OuLP.bind0 q fun ts vs s1 ot r1 x1 p1 f1 q1 => call_read hn r1 x1 p1 f1 (fun _ _ _ h => h) q1)
/-- f(e, ..) -/
theorem v_call (F : FnG X.prog X.w X.K X.mg X.base k fa fd ps (spV G n (ioPos 0 ms) fn)) (hr : RoomG k X.A) (tk : L2N.Takes X W) (hm : X.mg x = some (.ref fa)) (hk : PySem.W.keepIn X.K (.ref fa) = true) (hb : Binds X.K fd ps []) (ha : PAv X G W ios (e :: es) gs)
    (hn : ms.length = n := by rfl) (hg : Gl X x := by rfl) (hdb : (x == ("__debug__" : Str)) = false := by decide) (he : starEach (e :: es) X.env = (false, eval e X.env) :: starEach es X.env := by rfl) (hpl : (backTo pos (starEach es X.env)).any (·.1) = false := by rfl) :
    PEv X G W ios (.Call (.Name x p) (e :: es) [] pos) (eCall fn ms gs) :=
  pe_imp (pe_callG (E := WE W) F hr hg hm hk hb (L2N.passAt tk) ha hdb he hpl) fun σ H Q q => call_end rfl hn q
end
end PV

namespace PV
open PySem PySem.Spec L2

/-! ### targets -/
abbrev Tg := Tm → Ss → Option Ss
/-- σ' is σ but for the names tv -/
def Out (σ σ' : L2.St) (tv : List Nat) : Prop := σ'.length = σ.length ∧ ∀ i, i ∉ tv → σ'[i]? = σ[i]?
def gTg (G : Gx) (ios tv : List Nat) (tgt : Tg) : TG := fun v σ H Q => ∃ pr io s0 s t ot, s.H = H ∧ io.map Prod.fst = ios ∧ SR G pr io σ s ∧ Ext s0 s ∧ Tp G pr σ s t v ot ∧ Frs s0 ot ∧ match tgt t s.ρ with
  | some ρ' => ∀ σ' s', s'.ρ = ρ' → SR G pr io σ' s' → Ext s0 s' → Out σ σ' tv → Q σ' s'.H
  | none => False
abbrev PGv (X : Cx) (G : Gx) (ios tv : List Nat) (e : Expr) (tgt : Tg) : Prop := PG X e (gTg G ios tv tgt)
/-- several targets, their values in flight -/
abbrev Tgs := List Tm → Ss → Option Ss
def gTgs (G : Gx) (ios tv : List Nat) (tgt : Tgs) : TGs := fun vs σ H Q => ∃ pr io s0 s ts ot, s.H = H ∧ io.map Prod.fst = ios ∧ SR G pr io σ s ∧ Ext s0 s ∧ (TmRs G s.H s.fz pr ts vs ot ∧ ot.Nodup ∧ ∀ a ∈ ot, ¬ s.fz a ∧ ¬ pr a ∧ a ∉ s.os) ∧ Frs s0 ot ∧ match tgt ts s.ρ with
  | some ρ' => ∀ σ' s', s'.ρ = ρ' → SR G pr io σ' s' → Ext s0 s' → Out σ σ' tv → Q σ' s'.H
  | none => False
abbrev PGsv (X : Cx) (G : Gx) (ios tv : List Nat) (e : List Expr) (tgt : Tgs) : Prop := PGs X e (gTgs G ios tv tgt)
theorem pg_imp {X : Cx} {x : Expr} {t t' : TG} (h : PG X x t) (i : ∀ v σ H Q, t' v σ H Q → t v σ H Q) : PG X x t' := ⟨fun pins s σ H v u Q I r q => h.run pins s σ H v u Q I r (i v σ H Q q)⟩
theorem pgs_imp {X : Cx} {x : List Expr} {t t' : TGs} (h : PGs X x t) (i : ∀ v σ H Q, t' v σ H Q → t v σ H Q) : PGs X x t' := ⟨fun pins s σ H v u Q I r q => h.run pins s σ H v u Q I r (i v σ H Q q)⟩
def tgN (i : Nat) : Tg := fun t ρ => if isLoc t = false ∧ i < ρ.length then some (ρ.set i (some t)) else none
def tgsNil : Tgs := fun ts ρ => match ts with
  | [] => some ρ
  | _ => none
def tgsCons (g : Tg) (gs : Tgs) : Tgs := fun ts ρ => match ts with
  | t :: ts => match g t ρ with
    | some ρ1 => gs ts ρ1
    | none => none
  | [] => none
/-- the parts of a tuple, a list -/
def partsT : Tm → Option (List Tm)
  | .v k (.tup xs) => some (xs.map (subK k))
  | .v k (.lst xs) => some (xs.map (subK k))
  | .tp ts => some ts
  | _ => none
def tgTup (gs : Tgs) : Tg := fun t ρ => match t with
  | .v k (.tup xs) => gs (xs.map (subK k)) ρ
  | .tp ts => gs ts ρ
  | _ => none
section
variable {G : Gx} {W : WX} {pr : Addr → Prop} {io : List (Nat × V)} {σ : L2.St} {s s1 : Sx} {ios : List Nat} {X : Cx} {a b c e : Expr} {pos p : Pos} {ga gb gc : Ev} {st : Stmt} {es : List Expr}
theorem g_name (i : Nat) {x : Str} (hN : X.N.Nodup) (hio : i ∉ ios) (hi : X.N[i]? = some x := by rfl) (hx : Loc X.env.scope x := by first | exact Or.inl rfl | exact Or.inr rfl) (hf : X.fn x = true ∨ X.env.scope.names.lookup x = some .local := by first | exact .inl rfl | exact .inr rfl | assumption) :
    PGv X G ios [i] (.Name x pos) (tgN i) := pg_imp (pg_name hN hi hx hf) fun v σ H Q q => by
  obtain ⟨pr, io, s0, s, t, ot, rfl, hi, r, x, p, f, q⟩ := q
  unfold tgN at q
  split at q
  · rename_i ρ' e
    split at e
    · rename_i hc
      cases e
      obtain ⟨os', r2, x2⟩ := r.store x p f hc.1 hc.2 (by rw [hi]; exact hio)
      exact q _ { s with ρ := s.ρ.set i (some t), os := os' } rfl r2 x2 ⟨List.length_set, fun j hj => List.getElem?_set_ne (by simpa using Ne.symm (by simpa using hj))⟩
    · cases e
  · exact q.elim
theorem gs_nil : PGsv X G ios [] [] tgsNil := pgs_imp pgs_nil fun v σ H Q q => by
  obtain ⟨pr, io, s0, s, ts, ot, rfl, hi, r, x, ⟨h, nd, sep⟩, f, q⟩ := q
  cases ts with
  | nil =>
    simp only [TmRs] at h
    exact ⟨h.1, q σ s rfl r x ⟨rfl, fun _ _ => rfl⟩⟩
  | cons t ts => exact q.elim
/-- what is in flight stands while other values in flight are stored -/
theorem tms_on {s' : Sx} {o1 o2 : List Addr} {ts : List Tm} {vs : List V} (h : TmRs G s.H s.fz pr ts vs o2) (sep : ∀ a ∈ o2, ¬ s.fz a ∧ ¬ pr a ∧ a ∉ s.os ∧ a ∉ o1) (r : SR G pr io σ s) (sep1 : ∀ a ∈ o1, ¬ s.fz a ∧ ¬ pr a) (x : Ext { s with os := s.os ++ o1 } s') :
    TmRs G s'.H s'.fz pr ts vs o2 ∧ ∀ a ∈ o2, ¬ s'.fz a ∧ ¬ pr a ∧ a ∉ s'.os := by
  have own := TmRs.own _ _ _ h
  refine ⟨TmRs.keep x.fz (fun a p => .inr p) x.tk _ _ _ (fun a o p e => x.keep a o e fun z => ?_) h, fun a ha => ⟨fun z => ?_, (sep a ha).2.1, fun z => ?_⟩⟩
  · rcases List.mem_append.mp z with z | z
    · rcases p with p | p | p
      · exact (sep a p).2.2.1 z
      · exact (r.sep a z).1 p
      · exact (r.sep a z).2 p
    · rcases p with p | p | p
      · exact (sep a p).2.2.2 z
      · exact (sep1 a z).1 p
      · exact (sep1 a z).2 p
  · rcases x.fzo a z with y | y | y
    · exact (sep a ha).1 y
    · rcases List.mem_append.mp y with y | y
      · exact (sep a ha).2.2.1 y
      · exact (sep a ha).2.2.2 y
    · exact (own a ha).ne y
  · rcases x.oso a z with y | y
    · rcases List.mem_append.mp y with y | y
      · exact (sep a ha).2.2.1 y
      · exact (sep a ha).2.2.2 y
    · exact (own a ha).ne y
theorem Ext.plus {s0 : Sx} {o1 : List Addr} (x : Ext s0 s) (f : Frs s0 o1) : Ext s0 { s with os := s.os ++ o1 } := ⟨x.keep, x.dom, x.tk, x.fz, x.fzo, fun a ha => (List.mem_append.mp ha).elim (x.oso a) (f a)⟩
theorem Ext.minus {o1 : List Addr} : Ext { s with os := s.os ++ o1 } s := ⟨fun _ _ h _ => h, fun _ h => h, Tk.refl _, fun _ h => h, fun _ h => .inl h, fun _ h => .inl (List.mem_append_left _ h)⟩
theorem Out.app {σ σ1 σ2 : L2.St} {t1 t2 : List Nat} (a : Out σ σ1 t1) (b : Out σ1 σ2 t2) : Out σ σ2 (t1 ++ t2) := ⟨b.1.trans a.1, fun i hi => by
  rw [List.mem_append, not_or] at hi
  exact (b.2 i hi.2).trans (a.2 i hi.1)⟩
theorem gs_cons {g : Tg} {gs : Tgs} {t1 t2 : List Nat} (h1 : PGv X G ios t1 e g) (h2 : PGsv X G ios t2 es gs) (hs : (assignEach (e :: es) X.env).map (·.2) = assign e X.env :: (assignEach es X.env).map (·.2) := by rfl) : PGsv X G ios (t1 ++ t2) (e :: es) (tgsCons g gs) := by
  refine pgs_imp (pgs_cons h1 h2 hs) fun v σ H Q q => ?_
  obtain ⟨pr, io, s0, s, ts, ot, rfl, hi, r, x, ⟨h, nd, sep⟩, f, q⟩ := q
  cases ts with
  | nil => exact q.elim
  | cons t ts =>
    simp only [TmRs] at h
    obtain ⟨v, vr, o1, o2, rfl, rfl, k1, k2⟩ := h
    simp only [tgsCons] at q
    cases eg : g t s.ρ with
    | none => rw [eg] at q; exact q.elim
    | some ρ1 =>
      rw [eg] at q
      rw [List.nodup_append] at nd
      have f1 : Frs s0 o1 := fun a ha => f a (List.mem_append_left _ ha)
      have f2 : Frs s0 o2 := fun a ha => f a (List.mem_append_right _ ha)
      have sep1 : ∀ a ∈ o1, ¬ s.fz a ∧ ¬ pr a ∧ a ∉ s.os := fun a ha => sep a (List.mem_append_left _ ha)
      refine ⟨v, vr, rfl, pr, io, { s with os := s.os ++ o1 }, s, t, o1, rfl, hi, r, Ext.minus, ⟨loc_of k1, nd.1, sep1⟩, fun a ha => .inl (List.mem_append_right _ ha), ?_⟩
      rw [eg]
      intro σ' s' e1 r' x' o'
      subst e1
      obtain ⟨k2', sep2⟩ := tms_on k2 (o1 := o1) (fun a ha => by
        have := sep a (List.mem_append_right _ ha)
        exact ⟨this.1, this.2.1, this.2.2, fun z => nd.2.2 a z a ha rfl⟩) r (fun a ha => ⟨(sep1 a ha).1, (sep1 a ha).2.1⟩) x'
      refine ⟨pr, io, s0, s', ts, o2, rfl, hi, r', (x.plus f1).trans x', ⟨k2', nd.2.1, sep2⟩, f2, ?_⟩
      dsimp only at q
      cases eg2 : gs ts s'.ρ with
      | none => rw [eg2] at q; exact q.elim
      | some ρ2 => rw [eg2] at q; exact fun σ2 s2 h1 h2 h3 h4 => q σ2 s2 h1 h2 h3 (o'.app h4)
theorem sub_reps {H : Hp} {fz : Addr → Prop} {k : Kd} : ∀ {xs : List D} {vs : List V}, Reps G H (if k = .B then fun a => fz a ∨ pr a else fz) xs vs → TmRs G H fz pr (xs.map (subK k)) vs []
  | [], vs, h => by simp only [Reps] at h; subst h; simp [TmRs]
  | x :: xs, vs, h => by
    simp only [Reps] at h
    obtain ⟨v, r, rfl, h1, h2⟩ := h
    simp only [List.map_cons, TmRs]
    refine ⟨v, r, [], [], rfl, rfl, ?_, sub_reps h2⟩
    cases k <;> simp only [subK, TmR] <;> exact ⟨trivial, by simpa using h1⟩
theorem g_tup {gs : Tgs} {kk n : Nat} {tv : List Nat} (hc : X.calm = true) (h : PGsv X G ios tv es gs) (hlen : ∀ ts ρ ρ', gs ts ρ = some ρ' → ts.length = n) (hn : (assignEach es X.env).length = n := by rfl) (hst : (assignEach es X.env).findIdx? (·.1) = none := by rfl) : PGv X G ios tv (.Tuple es kk pos) (tgTup gs) := by
  refine pg_imp (pg_tup hc h hn hst) fun v σ H Q q => ?_
  obtain ⟨pr, io, s0, s, t, ot, rfl, hi, r, x, p, f, q⟩ := q
  unfold tgTup at q
  cases t with
  | v k d =>
    cases d <;> simp only at q
    case tup xs =>
      have hx : TmR G s.H s.fz pr (.v k (.tup xs)) v ot := p.rel
      obtain ⟨a, vs, rfl, h1, h2⟩ := tup_all hx
      cases eg : gs (xs.map (subK k)) s.ρ with
      | none => rw [eg] at q; exact q.elim
      | some ρ' =>
        rw [eg] at q
        refine ⟨a, vs, rfl, .of h1, ?_, pr, io, s0, s, _, [], rfl, hi, r, x, ⟨sub_reps h2, .nil, fun a ha => by cases ha⟩, Frs.nil, ?_⟩
        · have := hlen _ _ _ eg
          rw [List.length_map] at this
          rw [← h2.len]; exact this
        · rw [eg]; exact q
    all_goals exact q.elim
  | tp ts =>
    have hx : TmR G s.H s.fz pr (.tp ts) v ot := p.rel
    simp only [TmR] at hx
    obtain ⟨a, vs, rfl, h1, h2⟩ := hx
    simp only at q
    cases eg : gs ts s.ρ with
    | none => rw [eg] at q; exact q.elim
    | some ρ' =>
      rw [eg] at q
      refine ⟨a, vs, rfl, .of h1, ?_, pr, io, s0, s, ts, ot, rfl, hi, r, x, ⟨h2, p.nd, p.sep⟩, f, ?_⟩
      · rw [← TmRs.len h2]; exact hlen _ _ _ eg
      · rw [eg]; exact q
  | loc i => exact q.elim
  | ls ts => exact q.elim
  | ob c ts => exact q.elim
theorem len_nil : ∀ (ts : List Tm) (ρ ρ' : Ss), tgsNil ts ρ = some ρ' → ts.length = 0 := fun ts ρ ρ' h => by
  cases ts with
  | nil => rfl
  | cons t ts => simp [tgsNil] at h
theorem len_cons {g : Tg} {gs : Tgs} {n : Nat} (h : ∀ ts ρ ρ', gs ts ρ = some ρ' → ts.length = n) : ∀ (ts : List Tm) (ρ ρ' : Ss), tgsCons g gs ts ρ = some ρ' → ts.length = n + 1 := fun ts ρ ρ' e => by
  cases ts with
  | nil => simp [tgsCons] at e
  | cons t ts =>
    simp only [tgsCons] at e
    split at e
    · simp [h _ _ _ e]
    · cases e
/-- target = e -/
def sAsg (tgt : Tg) (g : Ev) : Sm := fun ρ => (g ρ).toF fun t ρ1 => match tgt t ρ1 with
  | some ρ2 => .nx ρ2
  | none => .no
theorem s_asg {tg : Expr} {tgt : Tg} {tv : List Nat} (ha : PEv X G W ios a ga) (hg : PGv X G ios tv tg tgt) (hs : swapsWithSole [tg] a pos.line X.env = pure false := by rfl) (hw : swappedStores [tg] a X.env = pure none := by rfl)
    (h1 : (assignEach [tg] X.env).map (·.2) = [assign tg X.env] := by rfl) : PSv X G W ios (.Assign [tg] a pos) (sAsg tgt ga) := ps_imp (ps_asg ha hg hs hw h1) fun D σ H q => by
  obtain ⟨pr, io, s, rfl, hi, r, q⟩ := of_tSv q
  refine tEv_of hi r (FlP.toF q fun t v s1 ot r1 x1 p1 f1 q1 => ?_)
  refine ⟨pr, io, s, s1, t, ot, rfl, hi, r1, x1, p1, f1, ?_⟩
  cases e : tgt t s1.ρ with
  | none => rw [e] at q1; exact q1.elim
  | some ρ' => rw [e] at q1; exact fun σ' s' h1 h2 h3 _ => q1 σ' s' h1 h2 h3

/-! ### for -/
def forL (tgt : Tg) (body : Sm) : List Tm → Ss → Fl
  | [], ρ => .nx ρ
  | t :: ts, ρ => match tgt t ρ with
    | some ρ1 => match body ρ1 with
      | .nx ρ2 => forL tgt body ts ρ2
      | .ct ρ2 => forL tgt body ts ρ2
      | .bk ρ2 => .nx ρ2
      | o => o
    | none => .no
/-- what is walked: a value in flight, the items -/
abbrev Iv := Ss → OuL
def sFor (it : Iv) (tgt : Tg) (body : Sm) : Sm := fun ρ => match it ρ with
  | .ok ts ρ1 => forL tgt body ts ρ1
  | .ex e ρ1 => .ex e ρ1
  | .no => .no
/-- what is asked of the walked thing: a walk of those items -/
def tIv (G : Gx) (W : WX) (ios : List Nat) (g : Iv) : TI := fun σ H R => ∃ pr io s, s.H = H ∧ io.map Prod.fst = ios ∧ SR G pr io σ s ∧ match g s.ρ with
  | .ok ts ρ' => ∀ J s1, s1.ρ = ρ' → SR G pr io σ s1 → Ext s s1 → (∃ Gd Y, Walk J ts.length Gd Y ∧ ∀ s2 σ2, SR G pr io σ2 s2 → Ext s1 s2 → Gd s2.H ∧ ∀ i x H', i < ts.length → Y i s2.H x H' →
      ∃ s3 t, s3.H = H' ∧ s3.ρ = s2.ρ ∧ SR G pr io σ2 s3 ∧ Ext s2 s3 ∧ ts[i]? = some t ∧ Tp G pr σ2 s3 t x []) → R J s1.H
  | .ex e ρ' => ∀ cls d s', s'.ρ = ρ' → SR G pr io σ s' → Ext s s' → ErR G s'.H s'.fz e cls d → W cls d σ s'.H
  | .no => False
abbrev PIv (X : Cx) (G : Gx) (W : WX) (ios : List Nat) (tg it : Expr) (g : Iv) : Prop := PI X tg it (tIv G W ios g)
theorem s_for {tg iter : Expr} {body : List Stmt} {it : Iv} {tgt : Tg} {gb : Sm} {tv : List Nat} (hp : PassesOwn (model X.prog X.w) X.A X.env X.xe) (hc : X.calm = true) (hit : PIv X G W ios tg iter it) (hg : PGv X G ios tv tg tgt) (hb : PBv X G W ios body gb)
    (hs : ∀ x, foldedSetIterable iter X.env x = pure x := by intro _; rfl) : PSv X G W ios (.For tg iter body [] pos) (sFor it tgt gb) := ps_imp (ps_for hp hc hit hg hb hs) fun D σ H q => by
  obtain ⟨pr, io, s, rfl, hi, r, q⟩ := of_tSv q
  refine ⟨pr, io, s, rfl, hi, r, ?_⟩
  unfold sFor at q
  cases e : it s.ρ with
  | no => rw [e] at q; exact q.elim
  | ex e' ρ' => rw [e] at q; exact fun cls d s' h1 h2 h3 h4 => q cls d σ s' h1 h2 h3 h4
  | ok ts ρ' =>
    rw [e] at q
    simp only at q
    intro J s1 e1 r1 x1 ⟨Gd, Y, w, hw⟩
    subst e1
    refine for_it w (fun i σ2 H2 => ∃ s2, s2.H = H2 ∧ SR G pr io σ2 s2 ∧ Ext s1 s2 ∧ FlP G W pr io s2 (forL tgt gb (ts.drop i) s2.ρ) D) ⟨s1, rfl, r1, Ext.refl _, by simpa using FlP.later q x1⟩ ?_ ?_ ?_
    · rintro i σ2 H2 _ ⟨s2, rfl, r2, x2, _⟩
      exact (hw s2 σ2 r2 x2).1
    · rintro i x σ2 H2 H' hlt ⟨s2, rfl, r2, x2, q2⟩ y
      obtain ⟨s3, t, rfl, e3, r3, x3, e4, p3⟩ := (hw s2 σ2 r2 x2).2 i x H' hlt y
      have ed : ts.drop i = t :: ts.drop (i + 1) := by
        rw [List.drop_eq_getElem_cons hlt]
        rw [List.getElem?_eq_getElem hlt] at e4
        cases e4
        rfl
      rw [ed] at q2
      simp only [forL] at q2
      refine ⟨pr, io, s3, s3, t, [], rfl, hi, r3, Ext.refl _, p3, Frs.nil, ?_⟩
      rw [← e3] at q2
      cases eg : tgt t s3.ρ with
      | none => rw [eg] at q2; exact q2.elim
      | some ρ1 =>
        rw [eg] at q2
        intro σ4 s4 e4 r4 x4 _
        subst e4
        refine tSv_of hi r4 ?_
        have q4 := FlP.later q2 (x3.trans x4)
        dsimp only at q4
        have x14 : Ext s1 s4 := (x2.trans x3).trans x4
        cases eb : gb s4.ρ with
        | nx ρ' => rw [eb] at q4; exact fun σ5 s5 e5 r5 x5 => by subst e5; exact ⟨s5, rfl, r5, x14.trans x5, FlP.later q4 x5⟩
        | ct ρ' => rw [eb] at q4; exact fun σ5 s5 e5 r5 x5 => by subst e5; exact ⟨s5, rfl, r5, x14.trans x5, FlP.later q4 x5⟩
        | bk ρ' => rw [eb] at q4; exact q4
        | rt t' ρ' => rw [eb] at q4; exact q4
        | ex e' ρ' => rw [eb] at q4; exact q4
        | no => rw [eb] at q4; exact q4
    · rintro σ2 H2 ⟨s2, rfl, r2, x2, q2⟩
      rw [List.drop_length] at q2
      exact q2 σ2 s2 rfl r2 (Ext.refl _)
end
end PV

namespace PV
open PySem PySem.Spec L2

section
variable {G : Gx} {W : WX} {pr : Addr → Prop} {io : List (Nat × V)} {σ : L2.St} {s s1 : Sx} {ios : List Nat} {X : Cx} {a b c e tg : Expr} {pos p : Pos} {ga gb gc : Ev}

/-! ### what is walked -/
/-- a list or a tuple, by the expression's value -/
def iSeq (K : PySem.W.Frag) (tl : TE) : TI := fun σ H R => tl σ H fun x H1 => ∃ a, x = .ref a ∧ (((∃ xs, SqL K H1 a xs) ∧ R (Itl K a) H1) ∨ ((∃ xs, SqT K H1 a xs) ∧ R (Itt K a) H1))
theorem pi_seq {l : Expr} {tl : TE} (hl : PE X l tl) : PI X tg l (iSeq X.K tl) := by
  refine ⟨fun pins s σ H R I h => ?_⟩
  refine thn (hl.run pins s σ H _ I h) fun v s1 ⟨x, H1, I1, r1, q1⟩ => ?_
  obtain ⟨a, e, ⟨⟨xs, hq⟩, q⟩ | ⟨⟨xs, hq⟩, q⟩⟩ := q1
  · subst e
    cases r1
    obtain ⟨its, rv, p, hz⟩ := I1.list hq
    refine wpAny_pyIter_list p.isList ?_
    refine ⟨s1.heap.objs.size, [s1.heap.objs.size], _, _, H1, rfl, I1.kept (t' := s1.toks) fun b o e => Heap.get?_push_of_some _ e, turn_list a _, ⟨_, Heap.get?_push_size _ rfl, rfl, rfl⟩, fun b hb => ?_, q⟩
    have e : b = s1.heap.objs.size := by simpa using hb
    subst e
    exact I1.fpOk (Nat.le_refl _) (I1.hok.fresh (Nat.le_refl _))
  · subst e
    cases r1
    obtain ⟨its, rv, p, hz⟩ := I1.tuple hq
    refine wpAny_pyIter_tuple (show s1.heap.IsTuple a its.toArray from p) ?_
    refine ⟨s1.heap.objs.size, [s1.heap.objs.size], _, _, H1, rfl, I1.kept (t' := s1.toks) fun b o e => Heap.get?_push_of_some _ e, turn_tuple a _, ⟨_, Heap.get?_push_size _ rfl, rfl, rfl⟩, fun b hb => ?_, q⟩
    have e : b = s1.heap.objs.size := by simpa using hb
    subst e
    exact I1.fpOk (Nat.le_refl _) (I1.hok.fresh (Nat.le_refl _))
/-- items of a list or tuple that stands still -/
def itemsT : Tm → Option (List Tm)
  | .v k (.lst xs) => some (xs.map (subK k))
  | .v k (.tup xs) => some (xs.map (subK k))
  | _ => none
/-- for x in (a list, a tuple): one that no name owns -/
def itSeq (g : Ev) : Iv := fun ρ => (g ρ).bindL fun t ρ1 => match itemsT t with
  | some ts => .ok ts ρ1
  | none => .no
theorem sub_tm {H : Hp} {fz : Addr → Prop} {k : Kd} {d : D} {v : V} (h : Rep G H (if k = .B then fun a => fz a ∨ pr a else fz) d v) : TmR G H fz pr (subK k d) v [] := by
  cases k <;> simp only [subK, TmR] <;> exact ⟨trivial, by simpa using h⟩
theorem tp_sub {k : Kd} {d : D} {v : V} (h : Rep G s.H (if k = .B then fun a => s.fz a ∨ pr a else s.fz) d v) : Tp G pr σ s (subK k d) v [] := ⟨loc_of (sub_tm h), .nil, fun a ha => by cases ha⟩
/-- the data in flight stands still through what comes later -/
theorem Tp.reps {k : Kd} {xs : List D} {vs : List V} {v : V} {ot : List Addr} {s2 : Sx} (r1 : SR G pr io σ s1) (h : Reps G s1.H (if k = .B then fun a => s1.fz a ∨ pr a else s1.fz) xs vs) (x : Ext s1 s2) : Reps G s2.H (if k = .B then fun a => s2.fz a ∨ pr a else s2.fz) xs vs := by
  refine Reps.keep (fun a p => ?_) (fun a o p e => x.keep a o e fun z => ?_) x.tk _ _ h
  · by_cases hk : k = .B
    · rw [if_pos hk] at p ⊢; exact p.imp (x.fz a) id
    · rw [if_neg hk] at p ⊢; exact x.fz a p
  · by_cases hk : k = .B
    · rw [if_pos hk] at p; exact p.elim (r1.sep a z).1 (r1.sep a z).2
    · rw [if_neg hk] at p; exact (r1.sep a z).1 p
theorem i_seq (ha : PEv X G W ios a ga) (hK : G.K = X.K) : PIv X G W ios tg a (itSeq ga) := by
  refine ⟨fun pins s σ H R I q => (pi_seq (tg := tg) ha).run pins s σ H R I ?_⟩
  obtain ⟨pr, io, s, rfl, hi, r, q⟩ := q
  have q' : OuLP G W pr io σ s ((ga s.ρ).bindL fun t ρ1 => match itemsT t with | some ts => .ok ts ρ1 | none => .no) (fun _ _ => True) ∨ True := .inr trivial
  refine tEv_of hi r ?_
  unfold itSeq at q
  cases eg : ga s.ρ with
  | no => rw [eg] at q; exact q.elim
  | ex e ρ' => rw [eg] at q; exact q
  | ok t ρ' =>
    rw [eg] at q
    intro v s1 ot e1 r1 x1 p1 f1
    subst e1
    simp only [Ou.bindL] at q
    cases t with
    | v k d =>
      cases d <;> simp only [itemsT] at q
      case tup xs =>
        obtain ⟨a, vs, rfl, h1, h2⟩ := tup_all (show TmR G s1.H s1.fz pr (.v k (.tup xs)) v ot from p1.rel)
        refine ⟨a, rfl, .inr ⟨⟨vs, .of h1⟩, q _ s1 rfl r1 x1 ⟨fun H => SqT X.K H a vs, YAt vs, ?_, fun s2 σ2 r2 x2 => ⟨SqT.of (x2.tk.1 _ _ h1), fun i x H' hlt y => ?_⟩⟩⟩⟩
        · rw [List.length_map, h2.len]; exact walk_tup
        · obtain ⟨rfl, hx⟩ := y
          rw [List.length_map] at hlt
          have h2' := Tp.reps (v := .non) (ot := []) r1 h2 x2
          obtain ⟨w, hw, hd⟩ := h2'.get (List.getElem?_eq_getElem hlt)
          rw [hx] at hw; cases hw
          exact ⟨s2, _, rfl, rfl, r2, Ext.refl _, by rw [List.getElem?_map, List.getElem?_eq_getElem hlt]; rfl, tp_sub hd⟩
      case lst xs =>
        obtain ⟨a, vs, rfl, h1, h2⟩ := lst_all (show TmR G s1.H s1.fz pr (.v k (.lst xs)) v ot from p1.rel)
        have hno : a ∉ s1.os := by
          have hh : TmR G s1.H s1.fz pr (.v k (.lst xs)) (.ref a) ot := p1.rel
          cases k with
          | F =>
            simp only [TmR, Rep] at hh
            obtain ⟨_, b, _, eb, hb, _⟩ := hh
            cases eb
            exact fun z => (r1.sep a z).1 hb
          | B =>
            simp only [TmR, Rep] at hh
            obtain ⟨_, b, _, eb, hb, _⟩ := hh
            cases eb
            exact fun z => hb.elim (r1.sep a z).1 (r1.sep a z).2
          | O =>
            simp only [TmR, RepO] at hh
            obtain ⟨b, _, eb, hb, _⟩ := hh
            cases eb
            exact (p1.sep a (by rw [hb]; simp)).2.2
        refine ⟨a, rfl, .inl ⟨⟨vs, .of h1⟩, q _ s1 rfl r1 x1 ⟨fun H => SqL X.K H a vs, YAt vs, ?_, fun s2 σ2 r2 x2 => ⟨SqL.of (x2.keep _ _ h1 hno), fun i x H' hlt y => ?_⟩⟩⟩⟩
        · rw [List.length_map, h2.len]; exact walk_list
        · obtain ⟨rfl, hx⟩ := y
          rw [List.length_map] at hlt
          have h2' := Tp.reps (v := .non) (ot := []) r1 h2 x2
          obtain ⟨w, hw, hd⟩ := h2'.get (List.getElem?_eq_getElem hlt)
          rw [hx] at hw; cases hw
          exact ⟨s2, _, rfl, rfl, r2, Ext.refl _, by rw [List.getElem?_map, List.getElem?_eq_getElem hlt]; rfl, tp_sub hd⟩
      all_goals exact q.elim
    | loc i => exact q.elim
    | tp ts => exact q.elim
    | ls ts => exact q.elim
    | ob c ts => exact q.elim
/-- range(n), range(lo, hi) -/
def rngL (lo : Int) (n : Nat) : List Tm := (List.range n).map fun (i : Nat) => Tm.v .F (.int (lo + (i : Int)))
def itR1 (g : Ev) : Iv := fun ρ => (g ρ).bindL fun t ρ1 => match asI t with
  | some j => if -(2 ^ 62) ≤ j ∧ j < 2 ^ 62 then .ok (rngL 0 j.toNat) ρ1 else .no
  | none => .no
def itR2 (ga gb : Ev) : Iv := fun ρ => (ga ρ).bindL fun t ρ1 => (gb ρ1).bindL fun u ρ2 => match asI t, asI u with
  | some i, some j => if -(2 ^ 62) ≤ i ∧ i < 2 ^ 62 ∧ -(2 ^ 62) ≤ j ∧ j < 2 ^ 62 then .ok (rngL i (j - i).toNat) ρ2 else .no
  | _, _ => .no
theorem walk_rng {lo : Int} {n : Nat} : ∃ Gd Y, Walk (Itr lo n) (rngL lo n).length Gd Y ∧ ∀ s2 σ2, SR G pr io σ2 s2 → Ext s1 s2 → Gd s2.H ∧ ∀ i x H', i < (rngL lo n).length → Y i s2.H x H' →
      ∃ s3 t, s3.H = H' ∧ s3.ρ = s2.ρ ∧ SR G pr io σ2 s3 ∧ Ext s2 s3 ∧ (rngL lo n)[i]? = some t ∧ Tp G pr σ2 s3 t x [] := by
  have hl : (rngL lo n).length = n := by simp [rngL]
  refine ⟨_, _, by rw [hl]; exact walk_range, fun s2 σ2 r2 x2 => ⟨trivial, fun i x H' hlt y => ?_⟩⟩
  rw [hl] at hlt
  obtain ⟨rfl, rfl⟩ := y
  refine ⟨s2, .v .F (.int (lo + i)), rfl, rfl, r2, Ext.refl _, by simp [rngL, hlt], ⟨?_, .nil, fun a ha => by cases ha⟩⟩
  show TmR _ _ _ _ _ _ _
  simp only [TmR, Rep]
  exact ⟨trivial, trivial⟩
theorem i_r1 (hm : X.mg "range" = none) (ha : PEv X G W ios a ga) (hg : Gl X "range" := by rfl) (hs : starEach [a] X.env = [(false, eval a X.env)] := by rfl) : PIv X G W ios tg (.Call (.Name "range" p) [a] [] pos) (itR1 ga) := by
  refine ⟨fun pins s σ H R I q => (pi_range1 (tg := tg) hg hm (pa_cons ha pa_nil hs) hs).run pins s σ H R I ?_⟩
  obtain ⟨pr, io, s, rfl, hi, r, q⟩ := q
  refine tEv_of hi r ?_
  unfold itR1 at q
  cases eg : ga s.ρ with
  | no => rw [eg] at q; exact q.elim
  | ex e ρ' => rw [eg] at q; exact q
  | ok t ρ' =>
    rw [eg] at q
    intro v s1 ot e1 r1 x1 p1 f1
    subst e1
    simp only [Ou.bindL] at q
    cases ei : asI t with
    | none => rw [ei] at q; exact q.elim
    | some j =>
      rw [ei] at q
      have ev := asI_of p1 ei
      subst ev
      simp only at q
      by_cases hj : -(2 ^ 62) ≤ j ∧ j < 2 ^ 62
      · rw [if_pos hj] at q
        exact ⟨j, rfl, hj.1, hj.2, q _ s1 rfl r1 x1 walk_rng⟩
      · rw [if_neg hj] at q
        exact q.elim
/-! ### while -/
def whileN : Nat → Ev → Sm → Ss → Fl
  | 0, _, _, _ => .no
  | n + 1, gc, gb, ρ => (gc ρ).toF fun t ρ1 => match asB t with
    | some true => match gb ρ1 with
      | .nx ρ2 => whileN n gc gb ρ2
      | .ct ρ2 => whileN n gc gb ρ2
      | .bk ρ2 => .nx ρ2
      | o => o
    | some false => .nx ρ1
    | none => .no
def sWhile (n : Nat) (gc : Ev) (gb : Sm) : Sm := whileN n gc gb
end
end PV

namespace PV
open PySem PySem.Spec L2

/-! ### comprehensions -/
def wipeS (ρ : Ss) : List Nat → Ss
  | [] => ρ
  | v :: vs => (wipeS ρ vs).set v none
/-- the block's own names get back what they held outside -/
def restS (ρ0 ρ : Ss) : List Nat → Ss
  | [] => ρ
  | v :: vs => (restS ρ0 ρ vs).set v (match ρ0[v]? with | some o => o | none => none)
def hideOk (ρ : Ss) (v : Nat) : Bool := match ρ[v]? with
  | some none => true
  | some (some (.v .F _)) => true
  | some (some (.v .B _)) => true
  | _ => false
def compL (tgt : Tg) (test elt : Ev) (vs : List Nat) : List Tm → Ss → Option (List D × Ss)
  | [], ρ => some ([], wipeS ρ vs)
  | t :: ts, ρ => match tgt t (wipeS ρ vs) with
    | some ρ1 => match test ρ1 with
      | .ok b ρ2 => match asB b with
        | some true => match elt ρ2 with
          | .ok x ρ3 => match frz x with
            | some d => match compL tgt test elt vs ts ρ3 with
              | some (ds, ρ4) => some (d :: ds, ρ4)
              | none => none
            | none => none
          | _ => none
        | some false => compL tgt test elt vs ts ρ2
        | none => none
      | _ => none
    | none => none
def eTrue : Ev := fun ρ => .ok (.v .F (.bl true)) ρ
def eComp (it : Iv) (vs : List Nat) (tgt : Tg) (test elt : Ev) : Ev := fun ρ => match it ρ with
  | .ok ts ρ1 => if vs.all (hideOk ρ1) = true then match compL tgt test elt vs ts ρ1 with
    | some (ds, ρ2) => if ds.length ≤ sizeLine then .ok (.v .O (.lst ds)) (restS ρ1 ρ2 vs) else .no
    | none => .no
    else .no
  | .ex e ρ1 => .ex e ρ1
  | .no => .no
abbrev W0 : WX := fun _ _ _ _ => False
theorem takesW0 {X : Cx} : L2N.Takes X W0 := fun _ _ x => by
  obtain ⟨_, _, _, _, _, _, _, _, _, _, _, _, _, _, _, _, z⟩ := x
  exact z.elim
section
variable {G : Gx} {W : WX} {pr : Addr → Prop} {io : List (Nat × V)} {σ : L2.St} {s s1 : Sx} {ios : List Nat} {X : Cx} {a b c e tg : Expr} {pos p : Pos} {ga gb gc : Ev}
/-- a name forgotten -/
theorem Sl.forget {H : Hp} {fz : Addr → Prop} : ∀ {ρ : Ss} {σ : L2.St} {os : List Addr} (i : Nat), Sl G H fz pr ρ σ os → ∃ os', Sl G H fz pr (ρ.set i none) (σ.set i none) os' ∧ (∀ a ∈ os', a ∈ os) ∧ (os.Nodup → os'.Nodup)
  | [], σ, os, i, h => by simp only [Sl] at h; obtain ⟨rfl, rfl⟩ := h; exact ⟨[], by simp [Sl], fun a ha => ha, id⟩
  | none :: ρ, σ, os, 0, h => by
    simp only [Sl] at h
    obtain ⟨x, r, rfl, h⟩ := h
    exact ⟨os, by simp only [List.set_cons_zero, Sl]; exact ⟨_, r, rfl, h⟩, fun a ha => ha, id⟩
  | none :: ρ, σ, os, i + 1, h => by
    simp only [Sl] at h
    obtain ⟨x, r, rfl, h⟩ := h
    obtain ⟨os', k1, k2, k3⟩ := Sl.forget i h
    exact ⟨os', by simp only [List.set_cons_succ, Sl]; exact ⟨x, _, rfl, k1⟩, k2, k3⟩
  | some t :: ρ, σ, os, 0, h => by
    simp only [Sl] at h
    obtain ⟨v, r, o1, o2, rfl, rfl, h1, h2⟩ := h
    exact ⟨o2, by simp only [List.set_cons_zero, Sl]; exact ⟨_, r, rfl, h2⟩, fun a ha => List.mem_append_right _ ha, fun nd => (List.nodup_append.mp nd).2.1⟩
  | some t :: ρ, σ, os, i + 1, h => by
    simp only [Sl] at h
    obtain ⟨v, r, o1, o2, rfl, rfl, h1, h2⟩ := h
    obtain ⟨os', k1, k2, k3⟩ := Sl.forget i h2
    refine ⟨o1 ++ os', by simp only [List.set_cons_succ, Sl]; exact ⟨v, _, o1, os', rfl, rfl, h1, k1⟩, fun a ha => ?_, fun nd => ?_⟩
    · rcases List.mem_append.mp ha with h | h
      · exact List.mem_append_left _ h
      · exact List.mem_append_right _ (k2 a h)
    · rw [List.nodup_append] at nd ⊢
      exact ⟨nd.1, k3 nd.2.1, fun a ha b hb => nd.2.2 a ha b (k2 b hb)⟩
theorem Sl.wipe {H : Hp} {fz : Addr → Prop} {ρ : Ss} {σ : L2.St} {os : List Addr} (h : Sl G H fz pr ρ σ os) : ∀ vs, ∃ os', Sl G H fz pr (wipeS ρ vs) (L2.wipe σ vs) os' ∧ (∀ a ∈ os', a ∈ os) ∧ (os.Nodup → os'.Nodup)
  | [] => ⟨os, h, fun a ha => ha, id⟩
  | v :: vs => by
    obtain ⟨os', k1, k2, k3⟩ := Sl.wipe h vs
    obtain ⟨os2, m1, m2, m3⟩ := Sl.forget v k1
    exact ⟨os2, m1, fun a ha => k2 a (m2 a ha), fun nd => m3 (k3 nd)⟩
theorem wipe_get {σ : L2.St} {i : Nat} : ∀ {vs : List Nat}, i ∉ vs → (L2.wipe σ vs)[i]? = σ[i]?
  | [], _ => rfl
  | v :: vs, h => by
    rw [List.mem_cons, not_or] at h
    show ((L2.wipe σ vs).set v none)[i]? = _
    rw [List.getElem?_set_ne (Ne.symm h.1), wipe_get h.2]
theorem SR.wipe (r : SR G pr io σ s) {vs : List Nat} (hio : ∀ v ∈ vs, v ∉ io.map Prod.fst) : ∃ os', SR G pr io (L2.wipe σ vs) { s with ρ := wipeS s.ρ vs, os := os' } ∧ ∀ a ∈ os', a ∈ s.os := by
  obtain ⟨os', k1, k2, k3⟩ := r.sl.wipe vs
  refine ⟨os', ⟨k1, k3 r.nd, fun a ha => r.sep a (k2 a ha), r.dom, fun p hp => ?_⟩, k2⟩
  rw [wipe_get fun z => hio p.1 z (List.mem_map_of_mem hp)]
  exact r.iov p hp
/-- slots exchanged for such as nobody owns -/
theorem Sl.mix {H : Hp} {fz : Addr → Prop} : ∀ {ρ ρf : Ss} {σ σf : L2.St} {os : List Addr}, Sl G H fz pr ρ σ os → ρf.length = ρ.length → σf.length = σ.length →
    (∀ i, i < ρ.length → (ρf[i]? = ρ[i]? ∧ σf[i]? = σ[i]?) ∨ ∃ o x, ρf[i]? = some o ∧ σf[i]? = some x ∧ ∀ t, o = some t → ∃ v, x = some v ∧ TmR G H fz pr t v []) → ∃ os', Sl G H fz pr ρf σf os' ∧ (∀ a ∈ os', a ∈ os) ∧ (os.Nodup → os'.Nodup)
  | [], ρf, σ, σf, os, h, h1, h2, hi => by
    simp only [Sl] at h
    obtain ⟨rfl, rfl⟩ := h
    have e1 : ρf = [] := by simpa using h1
    have e2 : σf = [] := by simpa using h2
    subst e1 e2
    exact ⟨[], by simp [Sl], fun a ha => ha, id⟩
  | o0 :: ρ, ρf, σ, σf, os, h, h1, h2, hi => by
    have tail : ∃ y r os2, σ = y :: r ∧ Sl G H fz pr ρ r os2 ∧ (∀ a ∈ os2, a ∈ os) ∧ (os.Nodup → os2.Nodup) := by
      cases o0 with
      | none => simp only [Sl] at h; obtain ⟨y, r, rfl, h⟩ := h; exact ⟨y, r, os, rfl, h, fun a ha => ha, id⟩
      | some t => simp only [Sl] at h; obtain ⟨v, r, o1, o2, rfl, rfl, h1, h2⟩ := h; exact ⟨_, r, o2, rfl, h2, fun a ha => List.mem_append_right _ ha, fun nd => (List.nodup_append.mp nd).2.1⟩
    cases ρf with
    | nil => simp at h1
    | cons of ρf =>
      cases σf with
      | nil => obtain ⟨y, r, os2, rfl, _⟩ := tail; simp at h2
      | cons xf σf =>
        have recu : ∀ {r : L2.St} {os2 : List Addr}, σ.tail = r → Sl G H fz pr ρ r os2 → ∃ os', Sl G H fz pr ρf σf os' ∧ (∀ a ∈ os', a ∈ os2) ∧ (os2.Nodup → os'.Nodup) := fun {r os2} er hs => by
          subst er
          refine Sl.mix hs (by simpa using h1) (by simp only [List.length_cons, List.length_tail] at h2 ⊢; omega) fun i hlt => ?_
          rcases hi (i + 1) (by simpa using hlt) with ⟨k1, k2⟩ | ⟨o, x, k1, k2, k3⟩
          · refine .inl ⟨by simpa using k1, ?_⟩
            simp only [List.getElem?_cons_succ] at k2
            rw [k2, List.getElem?_tail]
          · exact .inr ⟨o, x, by simpa using k1, by simpa using k2, k3⟩
        rcases hi 0 (by simp) with ⟨k1, k2⟩ | ⟨o, x, k1, k2, k3⟩
        · have e1 : of = o0 := by simpa using k1
          subst e1
          cases of with
          | none =>
            simp only [Sl] at h
            obtain ⟨y, r, rfl, h⟩ := h
            have e2 : xf = y := by simpa using k2
            subst e2
            obtain ⟨os', m1, m2, m3⟩ := recu rfl h
            exact ⟨os', by simp only [Sl]; exact ⟨_, _, rfl, m1⟩, m2, m3⟩
          | some t =>
            simp only [Sl] at h
            obtain ⟨v, r, o1, o2, rfl, rfl, p1, p2⟩ := h
            have e2 : xf = some v := by simpa using k2
            subst e2
            obtain ⟨os', m1, m2, m3⟩ := recu rfl p2
            refine ⟨o1 ++ os', by simp only [Sl]; exact ⟨v, _, o1, os', rfl, rfl, p1, m1⟩, fun a ha => ?_, fun nd => ?_⟩
            · rcases List.mem_append.mp ha with h | h
              · exact List.mem_append_left _ h
              · exact List.mem_append_right _ (m2 a h)
            · rw [List.nodup_append] at nd ⊢
              exact ⟨nd.1, m3 nd.2.1, fun a ha b hb => nd.2.2 a ha b (m2 b hb)⟩
        · obtain ⟨y, r, os2, rfl, t1, t2, t3⟩ := tail
          have e1 : of = o := by simpa using k1
          have e2 : xf = x := by simpa using k2
          subst e1 e2
          obtain ⟨os', m1, m2, m3⟩ := recu rfl t1
          refine ⟨os', ?_, fun a ha => t2 a (m2 a ha), fun nd => m3 (t3 nd)⟩
          cases of with
          | none => simp only [Sl]; exact ⟨_, _, rfl, m1⟩
          | some t =>
            obtain ⟨v, rfl, ht⟩ := k3 t rfl
            simp only [Sl]
            exact ⟨v, _, [], os', rfl, rfl, ht, m1⟩
/-- what a hidden slot holds -/
theorem hide_tm (r : SR G pr io σ s) {v : Nat} (h : hideOk s.ρ v = true) : ∃ o, s.ρ[v]? = some o ∧ ∀ t, o = some t → ∃ x, σ[v]? = some (some x) ∧ TmR G s.H s.fz pr t x [] := by
  unfold hideOk at h
  cases e : s.ρ[v]? with
  | none => rw [e] at h; cases h
  | some o =>
    rw [e] at h
    refine ⟨o, rfl, fun t ht => ?_⟩
    subst ht
    obtain ⟨x, o1, o2, o3, e1, e2, ht, _⟩ := Sl.get r.sl e
    have : o2 = [] := by
      cases t with
      | v k d => cases k <;> simp only [TmR] at ht <;> first | exact ht.1 | (simp at h)
      | _ => simp at h
    subst this
    exact ⟨x, e1, ht⟩
theorem rest_len (ρ0 ρ : Ss) : ∀ vs, (restS ρ0 ρ vs).length = ρ.length
  | [] => rfl
  | v :: vs => by simp [restS, rest_len ρ0 ρ vs]
theorem rest_out {ρ0 ρ : Ss} {i : Nat} : ∀ {vs : List Nat}, i ∉ vs → (restS ρ0 ρ vs)[i]? = ρ[i]?
  | [], _ => rfl
  | v :: vs, h => by
    rw [List.mem_cons, not_or] at h
    show ((restS ρ0 ρ vs).set v _)[i]? = _
    rw [List.getElem?_set_ne (Ne.symm h.1), rest_out h.2]
theorem rest_in {ρ0 ρ : Ss} {i : Nat} {o : Option Tm} (e : ρ0[i]? = some o) (hi : i < ρ.length) : ∀ {vs : List Nat}, i ∈ vs → (restS ρ0 ρ vs)[i]? = some o
  | [], h => by cases h
  | v :: vs, h => by
    show ((restS ρ0 ρ vs).set v _)[i]? = _
    by_cases hv : v = i
    · subst hv
      rw [List.getElem?_set_self (by rw [rest_len]; exact hi), e]
    · rw [List.getElem?_set_ne hv]
      rcases List.mem_cons.mp h with h | h
      · exact absurd h.symm hv
      · exact rest_in e hi h
/-- behind a comprehension -/
theorem SR.rest {s2 : Sx} {vs : List Nat} (r1 : SR G pr io σ s1) (x : Ext s1 s2) (hv : vs.all (hideOk s1.ρ) = true) (r2 : SR G pr io (L2.wipe σ vs) s2) : ∃ os', SR G pr io σ { s2 with ρ := restS s1.ρ s2.ρ vs, os := os' } ∧ ∀ a ∈ os', a ∈ s2.os := by
  have hl1 : s1.ρ.length = σ.length := Sl.len r1.sl
  have hl2 : s2.ρ.length = σ.length := by have := Sl.len r2.sl; rw [this, L2.wipe_length]
  obtain ⟨os', k1, k2, k3⟩ := Sl.mix (ρf := restS s1.ρ s2.ρ vs) (σf := σ) r2.sl (rest_len _ _ _) (by rw [L2.wipe_length]) fun i hlt => by
    by_cases hm : i ∈ vs
    · have hh := List.all_eq_true.mp hv i hm
      obtain ⟨o, e1, e2⟩ := hide_tm r1 hh
      have hs : σ[i]? = some (σ[i]'(by omega)) := List.getElem?_eq_getElem (by omega)
      refine .inr ⟨o, _, rest_in e1 hlt hm, hs, fun t ht => ?_⟩
      obtain ⟨v, h1, h2⟩ := e2 t ht
      rw [hs] at h1
      refine ⟨v, Option.some.inj h1, ?_⟩
      exact TmR.keep x.fz (fun a p => .inr p) x.tk _ _ _ (fun a o p e => x.keep a o e fun z => by
        rcases p with p | p | p
        · cases p
        · exact (r1.sep a z).1 p
        · exact (r1.sep a z).2 p) h2
    · exact .inl ⟨rest_out hm, (wipe_get hm).symm⟩
  exact ⟨os', ⟨k1, k3 r2.nd, fun a ha => r2.sep a (k2 a ha), r2.dom, r1.iov⟩, k2⟩
theorem Ext.less {os' : List Addr} {ρ : Ss} (x : Ext s s1) (h : ∀ a ∈ os', a ∈ s1.os) : Ext s { s1 with ρ := ρ, os := os' } := ⟨x.keep, x.dom, x.tk, x.fz, x.fzo, fun a ha => x.oso a (h a ha)⟩
theorem wipe_wipe {σ : L2.St} {vs : List Nat} {σ2 : L2.St} (hl : σ2.length = σ.length) (h : ∀ i, i ∉ vs → σ2[i]? = σ[i]?) : L2.wipe σ2 vs = L2.wipe σ vs := by
  apply List.ext_getElem?
  intro i
  by_cases hm : i ∈ vs
  · have go : ∀ {τ : L2.St} {vs : List Nat}, i ∈ vs → i < τ.length → (L2.wipe τ vs)[i]? = some none := by
      intro τ vs
      induction vs with
      | nil => intro h; cases h
      | cons v vs ih =>
        intro h hlt
        show ((L2.wipe τ vs).set v none)[i]? = _
        by_cases hv : v = i
        · subst hv; rw [List.getElem?_set_self (by rw [L2.wipe_length]; exact hlt)]
        · rw [List.getElem?_set_ne hv]
          rcases List.mem_cons.mp h with h | h
          · exact absurd h.symm hv
          · exact ih h hlt
    by_cases hi : i < σ.length
    · rw [go hm (by omega), go hm hi]
    · rw [List.getElem?_eq_none (by rw [L2.wipe_length]; omega), List.getElem?_eq_none (by rw [L2.wipe_length]; omega)]
  · rw [wipe_get hm, wipe_get hm, h i hm]
/-- a list that nobody knows is changed -/
theorem SR.updD (r : SR G pr io σ s) {d : Addr} {o : HO} (h1 : ¬ s.fz d) (h2 : ¬ pr d) (h3 : d ∉ s.os) (ht : ∀ vs, s.H d ≠ some (.tup vs)) (hf : ∀ o u, s.H d ≠ some (.frz o (.lst u))) : SR G pr io σ { s with H := upd s.H d o } ∧ Tk s.H (upd s.H d o) := by
  have tk : Tk s.H (upd s.H d o) := ⟨fun a vs e => by rw [upd_ne (by rintro rfl; exact ht vs e)]; exact e, fun a o' u e => by rw [upd_ne (by rintro rfl; exact hf o' u e)]; exact e⟩
  refine ⟨⟨Sl.keep (fun _ h => h) (fun _ h => .inr h) tk (fun a u p e => ?_) r.sl, r.nd, r.sep, fun a h => ?_, r.iov⟩, tk⟩
  · show upd _ _ _ _ = _
    rw [upd_ne]
    · exact e
    · rintro rfl
      rcases p with p | p | p
      · exact h3 p
      · exact h1 p
      · exact h2 p
  · show upd _ _ _ _ ≠ none
    by_cases z : a = d
    · subst z; rw [upd_same]; simp
    · rw [upd_ne z]; exact r.dom a h
theorem t_yes : PTs X [] (tTest (tEv G W0 ios eTrue)) := ⟨fun pins s σ H Q I q => pts_nil.run pins s σ H Q I (by
  obtain ⟨pr, io, s, rfl, hi, r, q⟩ := of_tEv q
  exact q.isB r)⟩
theorem t_one (h : PTv X G W0 ios c gc) : PTs X [c] (tTest (tEv G W0 ios gc)) := pts_one h
theorem comp_read {wi : TI} {it : Iv} {vs tv : List Nat} {tgt : Tg} {test elt : Ev} (hwi : wi = tIv G W ios it) (htv : ∀ i ∈ tv, i ∈ vs) (hio : ∀ v ∈ vs, v ∉ ios) {H : Hp} {Q : VK} (q : tEv G W ios (eComp it vs tgt test elt) σ H Q) :
    tLc wi (gTg G ios tv tgt) (tTest (tEv G W0 ios test)) (tEv G W0 ios elt) vs σ H Q := by
  subst hwi
  obtain ⟨pr, io, s, rfl, hi, r, q⟩ := of_tEv q
  unfold eComp at q
  refine ⟨pr, io, s, rfl, hi, r, ?_⟩
  cases eit : it s.ρ with
  | no => rw [eit] at q; exact q.elim
  | ex e ρ' => rw [eit] at q; exact q
  | ok ts ρ' =>
    rw [eit] at q
    dsimp only at q ⊢
    intro J s1 e1 r1 x1 ⟨Gd, Y, w, hw⟩
    subst e1
    by_cases hv : vs.all (hideOk s1.ρ) = true
    · rw [if_pos hv] at q
      cases ec : compL tgt test elt vs ts s1.ρ with
      | none => rw [ec] at q; exact q.elim
      | some res =>
        obtain ⟨ds, ρfin⟩ := res
        rw [ec] at q
        dsimp only at q
        by_cases hds : ds.length ≤ sizeLine
        · rw [if_pos hds] at q
          intro L hL
          have fr := r1.fresh hL
          have hio' : ∀ v ∈ vs, v ∉ io.map Prod.fst := by rw [hi]; exact hio
          refine lc_it w (fun i H2 => ∃ s2 ρi acc accv dsr, s2.H = H2 ∧ s2.ρ = wipeS ρi vs ∧ SR G pr io (L2.wipe σ vs) s2 ∧ Ext s1 s2 ∧ s2.H L = some (.lst accv) ∧ Reps G s2.H s2.fz acc accv ∧ ¬ s2.fz L ∧ L ∉ s2.os ∧ compL tgt test elt vs (ts.drop i) ρi = some (dsr, ρfin) ∧ acc ++ dsr = ds) ?_ ?_ ?_ ?_
          · -- start
            obtain ⟨os', ra, ha⟩ := r1.wipe hio'
            refine ⟨Sx.new { s1 with ρ := wipeS s1.ρ vs, os := os' } L (.lst []), s1.ρ, [], [], ds, rfl, rfl, SR.new ra hL _, ?_, upd_same, by simp [Reps], fr.1, fun z => fr.2.2 (ha _ z), by simpa using ec, rfl⟩
            exact ((Ext.refl s1).less ha).trans (Ext.new (s := { s1 with ρ := wipeS s1.ρ vs, os := os' }) hL _)
          · rintro i H2 _ ⟨s2, ρi, acc, accv, dsr, rfl, _, r2, x2, _⟩
            exact (hw s2 _ r2 x2).1
          · -- a turn
            rintro i x H2 H' hlt ⟨s2, ρi, acc, accv, dsr, rfl, eρ, r2, x2, hL2, hacc, nf, nos, hcomp, hcat⟩ y
            obtain ⟨s3, t, rfl, e3, r3, x3, e4, p3⟩ := (hw s2 _ r2 x2).2 i x H' hlt y
            have ed : ts.drop i = t :: ts.drop (i + 1) := by
              rw [List.drop_eq_getElem_cons hlt]
              rw [List.getElem?_eq_getElem hlt] at e4
              cases e4
              rfl
            rw [ed] at hcomp
            simp only [compL] at hcomp
            refine ⟨pr, io, s3, s3, t, [], rfl, hi, r3, Ext.refl _, p3, Frs.nil, ?_⟩
            rw [e3, eρ]
            cases etg : tgt t (wipeS ρi vs) with
            | none => rw [etg] at hcomp; cases hcomp
            | some ρ1 =>
              rw [etg] at hcomp
              dsimp only at hcomp ⊢
              intro σ4 s4 e5 r4 x4 out4
              subst e5
              have wip : L2.wipe σ4 vs = L2.wipe σ vs := wipe_wipe (out4.1.trans (L2.wipe_length σ vs)) fun i hni => by
                rw [out4.2 i fun z => hni (htv i z), wipe_get hni]
              refine ⟨wip, ?_⟩
              cases ete : test s4.ρ with
              | no => rw [ete] at hcomp; cases hcomp
              | ex e ρ => rw [ete] at hcomp; cases hcomp
              | ok tb ρ2 =>
                rw [ete] at hcomp
                dsimp only at hcomp
                refine tEv_of hi r4 ?_
                rw [ete]
                intro vb s5 otb e6 r5 x5 p5 f5
                subst e6
                cases eb : asB tb with
                | none => rw [eb] at hcomp; cases hcomp
                | some bb =>
                  rw [eb] at hcomp
                  refine ⟨bb, asB_of p5 eb, ?_⟩
                  have x25 : Ext s2 s5 := (x3.trans x4).trans x5
                  have L5 : s5.H L = some (.lst accv) := x25.keep _ _ hL2 nos
                  have nf5 : ¬ s5.fz L := fun z => by
                    rcases x25.fzo L z with k | k | k
                    · exact nf k
                    · exact nos k
                    · rw [hL2] at k; cases k
                  have no5 : L ∉ s5.os := fun z => by
                    rcases x25.oso L z with k | k
                    · exact nos k
                    · rw [hL2] at k; cases k
                  have kacc : ∀ {s' : Sx}, Ext s2 s' → Reps G s'.H s'.fz acc accv := fun {s'} x => Reps.keep x.fz (fun a o p e => x.keep a o e fun z => (r2.sep a z).1 p) x.tk _ _ hacc
                  cases bb with
                  | false =>
                    dsimp only at hcomp
                    refine iteF ?_
                    obtain ⟨os', ra, ha⟩ := r5.wipe hio'
                    rw [wip] at ra
                    exact ⟨{ s5 with ρ := wipeS s5.ρ vs, os := os' }, s5.ρ, acc, accv, dsr, rfl, rfl, ra, (x2.trans x25).less ha, L5, kacc (x25.less ha), nf5, fun z => no5 (ha _ z), hcomp, hcat⟩
                  | true =>
                    dsimp only at hcomp
                    refine iteT ?_
                    cases eel : elt s5.ρ with
                    | no => rw [eel] at hcomp; cases hcomp
                    | ex e ρ => rw [eel] at hcomp; cases hcomp
                    | ok tx ρ3 =>
                      rw [eel] at hcomp
                      dsimp only at hcomp
                      refine tEv_of hi r5 ?_
                      rw [eel]
                      intro vx s6 ox e7 r6 x6 p6 f6
                      subst e7
                      cases efz : frz tx with
                      | none => rw [efz] at hcomp; cases hcomp
                      | some d =>
                        rw [efz] at hcomp
                        dsimp only at hcomp
                        cases erc : compL tgt test elt vs (ts.drop (i + 1)) s6.ρ with
                        | none => rw [erc] at hcomp; cases hcomp
                        | some q2 =>
                          obtain ⟨dsr2, ρf2⟩ := q2
                          rw [erc] at hcomp
                          simp only [Option.some.injEq, Prod.mk.injEq] at hcomp
                          obtain ⟨e8, e9⟩ := hcomp
                          subst e9
                          have x26 := x25.trans x6
                          have L6 : s6.H L = some (.lst accv) := x6.keep _ _ L5 no5
                          have nf6 : ¬ s6.fz L := fun z => by
                            rcases x6.fzo L z with k | k | k
                            · exact nf5 k
                            · exact no5 k
                            · rw [L5] at k; cases k
                          have no6 : L ∉ s6.os := fun z => by
                            rcases x6.oso L z with k | k
                            · exact no5 k
                            · rw [L5] at k; cases k
                          have nox : L ∉ ox := fun z => by
                            rcases f6 L z with k | k
                            · exact no5 k
                            · rw [L5] at k; cases k
                          have nlc : ∀ i, tx ≠ .loc i := fun i z => by subst z; simp [PV.frz] at efz
                          have r7 := r6.frzO (ot := ox) p6.rel.own p6.sep
                          have x7 : Ext s5 (s6.frz ox s6.ρ s6.os) := x6.frzO f6
                          have hd : Rep G s6.H (fun a => s6.fz a ∨ a ∈ ox) d vx := TmR.frz _ _ _ _ (tm_of p6.rel nlc) efz
                          have hacc7 : Reps G s6.H (fun a => s6.fz a ∨ a ∈ ox) acc accv := (kacc x26).mono fun a p => .inl p
                          have nf7 : ¬ (s6.fz L ∨ L ∈ ox) := fun z => z.elim nf6 nox
                          obtain ⟨r8, tk8⟩ := SR.updD (s := s6.frz ox s6.ρ s6.os) (o := .lst (accv ++ [vx])) r7 nf7 fr.2.1 no6 (fun ws z => by rw [show (s6.frz ox s6.ρ s6.os).H L = some (.lst accv) from L6] at z; cases z) fun o u z => by rw [show (s6.frz ox s6.ρ s6.os).H L = some (.lst accv) from L6] at z; cases z
                          obtain ⟨os', ra, ha⟩ := r8.wipe hio'
                          rw [wip] at ra
                          have hlen : accv.length = acc.length := hacc7.len.symm
                          have hsz : accv.length < sizeLine := by
                            have : (acc ++ dsr).length ≤ sizeLine := by rw [hcat]; exact hds
                            rw [List.length_append, ← e8, List.length_cons] at this
                            omega
                          refine ⟨accv, L6, hsz, _, s6.ρ, acc ++ [d], accv ++ [vx], dsr2, rfl, rfl, ra, ?_, upd_same, ?_, nf7, fun z => no6 (ha _ z), erc, by rw [← hcat, ← e8]; simp⟩
                          · have x28 : Ext s1 (s6.frz ox s6.ρ s6.os) := (x2.trans x25).trans x7
                            refine ⟨fun a o e n => ?_, fun a h => ?_, x28.tk.trans tk8, x28.fz, x28.fzo, fun a z => x28.oso a (ha a z)⟩
                            · show upd _ _ _ _ = _
                              rw [upd_ne (ne_of_none e hL)]
                              exact x28.keep a o e n
                            · show upd _ _ _ _ ≠ none
                              by_cases z : a = L
                              · subst z; rw [upd_same]; simp
                              · rw [upd_ne z]; exact x28.dom a h
                          · have kp : ∀ a o, (s6.fz a ∨ a ∈ ox) → s6.H a = some o → (upd s6.H L (.lst (accv ++ [vx]))) a = some o := fun a o p e => by
                              rw [upd_ne (by rintro rfl; exact nf7 p)]; exact e
                            refine (Reps.keep (fun _ h => h) kp tk8 _ _ hacc7).app ?_
                            simp only [Reps]
                            exact ⟨vx, [], rfl, Rep.keep (fun _ h => h) kp tk8 _ _ hd, rfl⟩
          · -- the end
            rintro H2 ⟨s2, ρi, acc, accv, dsr, rfl, eρ, r2, x2, hL2, hacc, nf, nos, hcomp, hcat⟩
            rw [List.drop_length] at hcomp
            simp only [compL, Option.some.injEq, Prod.mk.injEq] at hcomp
            obtain ⟨e5, e6⟩ := hcomp
            subst e5 e6
            rw [List.append_nil] at hcat
            subst hcat
            rw [← eρ] at q
            obtain ⟨os', ra, ha⟩ := SR.rest r1 x2 hv r2
            refine q (.ref L) { s2 with ρ := restS s1.ρ s2.ρ vs, os := os' } [L] rfl ra ((x1.trans x2).less ha) ⟨?_, by simp, fun a hm => ?_⟩ fun a hm => ?_
            · show TmR _ _ _ _ _ _ _
              simp only [TmR, RepO]
              exact ⟨L, accv, rfl, rfl, hL2, hacc⟩
            · rw [List.mem_singleton] at hm; subst hm
              exact ⟨nf, fr.2.1, fun z => nos (ha _ z)⟩
            · rw [List.mem_singleton] at hm; subst hm
              exact .inr (x1.back hL)
        · rw [if_neg hds] at q; exact q.elim
    · rw [if_neg hv] at q; exact q.elim
variable {elt iter : Expr} {ifs : List Expr} {scope : Scope} {own : List (Str × Nat)} {spos py : Pos} {it : Iv} {tgt : Tg} {test gel : Ev} {tv : List Nat}
theorem v_comp (hc : X.calm = true) (hN : X.N.Nodup) (hit : PIv X G W ios tg iter it) (ok : BlkOk X.N X.env.scope scope own)
    (hg : ∀ (s : Shared) (H : Hp) (C : Addr) (cl : List (Str × Addr)) (fp : List Addr), PGv (X.blk s H scope (compEnvC scope cl C X.env) fp) G ios tv tg tgt) (ht : ∀ (s : Shared) (H : Hp) (C : Addr) (cl : List (Str × Addr)) (fp : List Addr), PTs (X.blk s H scope (compEnvC scope cl C X.env) fp) ifs (tTest (tEv G W0 ios test)))
    (he : ∀ (s : Shared) (H : Hp) (C : Addr) (cl : List (Str × Addr)) (fp : List Addr), PEv (X.blk s H scope (compEnvC scope cl C X.env) fp) G W0 ios elt gel) (htv : ∀ i ∈ tv, i ∈ own.map (·.2)) (hio : ∀ v ∈ own.map (·.2), v ∉ ios) (hs : ∀ x, foldedSetIterable iter X.env x = pure x := by intro _; rfl) :
    PEv X G W ios (.ListComp elt [⟨tg, iter, ifs, 0⟩] scope pos) (eComp it (own.map (·.2)) tgt test gel) :=
  pe_imp (pe_lc hc hN hit ok hg ht he hs) fun _ _ _ q => comp_read rfl htv hio q
/-- y = [..] -/
theorem s_setLc {i : Nat} {y : Str} (hc : X.calm = true) (hN : X.N.Nodup) (hy : X.N[i]? = some y) (hyl : X.env.scope.names.lookup y = some .local) (hyo : i ∉ ios)
    (hsw : swapsWith (.ListComp elt [⟨tg, iter, ifs, 0⟩] scope pos) (some (.Name y py)) spos.line X.env = pure true) (hit : PIv X G W ios tg iter it) (ok : BlkOk X.N X.env.scope scope own)
    (hg : ∀ (s : Shared) (H : Hp) (C : Addr) (cl : List (Str × Addr)) (fp : List Addr), PGv (X.blk s H scope (compEnvC scope cl C X.env) fp) G ios tv tg tgt) (ht : ∀ (s : Shared) (H : Hp) (C : Addr) (cl : List (Str × Addr)) (fp : List Addr), PTs (X.blk s H scope (compEnvC scope cl C X.env) fp) ifs (tTest (tEv G W0 ios test)))
    (he : ∀ (s : Shared) (H : Hp) (C : Addr) (cl : List (Str × Addr)) (fp : List Addr), PEv (X.blk s H scope (compEnvC scope cl C X.env) fp) G W0 ios elt gel) (htv : ∀ i ∈ tv, i ∈ own.map (·.2)) (hio : ∀ v ∈ own.map (·.2), v ∉ ios) (hs : ∀ x, foldedSetIterable iter X.env x = pure x := by intro _; rfl) :
    PSv X G W ios (.Assign [.Name y py] (.ListComp elt [⟨tg, iter, ifs, 0⟩] scope pos) spos) (sSet i (eComp it (own.map (·.2)) tgt test gel)) :=
  ps_imp (ps_setLc hc hN hy hyl hsw hit ok hg ht he hs) fun D σ H q => by
    obtain ⟨pr, io, s, rfl, hi, r, q⟩ := of_tSv q
    refine comp_read rfl htv hio (tEv_of hi r (FlP.toF q fun t v s1 ot r1 x1 p1 f1 q1 => ?_))
    split at q1
    · rename_i hcc
      obtain ⟨os', r2, x2⟩ := r1.store x1 p1 f1 hcc.1 hcc.2 (by rw [hi]; exact hyo)
      exact q1 _ { s1 with ρ := s1.ρ.set i (some t), os := os' } rfl r2 x2
    · exact q1.elim
end
end PV

namespace PV
open PySem PySem.Spec L2

/-! ### what is owned is changed -/
section
variable {G : Gx} {W : WX} {pr : Addr → Prop} {io : List (Nat × V)} {σ : L2.St} {s s1 : Sx} {ios : List Nat} {Q : VK} {X : Cx} {a b c e : Expr} {pos p : Pos} {ga gb gc : Ev}
theorem Own.tk {H : Hp} {a : Addr} (h : Own H a) (o : HO) : Tk H (upd H a o) := by
  refine ⟨fun b vs e => ?_, fun b o' u e => ?_⟩
  · rw [upd_ne]
    · exact e
    · rintro rfl
      rcases h with ⟨_, h⟩ | ⟨_, h⟩ | ⟨_, h⟩ | ⟨_, _, _, h⟩ <;> rw [e] at h <;> cases h
  · rw [upd_ne]
    · exact e
    · rintro rfl
      rcases h with ⟨_, h⟩ | ⟨_, h⟩ | ⟨_, h⟩ | ⟨_, _, _, h⟩ <;> rw [e] at h <;> cases h
theorem SR.mut (r : SR G pr io σ s) {i : Nat} {t0 : Tm} (e : s.ρ[i]? = some (some t0)) : ∃ v o0, σ[i]? = some (some v) ∧ TmR G s.H s.fz pr t0 v o0 ∧ o0.Nodup ∧ (∀ a ∈ o0, a ∈ s.os) ∧
    ∀ (ot : List Addr) (a : Addr) (o' : HO) (t1 : Tm) (o1 : List Addr), a ∈ o0 → (∀ b ∈ ot, ¬ s.fz b ∧ ¬ pr b ∧ b ∉ s.os) → o1.Nodup → (∀ b ∈ o1, b ∈ o0 ∨ b ∈ ot) → TmR G (upd s.H a o') s.fz pr t1 v o1 →
      ∃ os', SR G pr io σ { s with H := upd s.H a o', ρ := s.ρ.set i (some t1), os := os' } ∧ (∀ b ∈ os', b ∈ s.os ∨ b ∈ ot) := by
  obtain ⟨v, o1, o2, o3, e1, e2, h, hput⟩ := Sl.get r.sl e
  have nd := r.nd
  rw [e2, List.nodup_append, List.nodup_append] at nd
  have inos : ∀ b, (b ∈ o1 ∨ b ∈ o2 ∨ b ∈ o3) → b ∈ s.os := fun b h => by rw [e2]; rcases h with h | h | h <;> simp [h]
  refine ⟨v, o2, e1, h, nd.2.1.1, fun a ha => inos a (.inr (.inl ha)), fun ot a o' t1 q1 ha hot hq1 hsub ht => ?_⟩
  have hos : a ∈ s.os := inos a (.inr (.inl ha))
  have tk : Tk s.H (upd s.H a o') := (r.own a hos).tk o'
  have hs := hput t1 (upd s.H a o') s.fz q1 ht (fun b u hb eb => by
    rw [upd_ne]
    · exact eb
    · rintro rfl
      rcases hb with hb | hb | hb | hb
      · exact nd.2.2 b hb b (List.mem_append_left _ ha) rfl
      · exact nd.2.1.2.2 b ha b hb rfl
      · exact (r.sep b hos).1 hb
      · exact (r.sep b hos).2 hb) (fun _ h => h) tk
  have split : ∀ b ∈ o1 ++ (q1 ++ o3), (b ∈ o1 ∨ b ∈ o3) ∨ b ∈ q1 := fun b hb => by simp only [List.mem_append] at hb; grind
  refine ⟨o1 ++ (q1 ++ o3), ⟨hs, ?_, fun b hb => ?_, fun b hb => ?_, r.iov⟩, fun b hb => ?_⟩
  · show (o1 ++ (q1 ++ o3)).Nodup
    rw [List.nodup_append, List.nodup_append]
    refine ⟨nd.1, ⟨hq1, nd.2.1.2.1, fun b hb c hc z => ?_⟩, fun b hb c hc z => ?_⟩
    · subst z
      rcases hsub b hb with h | h
      · exact nd.2.1.2.2 b h b hc rfl
      · exact (hot b h).2.2 (inos b (.inr (.inr hc)))
    · subst z
      rcases List.mem_append.mp hc with hc | hc
      · rcases hsub b hc with h | h
        · exact nd.2.2 b hb b (List.mem_append_left _ h) rfl
        · exact (hot b h).2.2 (inos b (.inl hb))
      · exact nd.2.2 b hb b (List.mem_append_right _ hc) rfl
  · rcases split b hb with (h | h) | h
    · exact r.sep b (inos b (.inl h))
    · exact r.sep b (inos b (.inr (.inr h)))
    · rcases hsub b h with h | h
      · exact r.sep b (inos b (.inr (.inl h)))
      · exact ⟨(hot b h).1, (hot b h).2.1⟩
  · show upd _ _ _ _ ≠ none
    by_cases z : b = a
    · subst z; rw [upd_same]; simp
    · rw [upd_ne z]; exact r.dom b hb
  · rcases split b hb with (h | h) | h
    · exact .inl (inos b (.inl h))
    · exact .inl (inos b (.inr (.inr h)))
    · exact (hsub b h).imp (fun z => inos b (.inr (.inl z))) id
theorem Ext.mut (x : Ext s s1) {a : Addr} (own : Own s1.H a) (ha : a ∈ s1.os) {os' ot : List Addr} (h : ∀ b ∈ os', b ∈ s1.os ∨ b ∈ ot) (f : Frs s ot) (o' : HO) (ρ : Ss) : Ext s { s1 with H := upd s1.H a o', ρ := ρ, os := os' } := by
  refine ⟨fun b o e n => ?_, fun b hb => ?_, x.tk.trans (own.tk o'), x.fz, x.fzo, fun b hb => ?_⟩
  · show upd _ _ _ _ = _
    rw [upd_ne]
    · exact x.keep b o e n
    · rintro rfl
      rcases x.oso b ha with z | z
      · exact n z
      · rw [e] at z; cases z
  · show upd _ _ _ _ ≠ none
    by_cases z : b = a
    · subst z; rw [upd_same]; simp
    · rw [upd_ne z]; exact x.dom b hb
  · rcases h b hb with h | h
    · exact x.oso b h
    · exact f b h
theorem Reps.updO {H : Hp} {P : Addr → Prop} {ds : List D} {vs : List V} {a : Addr} (h : Reps G H P ds vs) (own : Own H a) (hP : ¬ P a) (o : HO) : Reps G (upd H a o) P ds vs :=
  Reps.keep (fun _ h => h) (fun b u p e => by rw [upd_ne (by rintro rfl; exact hP p)]; exact e) (own.tk o) _ _ h
theorem TmRs.updO {H : Hp} {fz : Addr → Prop} {ts : List Tm} {vs : List V} {o1 : List Addr} {a : Addr} (h : TmRs G H fz pr ts vs o1) (own : Own H a) (h1 : ¬ fz a) (h2 : ¬ pr a) (h3 : a ∉ o1) (o : HO) : TmRs G (upd H a o) fz pr ts vs o1 :=
  TmRs.keep (fun _ h => h) (fun _ h => .inr h) (own.tk o) _ _ _ (fun b u p e => by
    rw [upd_ne]
    · exact e
    · rintro rfl
      rcases p with p | p | p
      · exact h3 p
      · exact h1 p
      · exact h2 p) h
theorem TmR.updO {H : Hp} {fz : Addr → Prop} {t : Tm} {v : V} {o1 : List Addr} {a : Addr} (h : TmR G H fz pr t v o1) (own : Own H a) (h1 : ¬ fz a) (h2 : ¬ pr a) (h3 : a ∉ o1) (o : HO) : TmR G (upd H a o) fz pr t v o1 :=
  TmR.keep (fun _ h => h) (fun _ h => .inr h) (own.tk o) _ _ _ (fun b u p e => by
    rw [upd_ne]
    · exact e
    · rintro rfl
      rcases p with p | p | p
      · exact h3 p
      · exact h1 p
      · exact h2 p) h

/-! ### methods of a list that a name owns -/
def isLs (ρ : Ss) (i : Nat) : Bool := match ρ[i]? with
  | some (some (.v .O (.lst _))) => true
  | _ => false
/-- xs.m(e, ..): op gives the answer and the list behind -/
def eLm (op : List D → List D → Option (D × List D)) (i : Nat) (gs : Ss → OuL) : Ev := fun ρ => if isLs ρ i = true then (gs ρ).bind fun ts ρ1 => match ρ1[i]? with
  | some (some (.v .O (.lst xs))) => match frzs ts with
    | some ds => match op xs ds with
      | some (x, xs') => if xs'.length ≤ sizeLine then .ok (.v .F x) (ρ1.set i (some (.v .O (.lst xs')))) else .no
      | none => .no
    | none => .no
  | _ => .no
  else .no
/-- what is to be shown of a list's method -/
def LmOk (G : Gx) (op : List D → List D → Option (D × List D)) (r : V → List V → Hp → VK → Prop) : Prop := ∀ (H : Hp) (P : Addr → Prop) (l : Addr) (xs ds : List D) (xv dv : List V) (x : D) (xs' : List D) (Q : VK), H l = some (.lst xv) → Reps G H P xs xv → Reps G H P ds dv → op xs ds = some (x, xs') → xs'.length ≤ sizeLine →
  (∀ v xv', (∀ (H' : Hp) (P' : Addr → Prop), Reps G H' P' xs xv → Reps G H' P' ds dv → Rep G H' P' x v ∧ Reps G H' P' xs' xv') → Q v (upd H l (.lst xv'))) → r (.ref l) dv H Q
def opApp : List D → List D → Option (D × List D) := fun xs ds => match ds with
  | [d] => some (.non, xs ++ [d])
  | _ => none
def opPop : List D → List D → Option (D × List D) := fun xs ds => match ds, xs[xs.length - 1]? with
  | [], some x => some (x, xs.dropLast)
  | _, _ => none
def opPopAt : List D → List D → Option (D × List D) := fun xs ds => match ds with
  | [.int i] => match seqIndex? i xs.length with
    | some k => match xs[k]? with
      | some x => if -(2 ^ 63) ≤ i ∧ i < 2 ^ 63 then some (x, xs.eraseIdx k) else none
      | none => none
    | none => none
  | _ => none
def opRevL : List D → List D → Option (D × List D) := fun xs ds => match ds with
  | [] => some (.non, xs.reverse)
  | _ => none
def opClear : List D → List D → Option (D × List D) := fun xs ds => match ds with
  | [] => some (.non, [])
  | _ => none
theorem Reps.one {H : Hp} {P : Addr → Prop} {d : D} {dv : List V} (h : Reps G H P [d] dv) : ∃ v, dv = [v] ∧ Rep G H P d v := by
  simp only [Reps] at h
  obtain ⟨v, r, rfl, h, rfl⟩ := h
  exact ⟨v, rfl, h⟩
theorem Reps.dropLast {H : Hp} {P : Addr → Prop} : ∀ {ds : List D} {vs : List V}, Reps G H P ds vs → Reps G H P ds.dropLast vs.dropLast
  | [], vs, h => by simp only [Reps] at h; subst h; simp [Reps]
  | [d], vs, h => by obtain ⟨v, rfl, h⟩ := h.one; simp [Reps]
  | d :: d2 :: ds, vs, h => by
    simp only [Reps] at h
    obtain ⟨v, r, rfl, h1, v2, r2, rfl, h2, h3⟩ := h
    have ih := Reps.dropLast (ds := d2 :: ds) (vs := v2 :: r2) (by simp only [Reps]; exact ⟨v2, r2, rfl, h2, h3⟩)
    simp only [List.dropLast_cons₂, Reps]
    exact ⟨v, _, rfl, h1, ih⟩
theorem Reps.erase {H : Hp} {P : Addr → Prop} : ∀ {ds : List D} {vs : List V} (k : Nat), Reps G H P ds vs → Reps G H P (ds.eraseIdx k) (vs.eraseIdx k)
  | [], vs, k, h => by simp only [Reps] at h; subst h; simp [Reps]
  | d :: ds, vs, 0, h => by simp only [Reps] at h; obtain ⟨v, r, rfl, h1, h2⟩ := h; exact h2
  | d :: ds, vs, k + 1, h => by
    simp only [Reps] at h
    obtain ⟨v, r, rfl, h1, h2⟩ := h
    simp only [List.eraseIdx_cons_succ, Reps]
    exact ⟨v, _, rfl, h1, Reps.erase k h2⟩
theorem Reps.setI {H : Hp} {P : Addr → Prop} {d : D} {v : V} (hd : Rep G H P d v) : ∀ {ds : List D} {vs : List V} (k : Nat), Reps G H P ds vs → Reps G H P (ds.set k d) (vs.set k v)
  | [], vs, k, h => by simp only [Reps] at h; subst h; simp [Reps]
  | d0 :: ds, vs, 0, h => by simp only [Reps] at h; obtain ⟨v0, r, rfl, h1, h2⟩ := h; simp only [List.set_cons_zero, Reps]; exact ⟨_, _, rfl, hd, h2⟩
  | d0 :: ds, vs, k + 1, h => by
    simp only [Reps] at h
    obtain ⟨v0, r, rfl, h1, h2⟩ := h
    simp only [List.set_cons_succ, Reps]
    exact ⟨v0, _, rfl, h1, Reps.setI hd k h2⟩
theorem lm_app : LmOk G opApp rAppend := fun H P l xs ds xv dv x xs' Q hl hx hd e hz q => by
  unfold opApp at e
  split at e
  · cases e
    obtain ⟨v, rfl, hv⟩ := hd.one
    refine ⟨l, xv, v, rfl, rfl, hl, ?_, q .non _ fun H' P' k1 k2 => ⟨by simp only [Rep], k1.app k2⟩⟩
    rw [← hx.len]
    rw [List.length_append, List.length_singleton] at hz
    omega
  · cases e
/-- the list behind the name i -/
theorem ls_at (r : SR G pr io σ s) {i : Nat} {v : V} (hv : σ[i]? = some (some v)) (h : isLs s.ρ i = true) : ∃ l xv, v = .ref l ∧ s.H l = some (.lst xv) := by
  unfold isLs at h
  split at h
  · rename_i xs e
    obtain ⟨o, ht, _⟩ := r.at e hv
    simp only [TmR, RepO] at ht
    obtain ⟨a, vs, rfl, rfl, h1, _⟩ := ht
    exact ⟨a, vs, rfl, h1⟩
  · cases h
theorem lm_end {op : List D → List D → Option (D × List D)} {rr : V → List V → Hp → VK → Prop} {gs : Ss → OuL} {i : Nat} (h : LmOk G op rr) {l : Addr} {v : V} {ts : List Tm} {vs : List V} {ot : List Addr} (hv : σ[i]? = some (some v))
    (r1 : SR G pr io σ s1) (x1 : Ext s s1) (p1 : Tps G pr σ s1 ts vs ot) (f1 : Frs s ot)
    (q : OuP G W pr io σ s (match s1.ρ[i]? with
      | some (some (.v .O (.lst xs))) => match frzs ts with
        | some ds => match op xs ds with
          | some (x, xs') => if xs'.length ≤ sizeLine then .ok (.v .F x) (s1.ρ.set i (some (.v .O (.lst xs')))) else .no
          | none => .no
        | none => .no
      | _ => .no) Q) : rr v vs s1.H Q := by
  split at q
  · rename_i xs e
    cases e1 : frzs ts with
    | none => rw [e1] at q; exact q.elim
    | some ds =>
      rw [e1] at q
      dsimp only at q
      cases e2 : op xs ds with
      | none => rw [e2] at q; exact q.elim
      | some w =>
        obtain ⟨x, xs'⟩ := w
        rw [e2] at q
        dsimp only at q
        split at q
        · rename_i hz
          have hd := p1.rel.frz e1
          have r2 := r1.frzO (ot := ot) p1.rel.own p1.sep
          have x2 := x1.frzO f1
          obtain ⟨v', o0, hv', ht, nd0, sub0, mu⟩ := r2.mut (i := i) e
          rw [hv] at hv'
          cases hv'
          simp only [TmR, RepO] at ht
          obtain ⟨a, xv, rfl, rfl, hl, hxs⟩ := ht
          have hos : a ∈ s1.os := sub0 a (by simp)
          have own := r2.own a (sub0 a (by simp))
          have hsep := r2.sep a (sub0 a (by simp))
          refine h s1.H (fun a => s1.fz a ∨ a ∈ ot) a xs ds xv vs x xs' Q hl hxs hd e2 hz fun v2 xv' k => ?_
          obtain ⟨k1, k2⟩ := k (upd s1.H a (.lst xv')) (fun a => s1.fz a ∨ a ∈ ot) (hxs.updO own hsep.1 _) (hd.updO own hsep.1 _)
          obtain ⟨os', r3, hos'⟩ := mu [] a (.lst xv') (.v .O (.lst xs')) [a] (by simp) (fun b hb => by cases hb) (by simp) (fun b hb => .inl hb) (by simp only [TmR, RepO]; exact ⟨a, xv', rfl, rfl, upd_same, k2⟩)
          exact q v2 _ [] rfl r3 (x2.mut own (sub0 a (by simp)) hos' Frs.nil _ _) ⟨⟨rfl, k1⟩, .nil, fun a ha => by cases ha⟩ Frs.nil
        · exact q.elim
  · exact q.elim
variable {o : Expr} {es : List Expr} {gs : Ss → OuL} {i : Nat} {x name : Str} {apos cpos : Pos} {id : String} {rr : V → List V → Hp → VK → Prop} {op : List D → List D → Option (D × List D)}
def isAt (i : Nat) (ρ : Ss) : Prop := True
theorem v_lm (h : LmOk G op rr) (slot : Slot "list" name id) (hty : typeOf (.builtin id) = pure (.type "method_descriptor")) (hm : MtR X id rr) (hi : X.N[i]? = some x) (hx : Vis X.env.scope x) (hdn : (x == ("__debug__" : Str)) = false) (hcn : (x == ("__classdict__" : Str)) = false) (ha : PAv X G W ios (e :: es) gs)
    (hbase : attributeBase (.Name x p) name X.env (eval (.Name x p) X.env) = eval (.Name x p) X.env := by rfl)
    (hfew : ((backTo cpos (starEach (e :: es) X.env)).all (fun x => !x.1) && (backToKw cpos (keywordEach [] X.env)).all (fun x => x.1.isSome)
      && decide ((e :: es).length + ([] : List Keyword).length + (if ([] : List Keyword).isEmpty then 0 else 1) < 30)) = true := by rfl)
    (hline : (apos.endLine == cpos.line) = true := by rfl) (hs : starEach (e :: es) X.env = (false, eval e X.env) :: starEach es X.env := by rfl) (hplain : (backTo cpos (starEach es X.env)).any (·.1) = false := by rfl) :
    PEv X G W ios (.Call (.Attribute (.Name x p) name apos) (e :: es) [] cpos) (eLm op i gs) :=
  pe_imp (pe_bm PySem.F.plainAttrs_list slot hty hm (pe_var hi hx hdn hcn) ha hbase hfew hline hs hplain) fun σ H Q q => by
    obtain ⟨pr, io, s, rfl, hi, r, q⟩ := of_tEv q
    unfold eLm at q
    split at q
    · rename_i hl
      cases hv : σ[i]? with
      | none =>
        exfalso
        unfold isLs at hl
        split at hl
        · rename_i e; obtain ⟨_, _, _, _, k, _⟩ := Sl.get r.sl e; rw [hv] at k; cases k
        · cases hl
      | some w =>
        cases w with
        | none =>
          exfalso
          unfold isLs at hl
          split at hl
          · rename_i e; obtain ⟨_, _, _, _, k, _⟩ := Sl.get r.sl e; rw [hv] at k; cases k
          · cases hl
        | some v =>
          obtain ⟨l, xv, rfl, hH⟩ := ls_at r hv hl
          refine ⟨.ref l, hv, .inl ⟨rfl, xv, SqL.of hH⟩, tEvs_of hi r (OuLP.bind0 q fun ts vs s1 ot r1 x1 p1 f1 q1 => ?_)⟩
          exact lm_end (gs := gs) (l := l) h hv r1 x1 p1 f1 q1
    · exact q.elim

theorem lm_cell (r : SR G pr io σ s) (hl : isLs s.ρ i = true) : ∃ l xv, σ[i]? = some (some (.ref l)) ∧ s.H l = some (.lst xv) := by
  cases h : s.ρ[i]? with
  | none => unfold isLs at hl; rw [h] at hl; cases hl
  | some o =>
    cases o with
    | none => unfold isLs at hl; rw [h] at hl; cases hl
    | some t =>
      obtain ⟨v, _, _, _, k, _⟩ := Sl.get r.sl h
      obtain ⟨l, xv, rfl, hH⟩ := ls_at r k hl
      exact ⟨l, xv, k, hH⟩
/-! ### xs[i] = v -/
def tgSub (i : Nat) (gi : Ev) : Tg := fun t ρ => if isLs ρ i = true then match gi ρ with
  | .ok u ρ2 => match ρ2[i]? with
    | some (some (.v .O (.lst xs))) => match derT ρ2 u with
      | some (.v _ (.int k)) => match frz t with
        | some d => match ixN xs.length k with
          | some j => some (ρ2.set i (some (.v .O (.lst (xs.set j d)))))
          | none => none
        | none => none
      | _ => none
    | _ => none
  | _ => none
  else none
theorem TmR.intv {H : Hp} {fz : Addr → Prop} {k : Kd} {n : Int} {v : V} {o : List Addr} (h : TmR G H fz pr (.v k (.int n)) v o) : v = .int n := by
  cases k <;> simp only [TmR, RepO, Rep] at h <;> exact h.2
theorem g_sub {i : Nat} {x : Str} {ie : Expr} {gi : Ev} (hx : X.N[i]? = some x) (hv : Vis X.env.scope x) (hdn : (x == ("__debug__" : Str)) = false) (hcn : (x == ("__classdict__" : Str)) = false) (hi : PEv X G W ios ie gi)
    (ha : ∀ v, assign (.Subscript (.Name x p) ie pos) X.env v = (do
      let ov ← holding [v] (eval (.Name x p) X.env)
      let iv ← holding [v, ov] (eval ie X.env)
      standAt pos
      holding [v, ov, iv] (setItem ov iv v)
      release [v, ov, iv] []) := by intro _; rfl) : PGv X G ios [] (.Subscript (.Name x p) ie pos) (tgSub i gi) :=
  pg_imp (pg_sub (pe_var hx hv hdn hcn) hi set_list ha) fun v σ H Q q => by
    obtain ⟨pr, io, s0, s, t, ot, rfl, hi, r, x, p, f, q⟩ := q
    unfold tgSub at q
    by_cases hl : isLs s.ρ i = true
    · rw [if_pos hl] at q
      obtain ⟨l, xv, hv, hH⟩ := lm_cell r hl
      refine ⟨.ref l, hv, tEv_of hi r ?_⟩
      cases eg : gi s.ρ with
      | no => rw [eg] at q; exact q.elim
      | ex e ρ => rw [eg] at q; exact q.elim
      | ok u ρ2 =>
        rw [eg] at q
        intro w s2 ow e2 r2 x2 pw fw
        subst e2
        dsimp only at q
        have p2 := p.on r x2
        split at q
        · rename_i ρ' heq
          split at heq
          · rename_i xs e3
            split at heq
            · rename_i k n e4
              split at heq
              · rename_i d e5
                split at heq
                · rename_i j e6
                  cases heq
                  obtain ⟨o4, h4⟩ := pw.der r2 e4
                  have ew := h4.intv
                  subst ew
                  have hnl : ∀ i, t ≠ .loc i := fun i z => by subst z; simp [PV.frz] at e5
                  have r3 := r2.frzO (ot := ot) p2.rel.own p2.sep
                  have x3 := (x.trans x2).frzO f
                  have hd : Rep G s2.H (fun a => s2.fz a ∨ a ∈ ot) d v := TmR.frz _ _ _ _ (tm_of p2.rel hnl) e5
                  obtain ⟨v', o0, hv', ht, nd0, sub0, mu⟩ := r3.mut (i := i) e3
                  rw [hv] at hv'
                  cases hv'
                  simp only [TmR, RepO] at ht
                  obtain ⟨a, yv, e7, rfl, hl2, hxs⟩ := ht
                  cases e7
                  have own := r3.own l (sub0 l (by simp))
                  have hsep := r3.sep l (sub0 l (by simp))
                  refine ⟨l, yv, n, j, rfl, rfl, hl2, by rw [← hxs.len]; exact e6, ?_⟩
                  have k2 : Reps G (upd s2.H l (.lst (yv.set j v))) (fun a => s2.fz a ∨ a ∈ ot) (xs.set j d) (yv.set j v) := (Reps.setI hd j hxs).updO own hsep.1 _
                  obtain ⟨os', r4, hos'⟩ := mu [] l (.lst (yv.set j v)) (.v .O (.lst (xs.set j d))) [l] (by simp) (fun b hb => by cases hb) (by simp) (fun b hb => .inl hb) (by simp only [TmR, RepO]; exact ⟨l, _, rfl, rfl, upd_same, k2⟩)
                  exact q σ _ rfl r4 (x3.mut own (sub0 l (by simp)) hos' Frs.nil _ _) ⟨rfl, fun _ _ => rfl⟩
                · cases heq
              · cases heq
            · cases heq
          · cases heq
        · exact q.elim
    · rw [if_neg hl] at q; exact q.elim

/-! ### name op= e -/
def sAug (i : Nat) (f : Tm → Tm → Option Tm) (g : Ev) : Sm := fun ρ => match ρ[i]? with
  | some (some (.v .F d)) => (g ρ).toF fun u ρ1 => match derT ρ1 u with
    | some u1 => match f (.v .F d) u1 with
      | some r => if isLoc r = false ∧ i < ρ1.length then .nx (ρ1.set i (some r)) else .no
      | none => .no
    | none => .no
  | _ => .no
end
end PV

namespace PV
open PySem PySem.Spec L2

/-! ### objects -/
/-- a class whose objects bear just the attributes ns -/
structure ClsF (K : PySem.W.Frag) (C : Addr) (ns : List Str) : Prop where
  c : Cls K C
  nd : ns.Nodup
  na : ∀ f ∈ ns, NoAttr K C f
  sm : ns.length < 1000
def setAt {α : Type} : List α → Nat → α → List α
  | [], _, x => [x]
  | _ :: as, 0, x => x :: as
  | a :: as, j + 1, x => a :: setAt as j x
section
variable {G : Gx} {W : WX} {pr : Addr → Prop} {io : List (Nat × V)} {σ : L2.St} {s s1 : Sx} {ios : List Nat} {Q : VK} {X : Cx} {a b e o value : Expr} {pos p pos' tpos : Pos} {ga gb gc : Ev} {c : Nat} {f : Str}
theorem TmRs.get {H : Hp} {fz : Addr → Prop} : ∀ {ts : List Tm} {vs : List V} {os : List Addr} {j : Nat} {t : Tm}, TmRs G H fz pr ts vs os → ts[j]? = some t → ∃ v o, vs[j]? = some v ∧ TmR G H fz pr t v o ∧ ∀ a ∈ o, a ∈ os
  | [], vs, os, j, t, h, e => by simp at e
  | t0 :: ts, vs, os, 0, t, h, e => by
    simp only [TmRs] at h
    obtain ⟨v, r, o1, o2, rfl, rfl, h1, h2⟩ := h
    have e' : t0 = t := by simpa using e
    subst e'
    exact ⟨v, o1, rfl, h1, fun a ha => List.mem_append_left _ ha⟩
  | t0 :: ts, vs, os, j + 1, t, h, e => by
    simp only [TmRs] at h
    obtain ⟨v, r, o1, o2, rfl, rfl, h1, h2⟩ := h
    obtain ⟨w, o, e1, e2, e3⟩ := TmRs.get h2 (j := j) (t := t) (by simpa using e)
    exact ⟨w, o, by simpa using e1, e2, fun a ha => List.mem_append_right _ (e3 a ha)⟩
/-- e.f -/
def fldT (c j : Nat) : Tm → Option Tm
  | .ob c' ts => if c' = c then match ts[j]? with
    | some (.v .F d) => some (.v .F d)
    | _ => none
    else none
  | .v k (.ins c' xs) => if c' = c then (xs[j]?).map (subK k) else none
  | _ => none
def eFld (c j : Nat) : Ev → Ev := eOp1 (fldT c j)
/-! ### self.f = e -/
def isOb (c : Nat) : Option Tm → Bool
  | some (.ob c' _) => c' == c
  | some (.v _ (.ins c' _)) => c' == c
  | _ => false
def sFst (c j i : Nat) (g : Ev) : Sm := fun ρ => (g ρ).toF fun t ρ1 => match ρ1[i]? with
  | some (some (.ob c' ts)) => match unB t with
    | some u => if c' = c ∧ j ≤ ts.length then .nx (ρ1.set i (some (.ob c (setAt ts j u)))) else .no
    | none => .no
  | _ => .no
/-- self.f op= e -/
def sFaug (c j i : Nat) (fo : Tm → Tm → Option Tm) (g : Ev) : Sm := fun ρ => match ρ[i]? with
  | some (some (.ob c' ts0)) => match ts0[j]? with
    | some (.v .F d) => if c' = c then (g ρ).toF fun u ρ1 => match ρ1[i]? with
      | some (some (.ob c2 ts)) => match derT ρ1 u with
        | some u1 => match fo (.v .F d) u1 with
          | some rr => match unB rr with
            | some r1 => if c2 = c ∧ j ≤ ts.length then .nx (ρ1.set i (some (.ob c (setAt ts j r1)))) else .no
            | none => .no
          | none => .no
        | none => .no
      | _ => .no
      else .no
    | _ => .no
  | _ => .no
end
end PV

namespace PV
open PySem PySem.Spec L2

/-! ### methods, properties, constructors -/
section
variable {X : Cx} {k : Nat} {f C : Addr} {fd : FuncData} {ps : List Str} {sp : Sp} {E : St → XK} {x m : Str} {p pos apos : Pos} {e o : Expr} {es : List Expr} {ta : TE} {t : TA}
def tMethV (C : Addr) (m : Str) (sp : Sp) (E : St → XK) (ta : TE) (t : TA) : TE := fun σ H Q => ta σ H fun x H1 => ∃ a dx fs, x = .ref a ∧ H1 a = some (.ins C dx fs) ∧ fs.lookup m = none ∧ t σ H1 fun vs H2 => sp (x :: vs) H2 Q (E σ)
/-- C(..) -/
def tMakeV (C : Addr) (sp : Sp) (gV : List V → List V → List V) (E : St → XK) (n m : Nat) (t tk : TA) : TE := fun σ H Q => t σ H fun vs H1 => tk σ H1 fun zs H2 => vs.length = n ∧ zs.length = m ∧ ∀ x dx, H2 x = none → H2 dx = none → dx ≠ x →
  sp (gV (.ref x :: vs) zs) (upd (upd H2 dx (.own x)) x (.ins C dx [])) (fun v H3 => v = .non ∧ Q (.ref x) H3) (E σ)
variable {n : Nat} {ks : List Str} {kws : List Keyword} {tk : TA} {g : List Value → List Value → List Value} {gV : List V → List V → List V}
end
section
variable {G : Gx} {W : WX} {pr : Addr → Prop} {io : List (Nat × V)} {σ : L2.St} {s s1 : Sx} {ios : List Nat} {Q : VK} {X : Cx} {a b e o value : Expr} {pos p pos' tpos apos : Pos} {g0 ga gb gc : Ev} {c : Nat} {f : Str} {gs gk : Ss → OuL} {es : List Expr}
def eMeth (c : Nat) (fn : Fn) (ms : List Md) (g0 : Ev) (gs : Ss → OuL) : Ev := fun ρ => (g0 ρ).bind fun t0 ρ1 => if isOb c (derT ρ1 t0) = true then (gs ρ1).bind fun ts ρ2 => callF fn ms (t0 :: ts) ρ2 else .no
variable {k n : Nat} {fa : Addr} {fd : FuncData} {ps : List Str} {fn : Fn} {ms : List Md} {x m : Str}
/-- a property -/
def eProp (c : Nat) (fn : Fn) (ms : List Md) (g0 : Ev) : Ev := fun ρ => (g0 ρ).bind fun t0 ρ1 => if isOb c (derT ρ1 t0) = true then match callF fn ms [t0] ρ1 with
  | .ex _ _ => .no
  | o => o
  else .no
/-! ### C(..) -/
def isNonT : Tm → Bool
  | .v _ .non => true
  | _ => false
def mkF (c : Nat) (fn : Fn) (ms : List Md) (ts : List Tm) (ρ : Ss) : Ou := match callF fn (.io :: ms) (.loc ρ.length :: ts) (ρ ++ [some (.ob c [])]) with
  | .ok t ρ2 => if isNonT t = true then match ρ2[ρ.length]? with
    | some (some u) => .ok u (ρ2.take ρ.length)
    | _ => .no
    else .no
  | .ex e ρ2 => .ex e (ρ2.take ρ.length)
  | .no => .no
def eMake (c : Nat) (fn : Fn) (ms : List Md) (gs gk : Ss → OuL) (dfl : List D) : Ev := fun ρ => (gs ρ).bind fun ts ρ1 => (gk ρ1).bind fun us ρ2 => mkF c fn ms (ts ++ us ++ dfl.map (Tm.v .F)) ρ2
abbrev PKv (X : Cx) (G : Gx) (W : WX) (ios : List Nat) (xs : List Keyword) (g : Ss → OuL) : Prop := PK X xs (tEvs G W ios g)
end
end PV

namespace PV
open PySem PySem.Spec L2

/-! ### sorted(xs) of ints: a list, a tuple -/
section
open PyProof.Rows
variable {prog : Program} {w : World} {A : Around} {E : Value → Shared → Prop} {s : Shared}
theorem collectT {l : Addr} {vs : List Value} {Q : List Value → Shared → Prop} (hl : IsTup s.heap l vs.toArray) (hsz : vs.length ≤ sizeLine)
    (h : Q vs { s with heap := (s.heap.push (seqObj "list" #[] 0)).update s.heap.objs.size (Obj.mapSeq (· ++ vs.toArray)) }) : wpAny (model prog w) A (collect (.ref l)) Q E s := by
  obtain ⟨o, ho, hc, n, hd⟩ := hl
  unfold collect
  refine wpAny_bind (wpAny_runValue (codeAny_builtin F.entry_proto_collect ?_))
  rw [Around.under_plainId F.plain_proto_collect _]
  refine wpAny_bind (wpAny_newList (wpAny_pure ⟨Code.quiet_builtin _ (by decide +kernel), codeAny_builtin F.entry_list_iadd ?_⟩))
  show wpAny _ _ (Builtin.List.listExtendWith (.ref s.heap.objs.size) (.ref l) (.ref s.heap.objs.size)) _ _ { s with heap := s.heap.push (seqObj "list" #[] 0) }
  unfold Builtin.List.listExtendWith
  have h1 := Heap.get?_push_of_some (seqObj "list" #[] 0) ho
  have h2 : (s.heap.push (seqObj "list" #[] 0)).get? s.heap.objs.size = some (seqObj "list" #[] 0) := Heap.get?_push_size _ rfl
  refine wpAny_bind (wpAny_typeOf (T := "tuple") ⟨o, h1, hc⟩ ?_)
  have ht : (Value.type "tuple" == Value.type "tuple") = true := by rfl
  rw [if_pos (by rw [ht, Bool.or_true])]
  refine wpAny_bind (listItems_at h1 hd (wpAny_bind (listItems_at (xs := #[]) (n := 0) h2 rfl ?_)))
  rw [if_neg (by simp)]
  refine wpAny_bind (listUpdate_at (xs := #[]) (n := 0) h2 rfl ?_ (Nat.zero_le _) (by simp only [Array.size_append, List.size_toArray]; simp; omega))
  refine wpAny_pure (wpAny_bind (wpAny_load (get?_update_seq h2 _) ?_))
  show wpAny _ _ (pure ((#[] : Array Value) ++ vs.toArray).toList) Q E _
  rw [show ((#[] : Array Value) ++ vs.toArray).toList = vs by simp]
  exact wpAny_pure h
/-- sorted(t), t a tuple of ints -/
theorem sortedT {l : Addr} {vs : List Value} {ns : List Int} {Q : Value → Shared → Prop} (hl : IsTup s.heap l vs.toArray) (hi : IntsAre vs ns) (hz : vs.length ≤ sizeLine)
    (h : ∀ out : List Value, SrtO.Srtd SrtO.ltIv out → SrtO.Stb SrtO.ltIv out vs → Q (.ref (s.heap.objs.size + 1)) { s with heap := sortedAll s.heap vs out.toArray }) : wpAny (model prog w) A (call (.builtin "sorted") [.ref l]) Q E s := by
  refine Calls.call_function_entry kind_sorted plain_sorted entry_sorted (args_sorted1 _) ?_
  unfold Builtin.«sorted»
  refine wpAny_bind (m := checkCount "sorted" 1 1 _) (wpAny_pure (wpAny_bind (collectT hl hz (wpAny_bind (wpAny_newList ?_ hz)))))
  have e1 : ((s.heap.push (seqObj "list" #[] 0)).update s.heap.objs.size (Obj.mapSeq (· ++ vs.toArray))).objs.size = s.heap.objs.size + 1 := by rw [Heap.size_update, size_push']
  have e2 : (((s.heap.push (seqObj "list" #[] 0)).update s.heap.objs.size (Obj.mapSeq (· ++ vs.toArray))).push (seqObj "list" vs.toArray 0)).get? (s.heap.objs.size + 1) = some (seqObj "list" vs.toArray 0) := by
    rw [← e1]; exact Heap.get?_push_size _ rfl
  rw [e1]
  refine wpAny_bind (wpAny_holding (wpAny_call_entry slot_list_sort ⟨_, e2, rfl⟩ entry_list_sort (SrtO.list_sort_ord SrtO.swo_int e2 hz (fun h2 => SrtO.ints_sortable hi h2) fun out hs hb => ⟨_, rfl, ?_⟩) (args_list_sort _)))
  exact wpAny_pure ⟨_, rfl, h out hs hb⟩
end
/-- sorted(xs), a list or a tuple of ints -/
def rSrt (K : PySem.W.Frag) : List V → Hp → VK → Prop := fun vs H Q => ∃ (a : Addr) (ns : List Int), vs = [V.ref a] ∧ (SqL K H a (ns.map V.int) ∨ SqT K H a (ns.map V.int)) ∧
  ∀ (ns' : List Int) (p : Addr), ns'.Perm ns → ns'.Pairwise (· ≤ ·) → H p = none → Q (.ref p) (upd H p (.lst (ns'.map V.int)))
theorem cr_srt {X : Cx} : CallR X (.builtin "sorted") (rSrt X.K) := by
  intro pins s σ H vs us Q I r h
  obtain ⟨a, ns, rfl, hs | hs, q⟩ := h
  · exact cr_sortedI pins s σ H _ us Q I r ⟨a, ns, rfl, hs, q⟩
  · obtain ⟨its, rv, hl, hz⟩ := I.tuple hs
    rw [Vals.ref1 r]
    have hi := rv.ints
    refine sortedT hl hi (by rw [← rv.length]; exact hz) fun out h1 h2 => ?_
    obtain ⟨k1, k2, k3⟩ := SrtO.ints_out hi h1 h2
    obtain ⟨ep, he'⟩ := PyProof.Rows.sortedAll_at s.heap its out.toArray
    have hlen : ((out.map SrtO.iv).map V.int).length ≤ sizeLine := by
      rw [List.length_map, k2.length_eq]
      rw [List.length_map] at hz
      exact hz
    exact ⟨.ref _, upd H (s.heap.objs.size + 1) (.lst ((out.map SrtO.iv).map V.int)), I.laid (t' := s.toks) (fun _ _ => PyProof.Rows.sortedAll_old) (Nat.le_succ _) ⟨hlen, out, ep, vals_of_ints k1, he'⟩, rfl, q _ _ k2 k3 (I.hok.fresh (Nat.le_succ _))⟩
/-- the ascending list -/
def isort (ns : List Int) : List Int := ns.mergeSort (· ≤ ·)
theorem isort_perm (ns : List Int) : (isort ns).Perm ns := List.mergeSort_perm _ _
theorem isort_up (ns : List Int) : (isort ns).Pairwise (· ≤ ·) := by
  have := List.pairwise_mergeSort (le := fun a b : Int => decide (a ≤ b)) (fun a b c h1 h2 => by simp only [decide_eq_true_eq] at *; omega) (fun a b => by simp only [Bool.or_eq_true, decide_eq_true_eq]; omega) ns
  exact this.imp fun h => of_decide_eq_true h
theorem isort_uniq {a b : List Int} (p : a.Perm b) (h1 : a.Pairwise (· ≤ ·)) (h2 : b.Pairwise (· ≤ ·)) : a = b := p.eq_of_pairwise (fun x y _ _ h1 h2 => Int.le_antisymm h1 h2) h1 h2
theorem isort_of {ns ms : List Int} (p : ms.Perm ns) (h : ms.Pairwise (· ≤ ·)) : ms = isort ns := isort_uniq (p.trans (isort_perm ns).symm) h (isort_up ns)
section
variable {G : Gx} {W : WX} {pr : Addr → Prop} {io : List (Nat × V)} {σ : L2.St} {s s1 : Sx} {ios : List Nat} {Q : VK} {X : Cx} {a b c : Expr} {pos p : Pos} {x : Str} {ga gb gc : Ev}
def opSort (t : Tm) : Option Tm := match toD t with
  | .lst xs => (intsD xs).map fun ns => .v .O (.lst ((isort ns).map .int))
  | .tup xs => (intsD xs).map fun ns => .v .O (.lst ((isort ns).map .int))
  | .kt => some (.v .O (.lst []))
  | _ => none
def eSorted : Ev → Ev := eOp1 opSort
theorem kt_mono {K : PySem.W.Frag} {H : Hp} {a : Addr} {xs : List V} (h : SqT K (fun _ => none) a xs) : SqT K H a xs := by
  rcases h with h | h
  · exfalso
    rcases h with h | ⟨o, h⟩ <;> cases h
  · exact .inr h
/-! ### repr(x) -/
def reprD (d : D) : Option D := match toPy d with
  | some (.tuple ds) => if PyData.showable (.tuple ds) = true ∧ PyData.hasDict (.tuple ds) = false ∧ PyData.depth (.tuple ds) < 60 ∧ (PyData.shown (.tuple ds)).length ≤ sizeLine then some (.str (PyData.shown (.tuple ds))) else none
  | some (.list ds) => if PyData.showable (.list ds) = true ∧ PyData.hasDict (.list ds) = false ∧ PyData.depth (.list ds) < 60 ∧ (PyData.shown (.list ds)).length ≤ sizeLine then some (.str (PyData.shown (.list ds))) else none
  | some (.int i) => if i.natAbs.log2 < 1920 then some (.str (toString i)) else none
  | _ => none
def rReprC (X : Cx) : List V → Hp → VK → Prop := fun vs H Q => ∃ (a : Addr) (d : PyData), vs = [V.ref a] ∧ Dp X.K H (.ref a) d ∧ PyData.showable d = true ∧ PyData.hasDict d = false ∧ PyData.depth d < 60 ∧ (PyData.shown d).length ≤ sizeLine ∧ Q (.str d.shown) H
theorem cr_reprC {k : Nat} (hr : RoomG k X.A) : CallR X (.builtin "repr") (rReprC X) := by
  intro pins s σ H vs us Q I r h
  obtain ⟨a, d, rfl, hd, h1, h2, h3, h4, q⟩ := h
  rw [Vals.ref1 r]
  obtain ⟨as, rd⟩ := Dp.reads I d _ (.ref a) hd rfl
  have hu := hr.r.un
  exact repr_of_reads' rd h1 (PyData.noDict_hsm h2) hr.g (by omega) (fun _ _ e => e) (fun h' u tk hk => ⟨.str d.shown, H, I.kept hk, ⟨u, rfl⟩, q⟩) h4
def rRepr (X : Cx) : List V → Hp → VK → Prop := fun vs H Q => (∃ i, vs = [.int i] ∧ i.natAbs.log2 < 1920 ∧ Q (.str (toString i)) H) ∨ rReprC X vs H Q
theorem cr_repr {k : Nat} (hr : RoomG k X.A) : CallR X (.builtin "repr") (rRepr X) := by
  intro pins s σ H vs us Q I r h
  rcases h with h | h
  · exact SkE.call_repr_int pins s σ H vs us Q I r h
  · exact cr_reprC hr pins s σ H vs us Q I r h
def eRepr : Ev → Ev := eOp1 (rd1 reprD)
end
end PV

namespace PV
open PySem PySem.Spec L2

/-! ### tuple(range(..)), list(range(..)) -/
section
variable {G : Gx} {W : WX} {pr : Addr → Prop} {io : List (Nat × V)} {σ : L2.St} {s s1 : Sx} {ios : List Nat} {Q : VK} {X : Cx} {a b c : Expr} {pos p pos2 p2 : Pos} {x : Str} {ga gb gc : Ev}
theorem OuP.mono {o : Ou} {Q' : VK} (h : OuP G W pr io σ s o Q) (i : ∀ v H, Q v H → Q' v H) : OuP G W pr io σ s o Q' := by
  cases o with
  | ok t ρ => exact fun v s' ot h1 h2 h3 h4 h5 => i _ _ (h v s' ot h1 h2 h3 h4 h5)
  | ex e ρ => exact h
  | no => exact h
def rgD (i j : Int) : List D := (List.range (j - i).toNat).map fun (n : Nat) => .int (i + (n : Int))
def rgB (i j : Int) : Bool := decide (-(2 ^ 62) ≤ i ∧ i < 2 ^ 62 ∧ -(2 ^ 62) ≤ j ∧ j < 2 ^ 62 ∧ (j - i).toNat ≤ 2 ^ 24)
def opRg (tup : Bool) (t u : Tm) : Option Tm := match toD t, toD u with
  | .int i, .int j => if rgB i j = true then some (if tup = true then .v .F (.tup (rgD i j)) else .v .O (.lst (rgD i j))) else none
  | _, _ => none
def eTupR (tup : Bool) : Ev → Ev → Ev := eOp2 (opRg tup)
def eZ : Ev := fun ρ => .ok (.v .F (.int 0)) ρ
end

/-! ### the head: a law's promise at the heap behind the top -/
section
open PyProof.Rows
/-- what holds of a law's call -/
def LawEnd (P : Program) (w : World) (fa a : Addr) (s₁ : Shared) : Prop := codeAny (model P w) callerA (.call (.ref fa) ⟨[.ref a], []⟩) (fun r s' => r = .ok (.ret (.bool true)) ∧ OldK s₁.heap s'.heap ∧ s'.os = s₁.os ∧ AllBare s'.gens) s₁
theorem lawEnd {P : Program} {w : World} {K : PySem.W.Frag} {mg mb : Str → Option Value} {k : Nat} {fa a : Addr} {fd : FuncData} {x : Str} {sp : Sp} {s₁ : Shared} {vs : List Value} {ns : List Int}
    (KX : K.In s₁.heap) (hns : s₁.heap.Ns mainGlobals mg) (hb : s₁.heap.Ns builtinsNs mb) (hbb : ∀ x : Str, x ≠ "__name__" → mb x = bootBuiltins x) (hlim : s₁.heap.NoLimit) (hg : s₁.gens = #[])
    (ha : s₁.heap.get? a = some { cls := .type "list", data := .seq vs.toArray }) (hi : IntsAre vs ns) (hl : ns.length ≤ sizeLine) (hr : RoomG k callerA)
    (F : ∀ base : Heap, K.In base → base.Ns mainGlobals mg → FnG P w K mg base k fa fd [x] sp) (hbind : ∀ (s : Shared) (u : Value), BindsTo s fd ⟨[u], []⟩ [(x, u)])
    (hsp : ∀ H : Hp, Only H → SqL K H a (ns.map V.int) → sp [.ref a] H (fun v _ => v = .bl true) fun _ _ _ => False) : LawEnd P w fa a s₁ := by
  have rv := vals_ints hi
  have go : ∀ H : Hp, Only H → SqL K H a (ns.map V.int) → HOk P w H s₁.heap → (∀ b, H b ≠ none → b = a ∧ K.lookup a = none) → LawEnd P w fa a s₁ := by
    intro H hO hS hok hA
    have old : ∀ {b : Addr} {o : Obj}, s₁.heap.get? b = some o → b ≠ a ∨ K.lookup a ≠ none → (hidT s₁.heap H).get? b = some o := fun {b o} e n => hidT_get e (by
      cases q : H b with
      | none => rfl
      | some u =>
        obtain ⟨z1, z2⟩ := hA b (by rw [q]; simp)
        rcases n with n | n
        · exact absurd z1 n
        · exact absurd z2 n)
    have space : ∀ {b : Addr} {m : Str → Option Value}, s₁.heap.Ns b m → (hidT s₁.heap H).Ns b m := fun {b m} ⟨o, es, ep, e, d, r⟩ => ⟨o, es, ep, old e (.inl fun z => by
      subst z
      rw [ha] at e
      cases e
      cases (show Data.seq vs.toArray _ = Data.dict es ep from d)), d, r⟩
    have kin : K.In (hidT s₁.heap H) := fun b o e => old (KX b o e) (by
      by_cases z : b = a
      · subst z; exact .inr (by rw [e]; simp)
      · exact .inl z)
    obtain ⟨mc, l1, l2⟩ := hlim
    have e0 : Env0 P w K mg (hidT s₁.heap H) callerA [] s₁ H := ⟨rfl, ⟨kin, space hns, ⟨mb, space hb, hbb⟩, mc, space l1, l2⟩, fun b o e => of_hidT e, Nat.le_of_eq (hidT_size _ _), trivial, fun b z => (List.not_mem_nil z).elim, hok, .of_eq hg⟩
    refine codeAny_mono ((F _ kin (space hns)).go callerA [] s₁ H ⟨[.ref a], []⟩ [.ref a] [.ref a] _ _ hr e0 (hbind s₁ (.ref a)) (.cons rfl .nil) (hsp H hO hS)) fun r s' h => ?_
    match r, h with
    | .error e, h => obtain ⟨_, _, _, _, _, _, _, _, _, _, _, _, z⟩ := h; exact z.elim
    | .ok .next, h => exact h.elim
    | .ok .brk, h => exact h.elim
    | .ok .cont, h => exact h.elim
    | .ok (.ret u), h =>
      obtain ⟨v, H', os, bare, un, hok', r', q⟩ := h
      cases (show v = .bl true from q)
      cases (show u = Value.bool true from r')
      refine ⟨rfl, OldK.of_keep fun b o e => ?_, os, bare⟩
      rcases hO b with z | ⟨ob, xs, z⟩
      · exact un.keep b o e z (fun y => (List.not_mem_nil y).elim) (by simp)
      · have z1 := (hok b _ z).1
        have z2 := (hok' b _ (un.frzs b ob _ z)).1
        rw [e] at z1
        cases z1
        exact z2
  by_cases hk : K.lookup a = none
  · refine go (fun b => if b = a then some (.frz { cls := .type "list", data := .seq vs.toArray } (.lst (ns.map V.int))) else none) (fun b => ?_) (.inl (.inr ⟨{ cls := .type "list", data := .seq vs.toArray }, if_pos rfl⟩)) (fun b u z => ?_) fun b z => ?_
    · by_cases e : b = a
      · exact .inr ⟨_, _, if_pos e⟩
      · exact .inl (if_neg e)
    · by_cases e : b = a
      · have z' := (if_pos e).symm.trans z
        cases z'
        subst e
        exact ⟨ha, by rw [List.length_map]; exact hl, vs, _, rv, ha⟩
      · cases (if_neg e).symm.trans z
    · by_cases e : b = a
      · exact ⟨e, hk⟩
      · exact absurd (if_neg e) z
  · obtain ⟨o, ho⟩ := Option.ne_none_iff_exists'.mp hk
    have e := KX a o ho
    rw [ha] at e
    cases e
    exact go (fun _ => none) (fun _ => .inl rfl) (.inr ⟨_, vs.toArray, _, ho, rfl, rfl, rfl, by rw [List.size_toArray, hi.length]; exact hl, by simpa using rv⟩) (fun b u z => by cases (show (none : Option HO) = some u from z)) fun b z => absurd rfl z
end
end PV

namespace PV
open PySem PySem.Spec L2

/-! ### the end -/
theorem walkG {l : PySem.W.OpenLaw} {n k : Nat} {q : Program} {loose : List Str} {XP : (Str → Option Value) → Heap → Prop} {YP : World → Heap → Prop} {d : DefRec} {K : Params → PySem.W.Frag} {x : Str} {f : Fn}
    (hn : l.most = some n) (hn2 : n ≤ sizeLine) (hdf : d.params.defaults = []) (hr : RoomG k callerA) (hY : ∀ (w : World) (h : Heap), YP w h → (K w.params).In h)
    (hf : ∀ ns : List Int, ns.length ≤ n → f [.v .B (.scr ns)] = .ok (.v .F (.bl true)) [])
    (F : ∀ (w : World) (mg : Str → Option Value) (fa : Addr) (h : Heap), (K w.params).In h → h.Ns mainGlobals mg → mg d.name = some (.ref fa) →
      ∃ (fd : FuncData) (G : Gx), G.K = K w.params ∧ (∀ (s : Shared) (u : Value), BindsTo s fd ⟨[u], []⟩ [(x, u)]) ∧ ∀ base : Heap, (K w.params).In base → base.Ns mainGlobals mg → FnG l.prog w (K w.params) mg base k fa fd [x] (spV G 1 [] f)) :
    PySem.W.WalkO q loose XP YP l.row.toRowW d [] (fun f vs => PySem.call f vs) := by
  refine Att.attach_call hn hdf fun w s₀ s₁ mg mb fa o pm cd doc a vs ns G0 Y ho hd hcd hmg hobj hints hlen hg => ?_
  have KX := hY w _ Y
  obtain ⟨fd, G, hGK, hb, hF⟩ := F w mg fa _ KX G0.T.g hmg
  refine lawEnd KX G0.T.g G0.T.b G0.T.builtins G0.T.nolimit hg hobj hints (Nat.le_trans hlen hn2) hr hF hb fun H hO hS => ?_
  have hsc : ScrAt G.K H a (ns.map id) := by
    rw [List.map_id]
    rcases hS with (h | ⟨o, h⟩) | h
    · rcases hO a with z | ⟨o, xs, z⟩
      · rw [z] at h; cases h
      · rw [z] at h; cases h
    · exact .inl ⟨o, h⟩
    · exact .inr (.inr (hGK ▸ h))
  rw [List.map_id] at hsc
  refine ⟨rfl, fun _ => False, [], { H := H, fz := fun _ => False, os := [], ρ := [some (.v .B (.scr ns))] }, [.v .B (.scr ns)], rfl, rfl, rfl, ⟨?_, List.nodup_nil, fun a ha => (List.not_mem_nil ha).elim, fun a h => (h.elim id id).elim, fun p hp => (List.not_mem_nil hp).elim⟩, ?_⟩
  · simp only [List.map_cons, List.map_nil, Sl]
    refine ⟨.ref a, [], [], [], rfl, rfl, ?_, rfl, rfl⟩
    simp only [TmR, Rep]
    exact ⟨trivial, a, rfl, hsc⟩
  · rw [hf ns hlen]
    intro v s' oio ot x dom hu ht _ _
    simp only [TmR, Rep] at ht
    exact ht.2
end PV

namespace PV
open PySem PySem.Spec L2
section
variable {G : Gx} {W : WX} {pr : Addr → Prop} {io : List (Nat × V)} {σ : L2.St} {s s1 : Sx} {ios : List Nat} {Q : VK} {X : Cx} {a b c : Expr} {pos p px py pz pt pt2 : Pos} {kt k2 : Nat} {x y z name : Str} {ga gb gc : Ev} {k : Nat}
/-! ### a, b = x, y -/
def stAll : List Nat → List Tm → Ss → Option Ss
  | [], [], ρ => some ρ
  | i :: is, t :: ts, ρ => if isLoc t = false ∧ i < ρ.length then stAll is ts (ρ.set i (some t)) else none
  | _, _, _ => none
def setAll : L2.St → List Nat → List V → L2.St
  | σ, i :: is, v :: vs => setAll (σ.set i (some v)) is vs
  | σ, _, _ => σ
theorem SR.storeX (r : SR G pr io σ s1) {t : Tm} {v : V} {ot : List Addr} (p : Tp G pr σ s1 t v ot) (hl : isLoc t = false) {i : Nat} (hi : i < s1.ρ.length) (hio : i ∉ io.map Prod.fst) :
    ∃ os', SR G pr io (σ.set i (some v)) { s1 with ρ := s1.ρ.set i (some t), os := os' } ∧ ∀ a ∈ os', a ∈ s1.os ∨ a ∈ ot := by
  obtain ⟨os', r2, x2⟩ := r.store (s := { s1 with os := s1.os ++ ot }) Ext.minus p (fun a ha => .inl (List.mem_append_right _ ha)) hl hi hio
  refine ⟨os', r2, fun a ha => ?_⟩
  rcases x2.oso a ha with h | h
  · exact List.mem_append.mp h
  · exact absurd h (r2.own a ha).ne
theorem stAll_ok : ∀ {is : List Nat} {ts : List Tm} {vs : List V} {ot : List Addr} {s1 : Sx} {σ : L2.St} {ρ2 : Ss}, SR G pr io σ s1 → Ext s s1 → TmRs G s1.H s1.fz pr ts vs ot → ot.Nodup → (∀ a ∈ ot, ¬ s1.fz a ∧ ¬ pr a ∧ a ∉ s1.os) → Frs s ot → (∀ i ∈ is, i ∉ io.map Prod.fst) →
    stAll is ts s1.ρ = some ρ2 → ∃ os', SR G pr io (setAll σ is vs) { s1 with ρ := ρ2, os := os' } ∧ Ext s { s1 with ρ := ρ2, os := os' }
  | [], [], vs, ot, s1, σ, ρ2, r, x, h, nd, sep, f, hio, e => by
    simp only [stAll, Option.some.injEq] at e
    subst e
    simp only [TmRs] at h
    obtain ⟨rfl, rfl⟩ := h
    exact ⟨s1.os, r, x⟩
  | [], t :: ts, vs, ot, s1, σ, ρ2, r, x, h, nd, sep, f, hio, e => by simp [stAll] at e
  | i :: is, [], vs, ot, s1, σ, ρ2, r, x, h, nd, sep, f, hio, e => by simp [stAll] at e
  | i :: is, t :: ts, vs, ot, s1, σ, ρ2, r, x, h, nd, sep, f, hio, e => by
    simp only [TmRs] at h
    obtain ⟨v, vr, o1, o2, rfl, rfl, h1, h2⟩ := h
    rw [List.nodup_append] at nd
    simp only [stAll] at e
    split at e
    · rename_i hc
      obtain ⟨os1, r2, k2⟩ := r.storeX ⟨loc_of h1, nd.1, fun a ha => sep a (List.mem_append_left _ ha)⟩ hc.1 hc.2 (hio i List.mem_cons_self)
      have x2 : Ext s { s1 with ρ := s1.ρ.set i (some t), os := os1 } := ⟨x.keep, x.dom, x.tk, x.fz, x.fzo, fun a ha => (k2 a ha).elim (x.oso a) fun z => f a (List.mem_append_left _ z)⟩
      exact stAll_ok (is := is) (ts := ts) (vs := vr) (ot := o2) (s1 := { s1 with ρ := s1.ρ.set i (some t), os := os1 }) r2 x2 h2 nd.2.1 (fun a ha => ⟨(sep a (List.mem_append_right _ ha)).1, (sep a (List.mem_append_right _ ha)).2.1, fun z => (k2 a z).elim (sep a (List.mem_append_right _ ha)).2.2 fun y => nd.2.2 a y a ha rfl⟩)
        (fun a ha => f a (List.mem_append_right _ ha)) (fun j hj => hio j (List.mem_cons_of_mem _ hj)) e
    · cases e
theorem stAll_loc : ∀ {is : List Nat} {ts : List Tm} {ρ ρ2 : Ss}, stAll is ts ρ = some ρ2 → (ts.all fun t => match t with | .loc _ => false | _ => true) = true
  | [], [], ρ, ρ2, e => rfl
  | [], t :: ts, ρ, ρ2, e => by simp [stAll] at e
  | i :: is, [], ρ, ρ2, e => rfl
  | i :: is, t :: ts, ρ, ρ2, e => by
    simp only [stAll] at e
    split at e
    · rename_i hc
      rw [List.all_cons, stAll_loc e, Bool.and_true]
      cases t with
      | loc i => simp [isLoc] at hc
      | _ => rfl
    · cases e
def sPar (is : List Nat) (gs : Ss → OuL) : Sm := fun ρ => match gs ρ with
  | .ok ts ρ1 => match stAll is ts ρ1 with
    | some ρ2 => .nx ρ2
    | none => .no
  | .ex e ρ1 => .ex e ρ1
  | .no => .no
theorem par_read {is : List Nat} {gs : Ss → OuL} {D : Ends} {H : Hp} (hio : ∀ i ∈ is, i ∉ ios) (q : tSv G W ios (sPar is gs) D σ H) : tEvs G W ios gs σ H fun vs H1 => vs.length = is.length ∧ D.nx (setAll σ is vs) H1 := by
  obtain ⟨pr, io, s, rfl, hi, r, q⟩ := of_tSv q
  refine tEvs_of hi r ?_
  unfold sPar at q
  cases e : gs s.ρ with
  | no => rw [e] at q; exact q.elim
  | ex e' ρ' => rw [e] at q; exact fun cls d s' h1 h2 h3 h4 => q cls d σ s' h1 h2 h3 h4
  | ok ts ρ' =>
    rw [e] at q
    intro vs s1 ot e1 r1 x1 p1 f1
    subst e1
    dsimp only at q
    cases e2 : stAll is ts s1.ρ with
    | none => rw [e2] at q; exact q.elim
    | some ρ2 =>
      rw [e2] at q
      have hl : ∀ {is : List Nat} {ts : List Tm} {ρ ρ2 : Ss}, stAll is ts ρ = some ρ2 → ts.length = is.length := by
        intro is
        induction is with
        | nil => intro ts ρ ρ2 e; cases ts <;> simp [stAll] at e ⊢
        | cons i is ih =>
          intro ts ρ ρ2 e
          cases ts with
          | nil => simp [stAll] at e
          | cons t ts =>
            simp only [stAll] at e
            split at e
            · simp [ih e]
            · cases e
      obtain ⟨os', r2, x2⟩ := stAll_ok r1 x1 (p1.rel.tm (stAll_loc e2)) p1.nd p1.sep f1 (fun i h => by rw [hi]; exact hio i h) e2
      exact ⟨by rw [← p1.rel.len]; exact hl e2, q _ { s1 with ρ := ρ2, os := os' } rfl r2 x2⟩
theorem OuLP.mono {o : OuL} {Q Q' : List V → Hp → Prop} (h : OuLP G W pr io σ s o Q) (i : ∀ v H, Q v H → Q' v H) : OuLP G W pr io σ s o Q' := by
  cases o with
  | ok t ρ => exact fun v s' ot h1 h2 h3 h4 h5 => i _ _ (h v s' ot h1 h2 h3 h4 h5)
  | ex e ρ => exact h
  | no => exact h
theorem s_par3 {i j l : Nat} {gs : Ss → OuL} (hc : X.calm = true) (hN : X.N.Nodup) (hij : i ≠ j) (hil : i ≠ l) (hjl : j ≠ l) (hio : ∀ n ∈ [i, j, l], n ∉ ios) (ha : PAv X G W ios [a, b, c] gs) (hi : X.N[i]? = some x := by rfl) (hj : X.N[j]? = some y := by rfl) (hl : X.N[l]? = some z := by rfl)
    (hx : X.env.scope.names.lookup x = some .local := by rfl) (hy : X.env.scope.names.lookup y = some .local := by rfl) (hz : X.env.scope.names.lookup z = some .local := by rfl)
    (hw : swappedStores [.Tuple [.Name x px, .Name y py, .Name z pz] kt pt] (.Tuple [a, b, c] k2 pt2) X.env = pure (some [x, y, z]) := by rfl) (hs : swapsWithSole [.Tuple [.Name x px, .Name y py, .Name z pz] kt pt] (.Tuple [a, b, c] k2 pt2) pos.line X.env = pure false := by rfl) :
    PSv X G W ios (.Assign [.Tuple [.Name x px, .Name y py, .Name z pz] kt pt] (.Tuple [a, b, c] k2 pt2) pos) (sPar [i, j, l] gs) := ps_imp (ps_par3 hc hN hi hj hl hij hil hjl hx hy hz ha hw hs) fun D σ H q => by
  have h := par_read hio q
  obtain ⟨pr, io, s, rfl, hi, r, h⟩ := of_tEvs h
  refine (tEvs_of hi r (OuLP.mono h fun vs H1 h => ?_) : tEvs G W ios gs σ s.H _)
  obtain ⟨h1, h2⟩ := h
  match vs, h1 with
  | [v, w, u], _ => exact ⟨v, w, u, rfl, h2⟩

/-! ### tests by comparison -/
theorem t_eq (hr : Room k X.A) (ha : PEv X G W ios a ga) (hb : PEv X G W ios b gb) : PTv X G W ios (.Compare a [.Eq] [b] pos) (eEq ga gb) := t_cmp (op_eq.or (op_eqD hr.units)) (Rd2.op rdEq) ha hb (nomark _)
theorem t_ne (hr : Room k X.A) (ha : PEv X G W ios a ga) (hb : PEv X G W ios b gb) : PTv X G W ios (.Compare a [.NotEq] [b] pos) (eNe ga gb) := t_cmp (op_ne.or (op_neD hr.units)) (Rd2.op rdNe) ha hb (nomark _)
theorem t_lt (ha : PEv X G W ios a ga) (hb : PEv X G W ios b gb) : PTv X G W ios (.Compare a [.Lt] [b] pos) (eLt ga gb) := t_cmp op_lt (Rd2.op rdC) ha hb (nomark _)
theorem t_gt (ha : PEv X G W ios a ga) (hb : PEv X G W ios b gb) : PTv X G W ios (.Compare a [.Gt] [b] pos) (eGt ga gb) := t_cmp op_gt (Rd2.op rdC) ha hb (nomark _)
theorem t_ge (ha : PEv X G W ios a ga) (hb : PEv X G W ios b gb) : PTv X G W ios (.Compare a [.GtE] [b] pos) (eGe ga gb) := t_cmp op_ge (Rd2.op rdC) ha hb (nomark _)
theorem t_notN (ha : PEv X G W ios a ga) (hb : PEv X G W ios b gb) : PTv X G W ios (.Compare a [.IsNot] [b] pos) (eNotN ga gb) := t_cmp op_notN (Rd2.op rdNotN) ha hb (nomark _)
/-- a sign changed -/
def negD : D → Option D
  | .int i => some (.int (-i))
  | _ => none
def eNeg : Ev → Ev := eOp1 (rd1 negD)
theorem v_neg (ha : PEv X G W ios a ga) : PEv X G W ios (.UnaryOp .USub a pos) (eNeg ga) := v_un un_neg (Rd1.op (by
  intro H x dx d Q hx e q
  cases dx <;> simp only [negD, Option.some.injEq, reduceCtorEq] at e
  subst e
  simp only [Rep] at hx
  subst hx
  exact ⟨_, rfl, q _ fun P => by simp only [Rep]⟩)) ha
/-! ### op= on ints -/
def addI2 : Tm → Tm → Option Tm := rd2 (dI2 fun i j => some (i + j))
def subI2 : Tm → Tm → Option Tm := rd2 (dI2 fun i j => some (i - j))
def mulI2 : Tm → Tm → Option Tm := rd2 (dI2 mulI)
end
end PV

namespace PV
open PySem PySem.Spec L2
def eN : Ev := eC .non
/-- an empty tuple's object -/
def tupE (o : Obj) : Bool := match o with
  | ⟨.type "tuple", none, .seq its _, _⟩ => its.isEmpty
  | _ => false
end PV

namespace PV
open PySem PySem.Spec L2
/-! ### evaluating by rewriting -/
section
variable {t u : Tm} {ρ : Ss} {k : Tm → Ss → Ou} {kL : Tm → Ss → OuL} {kk : List Tm → Ss → Ou} {kkL : List Tm → Ss → OuL} {kF : Tm → Ss → Fl} {ts : List Tm} {e : Er}
@[simp] theorem bind_ok : (Ou.ok t ρ).bind k = k t ρ := rfl
@[simp] theorem bind_ex : (Ou.ex e ρ).bind k = .ex e ρ := rfl
@[simp] theorem bind_no : Ou.no.bind k = .no := rfl
@[simp] theorem bindL_ok : (Ou.ok t ρ).bindL kL = kL t ρ := rfl
@[simp] theorem lbind_ok : (OuL.ok ts ρ).bind kk = kk ts ρ := rfl
@[simp] theorem lbind_ex : (OuL.ex e ρ).bind kk = .ex e ρ := rfl
@[simp] theorem lbindL_ok : (OuL.ok ts ρ).bindL kkL = kkL ts ρ := rfl
@[simp] theorem toF_ok : (Ou.ok t ρ).toF kF = kF t ρ := rfl
@[simp] theorem toF_ex : (Ou.ex e ρ).toF kF = .ex e ρ := rfl
def Fl.nxt (o : Fl) (g : Sm) : Fl := match o with
  | .nx ρ => g ρ
  | o => o
@[simp] theorem nxt_nx {g : Sm} : (Fl.nx ρ).nxt g = g ρ := rfl
@[simp] theorem nxt_rt {g : Sm} : (Fl.rt t ρ).nxt g = .rt t ρ := rfl
@[simp] theorem nxt_ex {g : Sm} : (Fl.ex e ρ).nxt g = .ex e ρ := rfl
@[simp] theorem nxt_bk {g : Sm} : (Fl.bk ρ).nxt g = .bk ρ := rfl
@[simp] theorem nxt_ct {g : Sm} : (Fl.ct ρ).nxt g = .ct ρ := rfl
@[simp] theorem nxt_ite {c : Prop} [Decidable c] {a b : Fl} {g : Sm} : (if c then a else b).nxt g = if c then a.nxt g else b.nxt g := by split <;> rfl
@[simp] theorem seq_eq {g1 g2 : Sm} : sSeq g1 g2 ρ = (g1 ρ).nxt g2 := by unfold sSeq Fl.nxt; cases g1 ρ <;> rfl
@[simp] theorem nil_eq : sNil ρ = .nx ρ := rfl
@[simp] theorem brk_eq : sBreak ρ = .bk ρ := rfl
@[simp] theorem cnt_eq : sCont ρ = .ct ρ := rfl
@[simp] theorem ret_eq {g : Ev} : sRet g ρ = (g ρ).toF fun t ρ1 => .rt t ρ1 := rfl
@[simp] theorem retN_eq : sRetN ρ = .rt (.v .F .non) ρ := rfl
@[simp] theorem expr_eq {g : Ev} : sExpr g ρ = (g ρ).toF fun _ ρ1 => .nx ρ1 := rfl
def iteT {α : Type} (o : Option Bool) (a b n : α) : α := match o with
  | some true => a
  | some false => b
  | none => n
@[simp] theorem iteT_some {α : Type} {b : Bool} {x y n : α} : iteT (some b) x y n = if b = true then x else y := by cases b <;> rfl
@[simp] theorem sif_eq {gc : Ev} {g1 g2 : Sm} : sIf gc g1 g2 ρ = (gc ρ).toF fun t ρ1 => iteT (asB t) (g1 ρ1) (g2 ρ1) .no := by
  unfold sIf iteT
  rfl
@[simp] theorem eif_eq {gc g1 g2 : Ev} : eIf gc g1 g2 ρ = (gc ρ).bind fun t ρ1 => iteT (asB t) (g1 ρ1) (g2 ρ1) .no := by
  unfold eIf iteT
  rfl
@[simp] theorem eand_eq {g1 g2 : Ev} : eAnd g1 g2 ρ = (g1 ρ).bind fun t ρ1 => iteT (asB t) (g2 ρ1) (.ok (.v .F (.bl false)) ρ1) .no := by
  unfold eAnd iteT
  rfl
@[simp] theorem eor_eq {g1 g2 : Ev} : eOr g1 g2 ρ = (g1 ρ).bind fun t ρ1 => iteT (asB t) (.ok (.v .F (.bl true)) ρ1) (g2 ρ1) .no := by
  unfold eOr iteT
  rfl
def okO (o : Option Tm) (ρ : Ss) : Ou := match o with
  | some r => .ok r ρ
  | none => .no
@[simp] theorem okO_some : okO (some t) ρ = .ok t ρ := rfl
@[simp] theorem okO_none : okO none ρ = .no := rfl
@[simp] theorem okO_ite {c : Prop} [Decidable c] {a b : Option Tm} : okO (if c then a else b) ρ = if c then okO a ρ else okO b ρ := by split <;> rfl
@[simp] theorem enot_eq {g : Ev} : eNot g ρ = (g ρ).bind fun t ρ1 => okO ((asB t).map fun b => .v .F (.bl (!b))) ρ1 := by
  unfold eNot okO
  congr 1
  funext t ρ1
  cases asB t <;> rfl
@[simp] theorem op1_eq {f : Tm → Option Tm} {g : Ev} : eOp1 f g ρ = (g ρ).bind fun t ρ1 => okO ((derT ρ1 t).bind f) ρ1 := rfl
@[simp] theorem op2_eq {f : Tm → Tm → Option Tm} {ga gb : Ev} : eOp2 f ga gb ρ = (ga ρ).bind fun t ρ1 => (gb ρ1).bind fun u ρ2 => okO ((derT ρ2 t).bind fun x => (derT ρ2 u).bind fun y => f x y) ρ2 := by
  unfold eOp2 okO
  congr 1
  funext t ρ1
  congr 1
  funext u ρ2
  rcases derT ρ2 t with _ | a <;> rcases derT ρ2 u with _ | b <;> try rfl
  all_goals (simp only [Option.bind_some]; cases f a b <;> rfl)
@[simp] theorem der_v {k : Kd} {d : D} : derT ρ (.v k d) = some (.v k d) := rfl
@[simp] theorem der_ob {c : Nat} : derT ρ (.ob c ts) = some (.ob c ts) := rfl
@[simp] theorem c_eq {d : D} : eC d ρ = .ok (.v .F d) ρ := rfl
@[simp] theorem n_eq : eN ρ = .ok (.v .F .non) ρ := rfl
@[simp] theorem z_eq : eZ ρ = .ok (.v .F (.int 0)) ρ := rfl
@[simp] theorem true_eq : eTrue ρ = .ok (.v .F (.bl true)) ρ := rfl
@[simp] theorem gnil_eq : gNil ρ = .ok [] ρ := rfl
@[simp] theorem gcons_eq {g : Ev} {gs : Ss → OuL} : gCons g gs ρ = (g ρ).bindL fun t ρ1 => (gs ρ1).bindL fun ts ρ2 => .ok (t :: ts) ρ2 := rfl
@[simp] theorem call_eq {f : Fn} {ms : List Md} {gs : Ss → OuL} : eCall f ms gs ρ = (gs ρ).bind (callF f ms) := rfl
@[simp] theorem toD_v {k : Kd} {d : D} : toD (.v k d) = d := by unfold toD; rfl
@[simp] theorem asB_v {k : Kd} {b : Bool} : asB (.v k (.bl b)) = some b := rfl
@[simp] theorem asI_v {k : Kd} {i : Int} : asI (.v k (.int i)) = some i := rfl
@[simp] theorem isLoc_v {k : Kd} {d : D} : isLoc (.v k d) = false := rfl
@[simp] theorem isLoc_ob {c : Nat} : isLoc (.ob c ts) = false := rfl
@[simp] theorem flat_int {i : Int} : flat (.int i) = true := by unfold flat; rfl
@[simp] theorem flat_bl {i : Bool} : flat (.bl i) = true := by unfold flat; rfl
@[simp] theorem flat_str {i : Str} : flat (.str i) = true := by unfold flat; rfl
@[simp] theorem flat_non : flat .non = true := by unfold flat; rfl
@[simp] theorem flat_lst {x : List D} : flat (.lst x) = false := by unfold flat; rfl
end
/-! the body of a def -/
def endF (ios : List Nat) : Fl → Fo
  | .nx ρ => match getIo ρ ios with
    | some us => .ok (.v .F .non) us
    | none => .no
  | .rt t ρ => match unB t, getIo ρ ios with
    | some t, some us => .ok t us
    | _, _ => .no
  | .ex e ρ => match getIo ρ ios with
    | some us => .ex e us
    | none => .no
  | _ => .no
theorem defn_eq {n : Nat} {ios : List Nat} {body : Sm} {ts : List Tm} : defn n ios body ts = endF ios (body (ts.map some ++ List.replicate (n - ts.length) none)) := rfl
@[simp] theorem endF_ite {ios : List Nat} {c : Prop} [Decidable c] {a b : Fl} : endF ios (if c then a else b) = if c then endF ios a else endF ios b := by split <;> rfl
section
variable {t u : Tm} {ρ : Ss} {ts : List Tm} {e : Er} {c : Prop} [Decidable c]
@[simp] theorem bind_ite {a b : Ou} {k : Tm → Ss → Ou} : (if c then a else b).bind k = if c then a.bind k else b.bind k := by split <;> rfl
@[simp] theorem bindL_ite {a b : Ou} {k : Tm → Ss → OuL} : (if c then a else b).bindL k = if c then a.bindL k else b.bindL k := by split <;> rfl
@[simp] theorem lbind_ite {a b : OuL} {k : List Tm → Ss → Ou} : (if c then a else b).bind k = if c then a.bind k else b.bind k := by split <;> rfl
@[simp] theorem lbindL_ite {a b : OuL} {k : List Tm → Ss → OuL} : (if c then a else b).bindL k = if c then a.bindL k else b.bindL k := by split <;> rfl
@[simp] theorem toF_ite {a b : Ou} {k : Tm → Ss → Fl} : (if c then a else b).toF k = if c then a.toF k else b.toF k := by split <;> rfl
theorem var_eq {i : Nat} : eVar i ρ = match ρ[i]? with
  | some (some (.v .O d)) => .ok (.loc i) ρ
  | some (some (.v k d)) => .ok (.v k d) ρ
  | some (some t) => .ok (.loc i) ρ
  | _ => .no := rfl
@[simp] theorem sset_eq {i : Nat} {g : Ev} : sSet i g ρ = (g ρ).toF fun t ρ1 => if isLoc t = false ∧ i < ρ1.length then .nx (ρ1.set i (some t)) else .no := rfl
def nxO : Option Ss → Fl
  | some ρ => .nx ρ
  | none => .no
@[simp] theorem nxO_some : nxO (some ρ) = .nx ρ := rfl
@[simp] theorem sasg_eq {g : Ev} {tg : Tg} : sAsg tg g ρ = (g ρ).toF fun t ρ1 => nxO (tg t ρ1) := by
  unfold sAsg nxO
  rfl
@[simp] theorem tgN_eq {i : Nat} : tgN i t ρ = if isLoc t = false ∧ i < ρ.length then some (ρ.set i (some t)) else none := rfl
@[simp] theorem tgTup_F {k : Kd} {xs : List D} {gs : Tgs} : tgTup gs (.v k (.tup xs)) ρ = gs (xs.map (subK k)) ρ := rfl
@[simp] theorem tgTup_tp {gs : Tgs} : tgTup gs (.tp ts) ρ = gs ts ρ := rfl
@[simp] theorem tgsNil_eq : tgsNil [] ρ = some ρ := rfl
@[simp] theorem tgsCons_eq {g : Tg} {gs : Tgs} : tgsCons g gs (t :: ts) ρ = (g t ρ).bind fun ρ1 => gs ts ρ1 := by
  unfold tgsCons
  cases h : g t ρ <;> simp [h]
@[simp] theorem sub_F {d : D} : subK .F d = .v .F d := rfl
@[simp] theorem sub_B {d : D} : subK .B d = .v .B d := rfl
@[simp] theorem sub_O {d : D} : subK .O d = .v .F d := rfl
def frO (o : Option D) (ρ : Ss) : Ou := match o with
  | some d => .ok (.v .F d) ρ
  | none => .no
@[simp] theorem frO_some {d : D} : frO (some d) ρ = .ok (.v .F d) ρ := rfl
def eF1 (t : Tm) (ρ1 : Ss) : Ou := match t with
  | .loc i => match ρ1[i]? with
    | some (some t0) => match frz t0 with
      | some d => .ok (.v .F d) (ρ1.set i (some (.v .F d)))
      | none => .no
    | _ => .no
  | t => match frz t with
    | some d => .ok (.v .F d) ρ1
    | none => .no
@[simp] theorem ef_eq {g : Ev} : eF g ρ = (g ρ).bind eF1 := rfl
@[simp] theorem ef1_F {d : D} : eF1 (.v .F d) ρ = .ok (.v .F d) ρ := by simp [eF1, frz]
@[simp] theorem ef1_O {d : D} : eF1 (.v .O d) ρ = .ok (.v .F d) ρ := by simp [eF1, frz]
@[simp] theorem ef1_Bi {i : Int} : eF1 (.v .B (.int i)) ρ = .ok (.v .F (.int i)) ρ := by simp [eF1, frz]
@[simp] theorem ef1_Bs {i : Str} : eF1 (.v .B (.str i)) ρ = .ok (.v .F (.str i)) ρ := by simp [eF1, frz]
@[simp] theorem ef1_Bb {i : Bool} : eF1 (.v .B (.bl i)) ρ = .ok (.v .F (.bl i)) ρ := by simp [eF1, frz]
def eM1 (t : Tm) (ρ1 : Ss) : Ou := match t with
  | .loc i => match ρ1[i]? with
    | some (some t0) => .ok t0 (ρ1.set i none)
    | _ => .no
  | t => .ok t ρ1
@[simp] theorem em_eq {g : Ev} : eM g ρ = (g ρ).bind eM1 := rfl
@[simp] theorem em1_v {k : Kd} {d : D} : eM1 (.v k d) ρ = .ok (.v k d) ρ := rfl
@[simp] theorem frz_F {d : D} : frz (.v .F d) = some d := by unfold frz; rfl
@[simp] theorem frz_O {d : D} : frz (.v .O d) = some d := by unfold frz; rfl
@[simp] theorem frz_B {d : D} : frz (.v .B d) = if flat d = true then some d else none := by unfold frz; rfl
@[simp] theorem frzs_nil : frzs [] = some [] := by unfold frzs; rfl
@[simp] theorem frzs_cons : frzs (t :: ts) = (frz t).bind fun d => (frzs ts).map fun ds => d :: ds := by
  rw [frzs]
  cases frz t <;> cases frzs ts <;> rfl
@[simp] theorem unB_F {d : D} : unB (.v .F d) = some (.v .F d) := by unfold unB; rfl
@[simp] theorem unB_O {d : D} : unB (.v .O d) = some (.v .O d) := by unfold unB; rfl
@[simp] theorem unB_B {d : D} : unB (.v .B d) = if flat d = true then some (.v .F d) else none := by unfold unB; rfl
@[simp] theorem unB_ob {c : Nat} : unB (.ob c ts) = (unBs ts).map (.ob c) := by rw [unB]
@[simp] theorem unBs_nil : unBs [] = some [] := by unfold unBs; rfl
@[simp] theorem unBs_cons : unBs (t :: ts) = (unB t).bind fun d => (unBs ts).map fun ds => d :: ds := by
  rw [unBs]
  cases unB t <;> cases unBs ts <;> rfl
@[simp] theorem getIo_nil : getIo ρ [] = some [] := rfl
@[simp] theorem getIo_cons {i : Nat} {is : List Nat} : getIo ρ (i :: is) = match ρ[i]? with
  | some (some t) => match unB t, getIo (ρ.set i none) is with
    | some u, some us => some (u :: us)
    | _, _ => none
  | _ => none := rfl
theorem etup_eq {gs : Ss → OuL} : eTup gs ρ = (gs ρ).bind fun ts ρ1 => match frzs ts with
  | some ds => if ds.length ≤ sizeLine then .ok (.v .F (.tup ds)) ρ1 else .no
  | none => .no := rfl
theorem elst_eq {gs : Ss → OuL} : eLst gs ρ = (gs ρ).bind fun ts ρ1 => match frzs ts with
  | some ds => if ds.length ≤ sizeLine then .ok (.v .O (.lst ds)) ρ1 else .no
  | none => .no := rfl
@[simp] theorem endF_rt {ios : List Nat} : endF ios (.rt t ρ) = match unB t, getIo ρ ios with
    | some t, some us => .ok t us
    | _, _ => .no := rfl
@[simp] theorem endF_nx {ios : List Nat} : endF ios (.nx ρ) = match getIo ρ ios with
    | some us => .ok (.v .F .non) us
    | none => .no := rfl
end
end PV

namespace PV
open PySem L2
theorem setset {α : Type} {l : List α} {i : Nat} {a b : α} : (l.set i a).set i b = l.set i b := by simp
@[simp] theorem rngL_len {lo : Int} {n : Nat} : (rngL lo n).length = n := by simp [rngL]
theorem rngL_at {lo : Int} {n i : Nat} {t : Tm} (h : (rngL lo n)[i]? = some t) : i < n ∧ t = .v .F (.int (lo + i)) := by
  have hi : i < n := by
    have := (List.getElem?_eq_some_iff.mp h).1
    simpa using this
  unfold rngL at h
  rw [List.getElem?_map, List.getElem?_range hi] at h
  exact ⟨hi, (Option.some.inj h).symm⟩
/-- lists of ints -/
abbrev lI (ns : List Int) : D := .lst (ns.map .int)
@[simp] theorem intsD_lI (ns : List Int) : intsD (ns.map .int) = some ns := intsD_map ns
@[simp] theorem elk_ints (k : Kd) (ns : List Int) : elk k (ns.map .int) = some (ns.map .int) := by
  cases k <;> simp [elk]
/-! data of ints -/
@[simp] theorem toPys_ints : ∀ ns : List Int, toPys (ns.map .int) = some (ns.map .int)
  | [] => by simp [toPys]
  | n :: ns => by simp [toPys, toPy, toPys_ints ns]
@[simp] theorem canLay_ints : ∀ ns : List Int, PyData.canLayAll0 (ns.map .int) = true
  | [] => by simp [PyData.canLayAll0]
  | n :: ns => by simp [PyData.canLayAll0, PyData.canLay0, canLay_ints ns]
@[simp] theorem depth_ints : ∀ ns : List Int, PyData.depthAll (ns.map .int) = 0
  | [] => by simp [PyData.depthAll]
  | n :: ns => by simp [PyData.depthAll, PyData.depth, depth_ints ns]
@[simp] theorem eqv_ints : ∀ ns ms : List Int, PyData.eqvAll (ns.map .int) (ms.map .int) = decide (ns = ms)
  | [], [] => by simp [PyData.eqvAll]
  | [], m :: ms => by simp [PyData.eqvAll]
  | n :: ns, [] => by simp [PyData.eqvAll]
  | n :: ns, m :: ms => by
    simp only [List.map_cons, PyData.eqvAll, PyData.eqv, eqv_ints ns ms, List.cons.injEq, Bool.decide_and]
    rfl
@[simp] theorem noDict_ints : ∀ ns : List Int, PyData.hasDictAll (ns.map .int) = false
  | [] => by simp [PyData.hasDictAll]
  | n :: ns => by simp [PyData.hasDictAll, PyData.hasDict, noDict_ints ns]
abbrev Sh (n : Int) : Prop := n.natAbs < 1000000000000
theorem log_sh {n : Int} (h : Sh n) : n.natAbs.log2 < 40 := by
  by_cases h0 : n.natAbs = 0
  · rw [h0]; decide
  · rw [Nat.log2_lt h0]
    have : (1000000000000 : Nat) ≤ 2 ^ 40 := by decide
    omega
theorem show_ints : ∀ ns : List Int, (∀ n ∈ ns, Sh n) → PyData.showableAll (ns.map .int) = true
  | [], _ => by simp [PyData.showableAll]
  | n :: ns, h => by
    simp only [List.map_cons, PyData.showableAll, PyData.showable, show_ints ns fun m hm => h m (List.mem_cons_of_mem _ hm), Bool.and_true, decide_eq_true_eq]
    have := log_sh (h n List.mem_cons_self)
    omega
theorem leaf_int {n : Int} (h : Sh n) : PyData.leavesShort 13 (.int n) = true := by
  simp only [PyData.leavesShort, decide_eq_true_eq]
  exact PyData.shown_int_le (by have : (10 : Nat) ^ 12 = 1000000000000 := by decide
                                omega)
theorem leaf_ints : ∀ ns : List Int, (∀ n ∈ ns, Sh n) → PyData.leavesShortAll 13 (ns.map .int) = true
  | [], _ => by simp [PyData.leavesShortAll]
  | n :: ns, h => by
    simp only [List.map_cons, PyData.leavesShortAll, leaf_int (h n List.mem_cons_self), leaf_ints ns fun m hm => h m (List.mem_cons_of_mem _ hm), Bool.and_self]
theorem wt_int {n : Int} (h : Sh n) : PyData.weight (.int n) ≤ 40 := by
  simp only [PyData.weight]
  have := log_sh h
  split <;> omega
theorem wt_ints : ∀ ns : List Int, (∀ n ∈ ns, Sh n) → PyData.weightAll (ns.map .int) ≤ 41 * ns.length
  | [], _ => by simp [PyData.weightAll]
  | n :: ns, h => by
    simp only [List.map_cons, PyData.weightAll, List.length_cons]
    have h1 := wt_int (h n List.mem_cons_self)
    have h2 := wt_ints ns fun m hm => h m (List.mem_cons_of_mem _ hm)
    omega
end PV

namespace PV
open PySem PySem.Spec L2

/-! ### enumerate over a list or a tuple -/
section
open PyProof.Rows
theorem en_meets {v : Value} {o : Obj} {S : Heap → Prop} (B : Begins v o S) :
    Meets (Builtin.«enumerate.__new__» ⟨[.type "enumerate", v], []⟩) (fun _ R s => S s.heap ∧
      R (.ok (.ret (.ref (s.heap.push o).objs.size))) { s with heap := (s.heap.push o).push { cls := .type "enumerate", data := .fields #[.none, .bool false, .ref s.heap.objs.size, rawInt 0, .none, .none] } }) :=
  .of_wp fun prog w A R s h => by
    obtain ⟨hp, g, d, tk, os⟩ := s
    obtain ⟨h1, h⟩ := h
    have sub := sub_enumerate
    have go : ∀ {A' : Around} {E : Value → Shared → Prop} {Q : Value → Shared → Prop}, Q (.ref hp.objs.size) ⟨hp.push o, g, d, tk, os⟩ → wpAny (model prog w) A' (pyIter v) Q E ⟨hp, g, d, tk, os⟩ := fun q => B.iter prog w _ _ ⟨hp, g, d, tk, os⟩ _ h1 q
    wp_walk using go
    refine wpAny_stack_any fun st => wpAny_pure ?_
    split
    · rename_i c _ _ _ _ _
      cases (c == Value.type "enumerate") <;> (wp_walk using go; exact ⟨_, rfl, h⟩)
    · wp_walk using go
      exact ⟨_, rfl, h⟩
variable {prog : Program} {w : World} {A : Around} {E : Value → Shared → Prop} {s : Shared}
/-- enumerate(v): two new cells -/
theorem en_call {v : Value} {o : Obj} {S : Heap → Prop} {Q : Value → Shared → Prop} (B : Begins v o S) (h1 : S s.heap)
    (h : ∀ h', IsEnum h' (s.heap.objs.size + 1) s.heap.objs.size 0 .none → h'.get? s.heap.objs.size = some o → h'.objs.size = s.heap.objs.size + 2 →
      (∀ b o, s.heap.get? b = some o → h'.get? b = some o) → Q (.ref (s.heap.objs.size + 1)) { s with heap := h' }) : wpAny (model prog w) A (call (.type "enumerate") [v]) Q E s := by
  have sz : (s.heap.push o).objs.size = s.heap.objs.size + 1 := Heap.size_push ..
  have he := Heap.get?_push_size (s.heap.push o) (o := { cls := .type "enumerate", data := .fields #[.none, .bool false, .ref s.heap.objs.size, rawInt 0, .none, .none] }) rfl
  rw [sz] at he
  refine callType_new F.called_enumerate (by decide) (F.typeCall_enumerate_1 _) (F.newCall_enumerate_1 _) (fun obj => F.args_object_init_2 obj _) F.entry_enumerate_new (en_meets B) ⟨h1, ?_⟩
  show _ ∧ _
  rw [sz]
  exact ⟨⟨_, he, rfl⟩, h _ he (Heap.get?_push_of_some _ (Heap.get?_push_size _ B.free)) (by rw [Heap.size_push, sz]) fun b o x => Heap.get?_push_of_some _ (Heap.get?_push_of_some _ x)⟩
/-- the tuple at a as it stands at each turn, each item in a new pair -/
def IteT (K : PySem.W.Frag) (a : Addr) : It :=
  ⟨fun i H => ∃ (xs : List V) (x : V), SqT K H a xs ∧ xs[i]? = some x, fun i H v H' => ∃ T x, v = .ref T ∧ H T = none ∧ H' = upd H T (.tup [.int (i : Nat), x]) ∧ ∀ xs, SqT K H a xs → xs[i]? = some x, fun i H => ∃ xs : List V, SqT K H a xs ∧ xs.length = i⟩
theorem turn_enT {P : Program} {w : World} {K : PySem.W.Frag} {elts : List Expr} {kk : Nat} {tpos : Pos} (a e it : Addr) (hea : e ≠ a) (hia : a ≠ it) :
    Turn P w K (.Tuple elts kk tpos) (IteT K a) [e, it] e (fun i h => (∃ old, IsEnum h e it ((i : Nat) : Int) old) ∧ h.IsTupleIter it a i ∧ e ≠ it) where
  mem := by simp
  obj := fun i h st b hb => by
    obtain ⟨⟨old, he⟩, ⟨o, ho, hc, hd⟩, _⟩ := st
    have e' : b = e ∨ b = it := by simpa using hb
    rcases e' with rfl | rfl
    · exact ⟨_, he, fun v q => nomatch q⟩
    · exact ⟨o, ho, fun v q => by rw [hd] at q; cases q⟩
  keep := fun i h h' st k => let ⟨⟨old, he⟩, hi, hne⟩ := st; ⟨⟨old, k e (by simp) _ he⟩, hi.at fun o q => k it (by simp) o q, hne⟩
  item := by
    intro X hP hw hK hc i pins s σ H E I hf st hg
    subst hP hw hK
    obtain ⟨⟨old, he⟩, hit, hne⟩ := st
    obtain ⟨xs, x, hq, hx⟩ := hg
    obtain ⟨its, rv, p, hz⟩ := I.tuple hq
    obtain ⟨u, hu, ru⟩ := rv.get hx
    have hel : e < s.heap.objs.size := Heap.lt_size he
    have hil : it < s.heap.objs.size := by obtain ⟨_, q, _⟩ := hit; exact Heap.lt_size q
    have hlt : i < its.toArray.size := by
      have := (List.getElem?_eq_some_iff.mp hu).1
      simpa using this
    refine wpAny_pyNext_enum_itemD (Draws.tuple (prog := X.prog) (w := X.w) (A := X.A.in1) (show X.A.in1.handled = none from I.ok.hd hc) it a hia its.toArray) he ⟨hit, p⟩ hlt hne (by simp [hne, hea]) fun u' h' tk hu' ho hit' hT hsz hk => ?_
    have e1 : u' = u := by
      have h2 : its.toArray[i]? = some u := by simpa using hu
      rw [h2] at hu'
      exact (Option.some.inj hu').symm
    subst e1
    refine ⟨_, rfl, wpAny_letOwnedTupleGo_enum (s := { s with heap := h', toks := tk + 1 }) ho fun h'' he' sb => ?_⟩
    have hT2 : h''.get? s.heap.objs.size = some { cls := .type "tuple", data := .seq #[.int i tk, u'] } := (sb.2 _ (Nat.ne_of_gt hel)).trans hT
    have new : ObjOk X.prog X.w (upd H s.heap.objs.size (.tup [.int (i : Nat), x])) h'' s.heap.objs.size (.tup [.int (i : Nat), x]) :=
      ⟨by show 2 ≤ sizeLine; decide, [.int i tk, u'], .cons ⟨_, rfl⟩ (.cons ru .nil), ⟨_, hT2, rfl, _, rfl⟩⟩
    have I1 : Inv X pins σ (upd H s.heap.objs.size (.tup [.int (i : Nat), x])) { s with heap := h'', toks := tk + 1 } :=
      I.turnedNew (ch := [e, it]) (fun b ob hb q => (sb.2 b (fun z => hb (by simp [z]))).trans (hk b ob (fun z => hb (by simp [z])) (fun z => hb (by simp [z])) q)) hf (Nat.le_refl _) new
    refine ⟨.ref s.heap.objs.size, _, I1, rfl, ⟨_, x, rfl, I.hok.fresh (Nat.le_refl _), rfl, fun ys hy => by rw [I.tuple_inj hy hq]; exact hx⟩, ⟨⟨u', ?_⟩, hit'.1.at fun o q => (sb.2 it (Ne.symm hne)).trans q, hne⟩, fun b hb => ?_⟩
    · have e1 : ((i + 1 : Nat) : Int) = (i : Int) + 1 := by omega
      rw [e1]; exact he'
    · have hb' : b < s.heap.objs.size := by
        have e' : b = e ∨ b = it := by simpa using hb
        rcases e' with rfl | rfl
        · exact hel
        · exact hil
      rw [upd_ne (Nat.ne_of_lt hb')]
      exact (hf b hb).1
  done := by
    intro X hP hw hK hc i pins s σ H E I hf st hg
    subst hP hw hK
    obtain ⟨⟨old, he⟩, hit, hne⟩ := st
    obtain ⟨xs, hq, hx⟩ := hg
    obtain ⟨its, rv, p, hz⟩ := I.tuple hq
    obtain ⟨f0, f1, f2, f3, f4, f5⟩ := hf it (by simp)
    have hl := rv.length
    have hn : i = its.toArray.size := by simp; omega
    subst hn
    exact wpAny_pyNext_enum_endD (Draws.tuple (prog := X.prog) (w := X.w) (A := X.A.in1) (show X.A.in1.handled = none from I.ok.hd hc) it a hia its.toArray) he ⟨hit, p⟩ fun h' eb => ⟨rfl, I.turned (t' := s.toks) (fun b o hb q => eb b o hb q) f0 f1 f3 f4 f5⟩
  self := fun A i s Q E st h => let ⟨⟨_, he⟩, _⟩ := st; wpAny_pyIter_enum he h
def iEnT (K : PySem.W.Frag) (ta : TA) : TI := fun σ H R => ta σ H fun vs H1 => ∃ a xs, vs = [.ref a] ∧ SqT K H1 a xs ∧ R (IteT K a) H1
theorem pi_enT {X : Cx} {e : Expr} {ta : TA} {p pos tpos : Pos} {elts : List Expr} {kk : Nat} (hg : Gl X "enumerate") (hm : X.mg "enumerate" = none) (ha : PA X [e] ta) (hs : starEach [e] X.env = [(false, eval e X.env)]) :
    PI X (.Tuple elts kk tpos) (.Call (.Name "enumerate" p) [e] [] pos) (iEnT X.K ta) :=
  ⟨fun pins s σ H R I h => Call_ (ld_blt I hg hm boot_enumerate (PyProof.Rows.callWith_type1 (thn (ha.run pos pins s σ H _ I h) fun us s1 h1 => by
    obtain ⟨vs, H1, I1, r1, a, xs, ex, hq, q⟩ := h1
    subst ex
    cases r1 with
    | cons r rr =>
      cases rr
      cases r
      obtain ⟨its, rv, tp, hz⟩ := I1.tuple hq
      have hlt : a < s1.heap.objs.size := by obtain ⟨o, ho, _⟩ := id tp; exact Heap.lt_size ho
      refine en_call (begins_tuple a its.toArray) tp fun h' he hit hsz hk => wpAny_pyIter_enum he ?_
      have I2 : Inv X pins σ H1 { s1 with heap := h' } := I1.kept (t' := s1.toks) hk
      refine ⟨s1.heap.objs.size + 1, [s1.heap.objs.size + 1, s1.heap.objs.size], _, _, H1, rfl, I2, turn_enT a (s1.heap.objs.size + 1) s1.heap.objs.size (Nat.ne_of_gt (Nat.lt_succ_of_lt hlt)) (Nat.ne_of_lt hlt), ⟨⟨.none, he⟩, ⟨_, hit, rfl, rfl⟩, Nat.succ_ne_self _⟩, fun b hb => ?_, q⟩
      have hle : s1.heap.objs.size ≤ b := by
        have e' : b = s1.heap.objs.size + 1 ∨ b = s1.heap.objs.size := by simpa using hb
        rcases e' with z | z
        · rw [z]; exact Nat.le_succ _
        · rw [z]; exact Nat.le_refl _
      exact I1.fpOk hle (I1.hok.fresh hle)) hs rfl))⟩
theorem walk_enT {K : PySem.W.Frag} {a : Addr} {xs : List V} : Walk (IteT K a) xs.length (fun H => SqT K H a xs) (YPair (fun i => some (.int (i : Nat))) fun i => xs[i]?) :=
  ⟨fun i _ hi q => ⟨xs, xs[i], q, by simp [hi]⟩, fun _ q => ⟨xs, q, rfl⟩, fun _ _ _ _ _ q y => by
    obtain ⟨T, x, h1, h2, h3, h4⟩ := y
    exact ⟨T, _, x, h1, h2, h3, rfl, h4 xs q⟩⟩
end
end PV

namespace PV
open PySem PySem.Spec L2

/-! ### set(xs) of ints, sorted(set(xs)) -/
section
open PyProof.Rows
variable {P : Program} {w : World} {A : Around} {E : Value → Shared → Prop} {s : Shared}
/-- a new set's cell -/
abbrev seO (w : World) : Obj := { cls := .type "set", dict := none, data := .set #[] 0 (.fresh 0 0 (!w.params.followText "set-order")) }
theorem set_listI {l : Addr} {items : Array Value} (ns : List Int) {Q : Value → Shared → Prop} (hh : A.handled = none) (hl : s.heap.IsList l items) (hi : IntsAre items.toList ns) (hb : ns.length + 1 < scanBound)
    (h : ∀ (h' : Heap) (tk c : Nat), SetR w h' s.heap.objs.size (fun j => decide (j ∈ ns)) c → c ≤ ns.length → (∀ b o, s.heap.get? b = some o → h'.get? b = some o) → Q (.ref s.heap.objs.size) { s with heap := h', toks := tk }) :
    wpAny (model P w) A (call (.type "set") [.ref l]) Q E s := by
  have hsz : items.size = ns.length := by have q := IntsAre.length hi; rwa [Array.length_toList] at q
  obtain ⟨c, tl, hmro⟩ := F.called_set.mro
  have hmade := F.called_set.made
  have hsub := F.called_set.sub
  refine wpAny_call (codeAny_of_tree ?_)
  show wpAny _ _ (callAny (.type "set") _) _ _ _
  refine wpAny_pure ⟨Code.quiet_builtin _ (by decide +kernel), codeAny_builtin F.entry_type_call ?_⟩
  rw [Around.under_plain (weight_type_call_type "set" [.ref l] []) rfl]
  have h1 := F.called_set.notType
  have h2 := F.called_set.canCreate
  have hct := F.typeCall_set_1 (.ref l)
  repeat (any_goals (first | assumption | wp_step))
  refine codeAny_mono (code_set_led1 (.ref l) (E := E) (Q₁ := fun v s₁ => v = .ref s.heap.objs.size ∧ s₁ = { s with heap := s.heap.push (seO w) }) ⟨rfl, rfl⟩) fun r s₁ hr => ?_
  rcases r with e | fl
  · exact hr
  cases fl
  case ret v =>
    obtain ⟨rfl, rfl⟩ := hr
    have hS : (s.heap.push (seO w)).get? s.heap.objs.size = some (seO w) := Heap.get?_push_size _ rfl
    have hT : Shared.TypeIs { s with heap := s.heap.push (seO w) } (.ref s.heap.objs.size) "set" := ⟨_, hS, rfl⟩
    have hli := F.called_set.init.lookup
    have hbi := F.called_set.init.bind (.ref s.heap.objs.size)
    repeat (any_goals (first | assumption | wp_step))
    refine codeAny_mono (codeAny_call_builtin (R := wants (fun r s₂ => r = .none ∧ ∃ h' tk c, s₂ = { s with heap := h', toks := tk } ∧ SetR w h' s.heap.objs.size (fun j => decide (j ∈ ns)) c ∧ c ≤ ns.length ∧
      (∀ b o, s.heap.get? b = some o → h'.get? b = some o)) E) F.called_set.init.plain F.entry_set_init (check_set_init_1 hT ?_)) fun r2 s2 hr2 => ?_
    · obtain ⟨⟨ocls, odict, odata, oslots⟩, hol, hcl, nl, hdl⟩ := hl
      simp only at hcl hdl
      subst hcl hdl
      have hol' : (s.heap.push (seO w)).get? l = some { cls := .type "list", dict := odict, data := .seq items nl, slots := oslots } := Heap.get?_push_of_some _ hol
      have b1 := F.sub_list_set
      have b2 := F.sub_list_frozenset
      have b3 : (Value.type "list" == Value.type "dict") = false := by decide
      have hl1 : (s.heap.push (seO w)).IsList l items := ⟨_, hol', rfl, nl, rfl⟩
      unfold Builtin.«set.__init__» noKeywords Builtin.Frozenset.updateFrom
      generalize hPI : pyIter = PI
      wp_walk
      subst hPI
      refine wpAny_pyIter_list hl1 (wpAny_bind (wpAny_runValue ?_))
      have hlS : l < s.heap.objs.size := Heap.lt_size hol
      have es : (s.heap.push (seO w)).objs.size = s.heap.objs.size + 1 := Heap.size_push ..
      have d1 : l ≠ (s.heap.push (seO w)).objs.size := by rw [es]; exact Nat.ne_of_lt (Nat.lt_succ_of_lt hlS)
      have d2 : s.heap.objs.size ∉ [(s.heap.push (seO w)).objs.size, l] := by
        rw [es]
        intro q
        simp only [List.mem_cons, List.not_mem_nil, or_false] at q
        exact q.elim (fun z => Nat.ne_of_lt (Nat.lt_succ_self _) z) fun z => Nat.ne_of_gt hlS z
      have val : ∀ (i : Nat) (v : Value), items[i]? = some v → ∃ k t, ns[i]? = some k ∧ v = .int k t := fun i v hv => by
        have hlt : i < ns.length := by rw [← hsz]; exact (Array.getElem?_eq_some_iff.mp hv).1
        obtain ⟨t, e⟩ := IntsAre.int_at hi i v (by rw [Array.getElem?_toList]; exact hv)
        refine ⟨ns[i], t, List.getElem?_eq_getElem hlt, ?_⟩
        rw [e, List.getD_eq_getElem?_getD, List.getElem?_eq_getElem hlt] <;> rfl
      refine set_update_ints ((Walks.list (A := A.in1.in1.in1) (by simp [hh]) _ l d1 items).toS) s.heap.objs.size d2 ns hsz hb val (items.size - 0) 0 _ (by omega) (Nat.zero_le _)
        ⟨⟨_, Heap.get?_push_size _ rfl, rfl, rfl⟩, (hl1.push _)⟩ ⟨0, Nat.le_refl 0, setR_new_at (Heap.get?_push_of_some _ hS)⟩ ?_
      rintro ⟨h', g2, d', tk', os'⟩ c2 hm hc2 hS2
      cases hm.gens
      cases hm.drawn
      cases hm.os
      show wpAny _ _ _ _ _ _
      refine wpAny_pure ?_
      show wpAny _ _ (ret Value.none) _ _ _
      rw [hsz] at hc2
      refine wpAny_pure ⟨rfl, h', tk', c2, rfl, hS2, hc2, fun b o e => ?_⟩
      have hbl : b < s.heap.objs.size := Heap.lt_size e
      refine hm.heap b o (fun q => ?_) (Heap.get?_push_of_some _ (Heap.get?_push_of_some _ e))
      rw [es] at q
      simp only [List.mem_cons, List.not_mem_nil, or_false] at q
      exact q.elim (fun z => Nat.ne_of_lt hbl z) fun z => Nat.ne_of_lt (Nat.lt_succ_of_lt hbl) z
    · rcases r2 with e | fl2
      · exact hr2
      cases fl2
      case ret v =>
        obtain ⟨rfl, h', tk, c2, rfl, hS2, hc2, hk2⟩ := hr2
        repeat (any_goals (first | assumption | wp_step))
        exact h _ _ _ hS2 hc2 hk2
      all_goals exact hr2.elim
  all_goals exact hr.elim
end
section
variable {X : Cx}
/-- set(xs): a list or a tuple of ints -/
def rSetI (w : World) (K : PySem.W.Frag) : List V → Hp → VK → Prop := fun vs H Q => ∃ (a : Addr) (ns : List Int), vs = [V.ref a] ∧ (SqL K H a (ns.map V.int) ∨ SqT K H a (ns.map V.int)) ∧ ns.length + 1 < scanBound ∧
  ∀ (p : Addr) (c : Nat), c ≤ ns.length → H p = none → Q (.ref p) (upd H p (SetO w p (fun j => decide (j ∈ ns)) c))
theorem cr_setI (hc : X.calm = true) : CallR X (.type "set") (rSetI X.w X.K) := by
  intro pins s σ H vs us Q I r h
  obtain ⟨a, ns, rfl, hs, hb, q⟩ := h
  rw [Vals.ref1 r]
  have fin : ∀ (h' : Heap) (tk c : Nat), SetR X.w h' s.heap.objs.size (fun j => decide (j ∈ ns)) c → c ≤ ns.length → (∀ b o, s.heap.get? b = some o → h'.get? b = some o) → EP X pins σ Q (.ref s.heap.objs.size) { s with heap := h', toks := tk } := fun h' tk c R hc2 hk =>
    ⟨.ref _, upd H s.heap.objs.size (SetO X.w s.heap.objs.size (fun j => decide (j ∈ ns)) c), I.laid hk (Nat.le_refl _) (setO_new R), rfl, q _ _ hc2 (I.hok.fresh (Nat.le_refl _))⟩
  rcases hs with hs | hs
  · obtain ⟨its, rv, pl, hz⟩ := I.list hs
    exact set_listI ns (I.ok.hd hc) pl.isList (by simpa using rv.ints) hb fin
  · obtain ⟨its, rv, pl, hz⟩ := I.tuple hs
    exact call_set_tupI ns (I.ok.hd hc) pl (by simpa using rv.ints) hb fin
end
end PV

namespace PV
open PySem PySem.Spec L2
section
variable {G : Gx} {W : WX} {pr : Addr → Prop} {io : List (Nat × V)} {σ : L2.St} {s s1 : Sx} {ios : List Nat} {Q : VK} {X : Cx} {a b c : Expr} {pos p p2 q2 : Pos} {x : Str} {ga gb gc : Ev}
/-- the ascending members, each once -/
def usort (ns : List Int) : List Int := isort ns.eraseDups
theorem usort_mem {ns : List Int} {k : Int} : k ∈ usort ns ↔ k ∈ ns := by
  unfold usort
  rw [(isort_perm _).mem_iff, List.mem_eraseDups]
theorem nodup_eraseDups : ∀ (n : Nat) (l : List Int), l.length ≤ n → l.eraseDups.Nodup
  | _, [], _ => by simp
  | n + 1, x :: l, h => by
    rw [List.eraseDups_cons, List.nodup_cons]
    refine ⟨fun z => ?_, nodup_eraseDups n _ ?_⟩
    · rw [List.mem_eraseDups, List.mem_filter] at z
      simp at z
    · have := List.length_filter_le (fun b => !b == x) l
      simp only [List.length_cons] at h
      omega
theorem usort_lt (ns : List Int) : (usort ns).Pairwise (· < ·) := by
  refine lt_of_le_nodup _ (isort_up _) ?_
  exact (isort_perm _).nodup_iff.mpr (nodup_eraseDups _ ns (Nat.le_refl _))
theorem usort_of {ns ms : List Int} (h : ms.Pairwise (· < ·)) (m : ∀ k, k ∈ ms ↔ k ∈ ns) : ms = usort ns := by
  have n1 : ms.Nodup := h.imp fun h => Int.ne_of_lt h
  have n2 : (usort ns).Nodup := (usort_lt ns).imp fun h => Int.ne_of_lt h
  refine isort_uniq ((List.perm_ext_iff_of_nodup n1 n2).mpr fun k => by rw [m, usort_mem]) (h.imp fun h => Int.le_of_lt h) ((usort_lt ns).imp fun h => Int.le_of_lt h)
/-- sorted(set(xs)) -/
def ssD (xs : List D) : Option Tm := match intsD xs with
  | some ns => if ns.length < 64 then some (.v .O (.lst ((usort ns).map .int))) else none
  | none => none
def opSS (t : Tm) : Option Tm := match toD t with
  | .lst xs => ssD xs
  | .tup xs => ssD xs
  | .kt => some (.v .O (.lst []))
  | _ => none
def eSortSet : Ev → Ev := eOp1 opSS
end
end PV

namespace PV
open PySem PySem.Spec L2
/-! ### comprehensions with two fors: the second one over range(n) -/
section
variable {G : Gx} {W : WX} {pr : Addr → Prop} {io : List (Nat × V)} {σ : L2.St} {s s1 : Sx} {ios : List Nat} {X : Cx} {a b c e tg : Expr} {pos p : Pos} {ga gb gc : Ev}
/-- the list that is made at L holds acc -/
structure Acc (G : Gx) (L : Addr) (s : Sx) (acc : List D) (accv : List V) : Prop where
  at' : s.H L = some (.lst accv)
  rep : Reps G s.H s.fz acc accv
  nf : ¬ s.fz L
  no : L ∉ s.os
theorem Acc.on {L : Addr} {acc : List D} {accv : List V} {s5 : Sx} (h : Acc G L s acc accv) (r : SR G pr io σ s) (x : Ext s s5) : Acc G L s5 acc accv where
  at' := x.keep _ _ h.at' h.no
  rep := Reps.keep x.fz (fun a o p e => x.keep a o e fun z => (r.sep a z).1 p) x.tk _ _ h.rep
  nf := fun z => by
    rcases x.fzo L z with k | k | k
    · exact h.nf k
    · exact h.no k
    · rw [h.at'] at k; cases k
  no := fun z => by
    rcases x.oso L z with k | k
    · exact h.no k
    · rw [h.at'] at k; cases k
theorem Acc.less {L : Addr} {acc : List D} {accv : List V} {os' : List Addr} {ρ : Ss} (h : Acc G L s acc accv) (ha : ∀ a ∈ os', a ∈ s.os) : Acc G L { s with ρ := ρ, os := os' } acc accv := ⟨h.at', h.rep, h.nf, fun z => h.no (ha _ z)⟩
/-- for t in ..: for u in range(n): the parts -/
def compR (tgt : Tg) (gn : Ev) (tgt1 : Tg) (elt : Ev) (vs vs1 : List Nat) : List Tm → Ss → Option (List D × Ss)
  | [], ρ => some ([], wipeS ρ vs)
  | t :: ts, ρ => match tgt t (wipeS ρ vs) with
    | some ρ1 => match gn ρ1 with
      | .ok n ρ2 => match asI n with
        | some j => if -(2 ^ 62) ≤ j ∧ j < 2 ^ 62 then match compL tgt1 eTrue elt vs1 (rngL 0 j.toNat) ρ2 with
            | some (ds1, ρ3) => match compR tgt gn tgt1 elt vs vs1 ts ρ3 with
              | some (ds, ρ4) => some (ds1 ++ ds, ρ4)
              | none => none
            | none => none
          else none
        | none => none
      | _ => none
    | none => none
def eCompR (it : Iv) (vs : List Nat) (tgt : Tg) (gn : Ev) (vs1 : List Nat) (tgt1 : Tg) (elt : Ev) : Ev := fun ρ => match it ρ with
  | .ok ts ρ1 => if vs.all (hideOk ρ1) = true then match compR tgt gn tgt1 elt vs vs1 ts ρ1 with
    | some (ds, ρ2) => if ds.length ≤ sizeLine then .ok (.v .O (.lst ds)) (restS ρ1 ρ2 vs) else .no
    | none => .no
    else .no
  | .ex e ρ1 => .ex e ρ1
  | .no => .no
variable {elt iter tg1 bn : Expr} {scope : Scope} {own : List (Str × Nat)} {spos py p1 p2 : Pos} {it : Iv} {tgt tgt1 : Tg} {gn gel : Ev} {tv tv1 vs1 : List Nat}
end
end PV

namespace PV
open PySem PySem.Spec L2
/-! ### enumerate, zip -/
section
variable {G : Gx} {W : WX} {pr : Addr → Prop} {io : List (Nat × V)} {σ : L2.St} {s s1 s2 : Sx} {ios : List Nat} {X : Cx} {a b c e tg : Expr} {pos p tpos : Pos} {kk : Nat} {elts : List Expr} {ga gb gc : Ev}
/-- pairs -/
abbrev pairD (x y : D) : D := .tup [x, y]
/-- the items with their numbers -/
def enumD (n : Nat) : List D → List D
  | [] => []
  | x :: xs => pairD (.int n) x :: enumD (n + 1) xs
theorem enumD_len : ∀ (xs : List D) (n : Nat), (enumD n xs).length = xs.length
  | [], n => rfl
  | x :: xs, n => by simp [enumD, enumD_len xs]
theorem enumD_at : ∀ (xs : List D) (n i : Nat) (x : D), xs[i]? = some x → (enumD n xs)[i]? = some (pairD (.int ((n + i : Nat) : Int)) x)
  | [], n, i, x, h => by simp at h
  | y :: xs, n, 0, x, h => by
    simp only [List.getElem?_cons_zero, Option.some.injEq] at h
    subst h
    rfl
  | y :: xs, n, i + 1, x, h => by
    simp only [List.getElem?_cons_succ] at h
    have := enumD_at xs (n + 1) i x h
    rw [show n + 1 + i = n + (i + 1) by omega] at this
    exact this
def itemsEn : Tm → Option (List Tm)
  | .v k (.tup xs) => some ((enumD 0 xs).map (subK k))
  | _ => none
/-- for .. in enumerate(a tuple) -/
def itEnT (g : Ev) : Iv := fun ρ => (g ρ).bindL fun t ρ1 => match itemsEn t with
  | some ts => .ok ts ρ1
  | none => .no
/-- a new pair of two parts -/
theorem new_pair {k : Kd} {x y : D} {u w : V} {T : Addr} (r2 : SR G pr io σ s2) (hT : s2.H T = none) (hx : Rep G s2.H (if k = .B then fun a => s2.fz a ∨ pr a else s2.fz) x u) (hy : Rep G s2.H (if k = .B then fun a => s2.fz a ∨ pr a else s2.fz) y w) :
    Tp G pr σ (s2.new T (.tup [u, w])) (subK k (pairD x y)) (.ref T) [] := by
  have kp : ∀ (d : D) (v : V), Rep G s2.H (if k = .B then fun a => s2.fz a ∨ pr a else s2.fz) d v → Rep G (upd s2.H T (.tup [u, w])) (if k = .B then fun a => s2.fz a ∨ pr a else s2.fz) d v := fun d v h => Rep.keep (fun _ z => z) (fun a o _ e => by show upd _ _ _ _ = _; rw [upd_ne (ne_of_none e hT)]; exact e) (tk_new hT _) _ _ h
  refine tp_sub (s := s2.new T (.tup [u, w])) ?_
  unfold pairD
  simp only [Rep, Reps]
  exact ⟨T, _, rfl, upd_same, u, [w], rfl, kp _ _ hx, w, [], rfl, kp _ _ hy, rfl⟩
theorem i_enT (hm : X.mg "enumerate" = none) (ha : PEv X G W ios a ga) (hg : Gl X "enumerate" := by rfl) (hs : starEach [a] X.env = [(false, eval a X.env)] := by rfl) : PIv X G W ios (.Tuple elts kk tpos) (.Call (.Name "enumerate" p) [a] [] pos) (itEnT ga) := by
  refine ⟨fun pins s σ H R I q => (pi_enT (tpos := tpos) hg hm (pa_cons ha pa_nil hs) hs).run pins s σ H R I ?_⟩
  obtain ⟨pr, io, s, rfl, hi, r, q⟩ := q
  show tEv G W ios ga σ s.H (fun x H1 => ∃ a xs, [x] = [.ref a] ∧ SqT X.K H1 a xs ∧ R (IteT X.K a) H1)
  refine tEv_of hi r ?_
  unfold itEnT at q
  cases eg : ga s.ρ with
  | no => rw [eg] at q; exact q.elim
  | ex e ρ' => rw [eg] at q; exact q
  | ok t ρ' =>
    rw [eg] at q
    intro v s1 ot e1 r1 x1 p1 f1
    subst e1
    simp only [Ou.bindL] at q
    cases t with
    | v k d =>
      cases d <;> simp only [itemsEn] at q
      case tup xs =>
        obtain ⟨a, vs, rfl, h1, h2⟩ := tup_all (show TmR G s1.H s1.fz pr (.v k (.tup xs)) v ot from p1.rel)
        refine ⟨a, vs, rfl, .of h1, q _ s1 rfl r1 x1 ⟨fun H => SqT X.K H a vs, YPair (fun i => some (.int (i : Nat))) (fun i => vs[i]?), ?_, fun s2 σ2 r2 x2 => ⟨SqT.of (x2.tk.1 _ _ h1), fun i x H' hlt y => ?_⟩⟩⟩
        · rw [List.length_map, enumD_len, h2.len]; exact walk_enT
        · obtain ⟨T, u, w, rfl, hT, rfl, hu, hw⟩ := y
          rw [List.length_map, enumD_len] at hlt
          cases hu
          have h2' := Tp.reps (v := .non) (ot := []) r1 h2 x2
          obtain ⟨w', hw', hd⟩ := h2'.get (List.getElem?_eq_getElem hlt)
          dsimp only at hw; rw [hw] at hw'; cases hw'
          refine ⟨s2.new T _, _, rfl, rfl, r2.new hT _, Ext.new hT _, ?_, new_pair (x := .int ((i : Nat) : Int)) r2 hT (by simp only [Rep]) hd⟩
          rw [List.getElem?_map, enumD_at _ _ _ _ (List.getElem?_eq_getElem hlt), Nat.zero_add]
          rfl
      all_goals exact q.elim
    | loc i => exact q.elim
    | tp ts => exact q.elim
    | ls ts => exact q.elim
    | ob c ts => exact q.elim
/-! zip -/
def zipD (xs ys : List D) : List D := List.zipWith pairD xs ys
def kd2 (k l : Kd) : Kd := match k, l with
  | .B, _ => .B
  | _, .B => .B
  | _, _ => .F
def itemsZip : Tm → Tm → Option (List Tm)
  | .v k (.tup xs), .v l (.tup ys) => some ((zipD xs ys).map (subK (kd2 k l)))
  | .v k (.lst xs), .v l (.lst ys) => some ((zipD xs ys).map (subK (kd2 k l)))
  | _, _ => none
def itZip (ga gb : Ev) : Iv := fun ρ => (ga ρ).bindL fun t ρ1 => (gb ρ1).bindL fun u ρ2 => match itemsZip t u with
  | some ts => .ok ts ρ2
  | none => .no
/-- a list in flight that no name owns -/
theorem lst_no {k : Kd} {xs : List D} {v : V} {ot : List Addr} (p1 : Tp G pr σ s1 (.v k (.lst xs)) v ot) (r1 : SR G pr io σ s1) : ∃ a vs, v = .ref a ∧ s1.H a = some (.lst vs) ∧ Reps G s1.H (if k = .B then fun a => s1.fz a ∨ pr a else s1.fz) xs vs ∧ a ∉ s1.os := by
  have hh : TmR G s1.H s1.fz pr (.v k (.lst xs)) v ot := p1.rel
  obtain ⟨a, vs, rfl, h1, h2⟩ := lst_all hh
  refine ⟨a, vs, rfl, h1, h2, ?_⟩
  cases k with
  | F =>
    simp only [TmR, Rep] at hh
    obtain ⟨_, b, _, eb, hb, _⟩ := hh
    cases eb
    exact fun z => (r1.sep a z).1 hb
  | B =>
    simp only [TmR, Rep] at hh
    obtain ⟨_, b, _, eb, hb, _⟩ := hh
    cases eb
    exact fun z => hb.elim (r1.sep a z).1 (r1.sep a z).2
  | O =>
    simp only [TmR, RepO] at hh
    obtain ⟨b, _, eb, hb, _⟩ := hh
    cases eb
    exact (p1.sep a (by rw [hb]; simp)).2.2
end
end PV

namespace PV
open PySem PySem.Spec L2
/-! ### xs += t, t a tuple -/
section
open PyProof.Rows
variable {M : Model} {prog : Program} {w : World} {A : Around} {E : Value → Shared → Prop} {s : Shared}
end
section
open PyProof.Rows
variable {X : Cx}
def rExtT (K : PySem.W.Frag) : R2 := fun x y H Q => ∃ l b xs zs, x = .ref l ∧ y = .ref b ∧ H l = some (.lst xs) ∧ SqT K H b zs ∧ xs.length + zs.length ≤ sizeLine ∧ Q (.ref l) (upd H l (.lst (xs ++ zs)))
end
section
variable {G : Gx} {W : WX} {pr : Addr → Prop} {io : List (Nat × V)} {σ : L2.St} {s s1 : Sx} {ios : List Nat} {Q : VK} {X : Cx} {a b c : Expr} {pos p : Pos} {x : Str} {ga gb gc : Ev}
/-- xs += e, e a list or a tuple -/
def opExt (xs : List D) (t : Tm) : Option (List D) := match t with
  | .v k (.tup ys) => (elk k ys).map (xs ++ ·)
  | .v k (.lst ys) => (elk k ys).map (xs ++ ·)
  | _ => none
def sExt (i : Nat) (g : Ev) : Sm := fun ρ => match ρ[i]? with
  | some (some (.v .O (.lst _))) => (g ρ).toF fun t ρ1 => match t with
    | .loc _ => .no
    | t => match ρ1[i]? with
      | some (some (.v .O (.lst xs))) => match opExt xs t with
        | some zs => if zs.length ≤ sizeLine then .nx (ρ1.set i (some (.v .O (.lst zs)))) else .no
        | none => .no
      | _ => .no
  | _ => .no
def ipExt (K : PySem.W.Frag) : TIp := fun x y H Q => rExt2 x y H Q ∨ rExtT K x y H Q
end
end PV

namespace PV
open PySem PySem.Spec L2
section
variable {X : Cx}
def rGetL : V → V → Hp → VK → Prop := fun o i H Q => ∃ (p : Addr) (xs : List V) (k : Int) (z : V), o = .ref p ∧ i = .int k ∧ H p = some (.lst xs) ∧ atI xs k = some z ∧ Q z H
end
section
variable {G : Gx} {W : WX} {pr : Addr → Prop} {io : List (Nat × V)} {σ : L2.St} {s s1 : Sx} {ios : List Nat} {Q : VK} {X : Cx} {a b c ie : Expr} {pos p pos2 : Pos} {x : Str} {ga gb gc gi : Ev}
/-- xs[e] += e2, ints -/
def sAugSub (i : Nat) (gi : Ev) (f : Int → Int → Int) (g : Ev) : Sm := fun ρ => if isLs ρ i = true then (gi ρ).toF fun u ρ1 => match asI u with
  | some k => match ρ1[i]? with
    | some (some (.v .O (.lst xs))) => match L2.atI xs k with
      | some (.int m) => (g ρ1).toF fun w ρ2 => match asI w with
        | some n => match ρ2[i]? with
          | some (some (.v .O (.lst ys))) => match ixN ys.length k with
            | some j => .nx (ρ2.set i (some (.v .O (.lst (ys.set j (.int (f m n)))))))
            | none => .no
          | _ => .no
        | none => .no
      | _ => .no
    | _ => .no
  | none => .no
  else .no
/-! x in xs: ints -/
def inD (neg : Bool) (x y : D) : Option D := match x, y with
  | .int i, .lst ys => (intsD ys).map fun ns => .bl (if neg = true then !decide (i ∈ ns) else decide (i ∈ ns))
  | .int i, .tup ys => (intsD ys).map fun ns => .bl (if neg = true then !decide (i ∈ ns) else decide (i ∈ ns))
  | _, _ => none
def eIn : Ev → Ev → Ev := eOp2 (rd2 (inD false))
end
end PV

namespace PV
open PySem PySem.Spec L2
/-! ### sum of a list or a tuple of ints -/
section
variable {prog : Program} {w : World} {A : Around} {E : Value → Shared → Prop} {s : Shared} {l : Addr} {its : List Value} {ns : List Int} {Q : Value → Shared → Prop}
end
section
variable {G : Gx} {W : WX} {ios : List Nat} {X : Cx} {a : Expr} {pos p : Pos} {ga : Ev}
def rSumA (K : PySem.W.Frag) : List V → Hp → VK → Prop := fun vs H Q => ∃ (a : Addr) (ns : List Int), vs = [V.ref a] ∧ (SqL K H a (ns.map V.int) ∨ SqT K H a (ns.map V.int)) ∧ Q (.int ns.sum) H
def sumD : D → Option D
  | .lst xs => (intsD xs).map fun ns => .int ns.sum
  | .tup xs => (intsD xs).map fun ns => .int ns.sum
  | _ => none
def eSumA : Ev → Ev := eOp1 (rd1 sumD)
end
end PV

namespace PV
open PySem PySem.Spec L2
/-! xs.remove(k), x not in xs, sorted(xs, reverse=True), methods with keywords -/
section
variable {G : Gx} {W : WX} {pr : Addr → Prop} {io : List (Nat × V)} {σ : L2.St} {s s1 : Sx} {ios : List Nat} {Q : VK} {X : Cx} {a b c e o : Expr} {es : List Expr} {pos p pos2 apos : Pos} {x m : Str} {ga gb gc gi g0 : Ev} {gs gk : Ss → OuL}
def opRem : List D → List D → Option (D × List D) := fun xs ds => match ds with
  | [.int k] => (intsD xs).bind fun ns => if k ∈ ns then some (.non, (ns.erase k).map .int) else none
  | _ => none
def eNotIn : Ev → Ev → Ev := eOp2 (rd2 (inD true))
/-- the falling list -/
def opSortR (t : Tm) : Option Tm := match toD t with
  | .lst xs => (intsD xs).map fun ns => .v .O (.lst ((isort ns).reverse.map .int))
  | _ => none
def eSortR : Ev → Ev := eOp1 opSortR
/-- o.m(e, .., k = e, ..): dfl what the defaults fill up -/
def eMethK (c : Nat) (fn : Fn) (ms : List Md) (g0 : Ev) (gs gk : Ss → OuL) (dfl : List D) : Ev := fun ρ => (g0 ρ).bind fun t0 ρ1 => if isOb c (derT ρ1 t0) = true then (gs ρ1).bind fun ts ρ2 => (gk ρ2).bind fun us ρ3 => callF fn ms (t0 :: (ts ++ us ++ dfl.map (Tm.v .F))) ρ3 else .no
section
variable {k n : Nat} {f C : Addr} {fd : FuncData} {ps : List Str} {sp : Sp} {E : St → XK} {ta : TE} {t tk : TA} {ks : List Str} {kws : List Keyword} {g : List Value → List Value → List Value} {gV : List V → List V → List V}
def tMethK (C : Addr) (m : Str) (n l : Nat) (sp : Sp) (gV : List V → List V → List V) (E : St → XK) (ta : TE) (t tk : TA) : TE := fun σ H Q => ta σ H fun x H1 => ∃ a dx fs, x = .ref a ∧ H1 a = some (.ins C dx fs) ∧ fs.lookup m = none ∧ t σ H1 fun vs H2 => tk σ H2 fun zs H3 => vs.length = n ∧ zs.length = l ∧ sp (gV (x :: vs) zs) H3 Q (E σ)
end
section
variable {c k n j : Nat} {fa : Addr} {fd : FuncData} {ps ks : List Str} {kws : List Keyword} {fn : Fn} {ms : List Md} {g : List Value → List Value → List Value} {gV : List V → List V → List V} {dfl : List D} {dv : List V}
end
end
end PV

namespace PV
open PySem PySem.Spec L2 PyProof.Rows
/-! list(zip(a, b)) -/
section
variable {prog : Program} {w : World} {A : Around} {E : Value → Shared → Prop} {s : Shared} {z TI TO T i1 i2 : Addr} {f : Bool} {oT : Obj} {fp1 fp2 : List Addr} {n1 n2 i : Nat} {P1 P2 : Nat → Value → Prop} {St1 St2 : Nat → Heap → Prop} {a1 a2 : Value}
/-- a zip at turn i, its tuple out or not -/
def ZSt (z TI TO i1 i2 S : Addr) (St1 St2 : Nat → Heap → Prop) (i : Nat) (h : Heap) : Prop :=
  ((IsZip h z TI TO .none ∧ ∃ a1 a2, IsTupOf2 h TO a1 a2) ∨ ∃ T f oT, PySem.IsZipHeld h z TI TO T f ∧ h.get? T = some oT ∧ T ≠ z ∧ T ≠ i1 ∧ T ≠ i2 ∧ T ≠ S) ∧ IsTupOf2 h TI (.ref i1) (.ref i2) ∧ St1 i h ∧ St2 i h
theorem ZSt.keep {S : Addr} {h h' : Heap} (D1 : Draws prog w A i1 fp1 n1 P1 St1) (D2 : Draws prog w A i2 fp2 n2 P2 St2) (hS : S ∉ z :: TI :: TO :: (fp1 ++ fp2)) (st : ZSt z TI TO i1 i2 S St1 St2 i h) (hk : ∀ b o, b ≠ S → h.get? b = some o → h'.get? b = some o) : ZSt z TI TO i1 i2 S St1 St2 i h' := by
  simp only [List.mem_cons, List.mem_append, not_or] at hS
  obtain ⟨n1', n2', n3', n4', n5'⟩ := hS
  obtain ⟨h0, h1, h2, h3⟩ := st
  refine ⟨?_, hk _ _ (Ne.symm n2') h1, D1.frame _ _ _ h2 fun b hb o e => hk b o (fun q => n4' (q ▸ hb)) e, D2.frame _ _ _ h3 fun b hb o e => hk b o (fun q => n5' (q ▸ hb)) e⟩
  rcases h0 with ⟨a, x, y, b⟩ | ⟨T, f, oT, a, b, c⟩
  · exact .inl ⟨hk _ _ (Ne.symm n1') a, x, y, hk _ _ (Ne.symm n3') b⟩
  · exact .inr ⟨T, f, oT, hk _ _ (Ne.symm n1') a, hk _ _ c.2.2.2 b, c⟩
/-- the pairs made so far -/
structure ZG (P1 P2 : Nat → Value → Prop) (lo : Addr) (h : Heap) (as : List Addr) : Prop where
  rise : as.Pairwise (· < ·)
  above : ∀ a ∈ as, lo < a
  pairs : ∀ (j : Nat) (a : Addr), as[j]? = some a → ∃ x y, P1 j x ∧ P2 j y ∧ IsTupOf2 h a x y
theorem ZG.there {lo : Addr} {h : Heap} {as : List Addr} (g : ZG P1 P2 lo h as) {a : Addr} (ha : a ∈ as) : a < h.objs.size := by
  obtain ⟨j, hj⟩ := List.mem_iff_getElem?.mp ha
  obtain ⟨_, _, _, _, e⟩ := g.pairs j a hj
  exact Heap.lt_size e
end
section
variable {prog : Program} {w : World} {A : Around} {E : Value → Shared → Prop} {s : Shared} {R : Result → Shared → Prop} {z TI TO T i1 i2 S : Addr} {fp1 fp2 : List Addr} {n1 n2 : Nat} {P1 P2 : Nat → Value → Prop} {St1 St2 : Nat → Heap → Prop}
end
/-- the pairs tracked at their addresses -/
def putP : Hp → List Addr → List (V × V) → Hp
  | H, a :: as, p :: ps => putP (upd H a (.tup [p.1, p.2])) as ps
  | H, _, _ => H
section
variable {X : Cx}
/-- a list or a tuple as the argument of zip -/
structure ZArg (X : Cx) (s : Shared) (v : Value) (us : List Value) : Prop where
  ex : ∃ (l : Addr) (o : Obj) (Hh : Heap → Prop) (St : Addr → Nat → Heap → Prop), v = .ref l ∧ l < s.heap.objs.size ∧ Begins v o Hh ∧ Hh s.heap ∧ (∀ (A : Around) (it : Addr), A.handled = none → l ≠ it → Draws X.prog X.w A it [it, l] us.length (fun i v => us[i]? = some v) (St it)) ∧ ∀ h it, Hh h → h.get? it = some o → St it 0 h
theorem zl_f3 (N b : Nat) (h : b < N) : b ∉ [N + 4, N + 3, N, N + 1] := by simp; omega
def rListZip (K : PySem.W.Frag) : List V → Hp → VK → Prop := fun vs H Q => ∃ (a b : Addr) (xs ys : List V), vs = [.ref a, .ref b] ∧ (SqL K H a xs ∨ SqT K H a xs) ∧ (SqL K H b ys ∨ SqT K H b ys) ∧
  ∀ (H' : Hp) (p : Addr) (ts : List Addr), (∀ b o, H b = some o → H' b = some o) → H p = none → (∀ t ∈ ts, H t = none) → p ∉ ts → H' p = some (.lst (ts.map V.ref)) → Paired (fun (t : Addr) (q : V × V) => H' t = some (.tup [q.1, q.2])) ts (xs.zip ys) → Q (.ref p) H'
end
end PV

namespace PV
open PySem PySem.Spec L2
/-! list(zip), join, str, isinstance, all, sorted pairs -/
section
variable {G : Gx} {W : WX} {pr : Addr → Prop} {io : List (Nat × V)} {σ : L2.St} {s s1 : Sx} {ios : List Nat} {Q : VK} {X : Cx} {a b c e o : Expr} {es : List Expr} {pos p pos2 p2 apos : Pos} {x m : Str} {ga gb gc gi g0 : Ev} {gs gk : Ss → OuL}
/-- the heap grows -/
def Grow (H H' : Hp) : Prop := ∀ b o, H b = some o → H' b = some o
theorem Grow.tk {H H' : Hp} (k : Grow H H') : Tk H H' := ⟨fun a vs h => k _ _ h, fun a o u h => k _ _ h⟩
/-! ### list(zip(a, b)) -/
def sqF : Tm → Option (List D)
  | .v k (.lst xs) => elk k xs
  | .v k (.tup xs) => elk k xs
  | _ => none
def pairT (p : D × D) : D := .tup [p.1, p.2]
def opLZip (t u : Tm) : Option Tm := match sqF t, sqF u with
  | some xs, some ys => some (.v .O (.lst ((xs.zip ys).map pairT)))
  | _, _ => none
def eLZip : Ev → Ev → Ev := eOp2 opLZip
/-! ### sep.join(xs), str(i) -/
def strsD : List D → Option (List Str)
  | [] => some []
  | .str i :: ds => (strsD ds).map (i :: ·)
  | _ => none
theorem strsD_map : ∀ ns : List Str, strsD (ns.map .str) = some ns
  | [] => rfl
  | n :: ns => by simp [strsD, strsD_map ns]
def asS : Tm → Option Str
  | .v _ (.str z) => some z
  | _ => none
def joinO (a : Str) (t : Tm) : Option Tm := match toD t with
  | .lst xs => (strsD xs).bind fun ys => if (ys.map (·.length)).sum + ys.length * a.length ≤ 16777216 then some (.v .F (.str (Txt.join a ys))) else none
  | .tup xs => (strsD xs).bind fun ys => if (ys.map (·.length)).sum + ys.length * a.length ≤ 16777216 then some (.v .F (.str (Txt.join a ys))) else none
  | _ => none
def eJoin (ga gb : Ev) : Ev := fun ρ => (ga ρ).bind fun t ρ1 => match (derT ρ1 t).bind asS with
  | some z => (gb ρ1).bind fun u ρ2 => match (derT ρ2 u).bind (joinO z) with
    | some r => .ok r ρ2
    | none => .no
  | none => .no
def strID : D → Option D
  | .int i => if i.natAbs.log2 < 1920 then some (.str (toString i)) else none
  | _ => none
def eStrI : Ev → Ev := eOp1 (rd1 strID)
/-! ### str(o), o an own instance with __str__ -/
def rStrO (C : Addr) (sp : Sp) : List V → Hp → VK → Prop := fun xs H Q => ∃ a dx fs, xs = [.ref a] ∧ H a = some (.ins C dx fs) ∧ sp [.ref a] H (fun v H' => (∃ z, v = .str z) ∧ Q v H') fun _ _ _ => False
def isStrT : Tm → Bool
  | .v _ (.str _) => true
  | _ => false
def eStrO (c : Nat) (fn : Fn) (ms : List Md) (g0 : Ev) : Ev := fun ρ => (g0 ρ).bind fun t0 ρ1 => if isOb c (derT ρ1 t0) = true then match callF fn ms [t0] ρ1 with
  | .ok t ρ2 => if isStrT t = true then .ok t ρ2 else .no
  | _ => .no
  else .no
/-! ### isinstance(x, T), T a built-in type -/
inductive Ty | non | bl | int | str | tup | lst | dic
  deriving DecidableEq
def tyD : D → Option Ty
  | .non => some .non
  | .bl _ => some .bl
  | .int _ => some .int
  | .str _ => some .str
  | .tup _ => some .tup
  | .lst _ => some .lst
  | .dK _ _ => some .dic
  | _ => none
def Ty.nm : Ty → String
  | .non => "NoneType" | .bl => "bool" | .int => "int" | .str => "str" | .tup => "tuple" | .lst => "list" | .dic => "dict"
def isiB (a T : Ty) : Bool := decide (a = T) || (decide (a = .bl) && decide (T = .int))
theorem kitB_of (a T : Ty) (hT : T ≠ .non) : kitB a.nm T.nm = some (isiB a T) := by
  cases T <;> first | exact absurd rfl hT | (cases a <;> decide +kernel)
theorem tyX_of {K : PySem.W.Frag} {H : Hp} {P : Addr → Prop} {d : D} {v : V} {t : Ty} (h : Rep G H P d v) (e : tyD d = some t) : TyX K H v (.type t.nm) := by
  cases d <;> simp only [tyD, reduceCtorEq, Option.some.injEq] at e <;> subst e <;> simp only [Rep] at h
  · subst h; exact .base .non
  · subst h; exact .base (.bl _)
  · subst h; exact .base (.int _)
  · subst h; exact .base (.str _)
  · obtain ⟨a, vs, rfl, h1, _⟩ := h; exact .base (.tup h1)
  · obtain ⟨a, vs, rfl, _, h1, _⟩ := h; exact .base (.lst h1)
  · obtain ⟨a, vs, rfl, _, h1, _⟩ := h; exact .base (.dK h1)
def isiD (T : Ty) (d : D) : Option D := (tyD d).map fun a => .bl (isiB a T)
def eIsi (T : Ty) : Ev → Ev := eOp1 (rd1 (isiD T))
theorem v_isi {T : Ty} (hT : T ≠ .non) (hm : X.mg "isinstance" = none) (hmt : X.mg x = none) (hv : bootBuiltins x = some (.type T.nm)) (ha : PEv X G W ios a ga) (hg : Gl X "isinstance" := by rfl) (hgt : Gl X x := by rfl) (hn : x ≠ "__name__" := by decide) (hdb : (x == ("__debug__" : Str)) = false := by decide)
    (hs : starEach [a, .Name x p2] X.env = (false, eval a X.env) :: starEach [.Name x p2] X.env := by rfl) (hs2 : starEach [.Name x p2] X.env = (false, eval (.Name x p2) X.env) :: starEach [] X.env := by rfl) (hpl : (backTo pos (starEach [.Name x p2] X.env)).any (·.1) = false := by rfl) :
    PEv X G W ios (.Call (.Name "isinstance" p) [a, .Name x p2] [] pos) (eIsi T ga) :=
  pe_imp (pe_callB call_isi hg hm (by decide +kernel) (pa_cons ha (pa_cons (pe_bltn (v := .ty T.nm) hgt hmt hv rfl hn hdb) pa_nil hs2) hs) (by decide) (by decide) hs hpl) fun σ H Q q => by
    show tEv G W ios ga σ H fun x H1 => rIsi X.K [x, .ty T.nm] H1 Q
    refine op1_end (f := rd1 (isiD T)) (r := fun x H Q => rIsi X.K [x, .ty T.nm] H Q) (Rd1.op ?_) rfl q
    intro H x dx d Q hx e q
    unfold isiD at e
    simp only [Option.map_eq_some_iff] at e
    obtain ⟨t, e, rfl⟩ := e
    exact ⟨x, .ty T.nm, _, _, _, rfl, .ty _, tyX_of hx e, kit_ty (kitB_of t T hT), q _ fun P => by simp only [Rep]⟩

/-! ### all(xs) -/
def bsD : List D → Option (List Bool)
  | [] => some []
  | .bl i :: ds => (bsD ds).map (i :: ·)
  | _ => none
theorem bsD_map : ∀ ns : List Bool, bsD (ns.map .bl) = some ns
  | [] => rfl
  | n :: ns => by simp [bsD, bsD_map ns]
def allD : D → Option D
  | .lst xs => (bsD xs).map fun bs => .bl (bs.all id)
  | _ => none
def eAll : Ev → Ev := eOp1 (rd1 allD)
/-! ### sorted(xs), pairs of ints -/
def pI (p : Int × Int) : D := .tup [.int p.1, .int p.2]
def pairsD : List D → Option (List (Int × Int))
  | [] => some []
  | .tup [.int i, .int j] :: ds => (pairsD ds).map ((i, j) :: ·)
  | _ => none
theorem pairsD_map : ∀ ns : List (Int × Int), pairsD (ns.map pI) = some ns
  | [] => rfl
  | n :: ns => by simp [pairsD, pI, pairsD_map ns]
theorem pairsD_eq : ∀ {ds : List D} {ns : List (Int × Int)}, pairsD ds = some ns → ds = ns.map pI
  | [], ns, e => by simp only [pairsD, Option.some.injEq] at e; subst e; rfl
  | d :: ds, ns, e => by
    unfold pairsD at e
    split at e
    · rename_i h; cases h
    · rename_i i j ds' h
      cases h
      simp only [Option.map_eq_some_iff] at e
      obtain ⟨ms, e, rfl⟩ := e
      rw [pairsD_eq e]
      rfl
    · cases e
/-- by the first, then by the second -/
def leP (x y : Int × Int) : Bool := decide (x.1 < y.1) || (decide (x.1 = y.1) && decide (x.2 ≤ y.2))
theorem leP_iff {x y : Int × Int} : leP x y = true ↔ x.1 < y.1 ∨ (x.1 = y.1 ∧ x.2 ≤ y.2) := by simp [leP]
theorem leP_trans (a b c : Int × Int) (h1 : leP a b = true) (h2 : leP b c = true) : leP a c = true := by rw [leP_iff] at *; omega
theorem leP_total (a b : Int × Int) : (leP a b || leP b a) = true := by rw [Bool.or_eq_true, leP_iff, leP_iff]; omega
theorem leP_anti {a b : Int × Int} (h1 : leP a b = true) (h2 : leP b a = true) : a = b := by rw [leP_iff] at *; exact Prod.ext (by omega) (by omega)
def psort (ps : List (Int × Int)) : List (Int × Int) := ps.mergeSort leP
theorem psort_perm (ns : List (Int × Int)) : (psort ns).Perm ns := List.mergeSort_perm _ _
theorem psort_up (ns : List (Int × Int)) : (psort ns).Pairwise (fun x y => leP x y = true) := List.pairwise_mergeSort leP_trans leP_total ns
theorem psort_uniq {a b : List (Int × Int)} (p : a.Perm b) (h1 : a.Pairwise (fun x y => leP x y = true)) (h2 : b.Pairwise (fun x y => leP x y = true)) : a = b := p.eq_of_pairwise (fun x y _ _ h1 h2 => leP_anti h1 h2) h1 h2
theorem psort_of {ns ms : List (Int × Int)} (p : ms.Perm ns) (h : ms.Pairwise (fun x y => leP x y = true)) : ms = psort ns := psort_uniq (p.trans (psort_perm ns).symm) h (psort_up ns)
def opSortP (t : Tm) : Option Tm := match toD t with
  | .lst xs => (pairsD xs).map fun ps => .v .O (.lst ((psort ps).map pI))
  | _ => none
def opSort2 (t : Tm) : Option Tm := match opSort t with
  | some r => some r
  | none => opSortP t
def eSort2 : Ev → Ev := eOp1 opSort2
theorem pairs_reps {H : Hp} {P : Addr → Prop} : ∀ {ps : List (Int × Int)} {vs : List V}, Reps G H P (ps.map pI) vs → ∃ k : V → Int × Int, (∀ x ∈ vs, ∃ t, x = V.ref t ∧ H t = some (.tup [.int (k x).1, .int (k x).2])) ∧ vs.map k = ps := by
  intro ps vs h
  refine ⟨fun v => match v with
    | .ref t => match H t with
      | some (.tup [.int i, .int j]) => (i, j)
      | _ => (0, 0)
    | _ => (0, 0), ?_⟩
  induction ps generalizing vs with
  | nil => simp only [List.map_nil, Reps] at h; subst h; exact ⟨fun x hx => (by cases hx), rfl⟩
  | cons q ps ih =>
    simp only [List.map_cons, Reps, pI, Rep] at h
    obtain ⟨v, r, rfl, ⟨a, ws, rfl, h1, w1, r1, rfl, rfl, w2, r2, rfl, rfl, rfl⟩, h⟩ := h
    obtain ⟨i1, i2⟩ := ih h
    refine ⟨fun x hx => ?_, ?_⟩
    · rcases List.mem_cons.mp hx with rfl | hx
      · exact ⟨a, rfl, by simp only [h1]⟩
      · exact i1 x hx
    · rw [List.map_cons, i2]
      simp only [h1]
theorem reps_pairs {H : Hp} {P : Addr → Prop} {k : V → Int × Int} : ∀ {vs : List V}, (∀ x ∈ vs, ∃ t, x = V.ref t ∧ H t = some (.tup [.int (k x).1, .int (k x).2])) → Reps G H P ((vs.map k).map pI) vs
  | [], _ => by simp [Reps]
  | v :: vs, h => by
    obtain ⟨t, e, ht⟩ := h v List.mem_cons_self
    simp only [List.map_cons, Reps, pI, Rep]
    exact ⟨v, vs, rfl, ⟨t, _, e, ht, _, _, rfl, rfl, _, _, rfl, rfl, rfl⟩, reps_pairs fun x hx => h x (List.mem_cons_of_mem _ hx)⟩
theorem v_sort2 (hK : G.K = X.K) (hm : X.mg "sorted" = none) (ha : PEv X G W ios a ga) (hg : Gl X "sorted" := by rfl) (hs : starEach [a] X.env = (false, eval a X.env) :: starEach [] X.env := by rfl) : PEv X G W ios (.Call (.Name "sorted" p) [a] [] pos) (eSort2 ga) :=
  v_b1 (cr_srt.or cr_sortedPO) (by
    intro pr io σ s x tx t ox Q hr hx e q
    have hd := TmR.toD _ _ _ hx
    unfold opSort2 at e
    split at e
    · rename_i r he
      cases e
      refine .inl ?_
      unfold opSort at he
      split at he
      · rename_i xs hxs
        rw [hxs] at hd
        simp only [Rep] at hd
        obtain ⟨a, vs, rfl, _, h1, h2⟩ := hd
        simp only [Option.map_eq_some_iff] at he
        obtain ⟨ns, he, rfl⟩ := he
        rw [intsD_eq he] at h2
        rw [reps_ints h2] at h1
        exact ⟨a, ns, rfl, .inl (.of h1), fun ns' p hp hu hn => by rw [isort_of hp hu]; exact q.lst hr (reps_of_ints _) hn⟩
      · rename_i xs hxs
        rw [hxs] at hd
        simp only [Rep] at hd
        obtain ⟨a, vs, rfl, h1, h2⟩ := hd
        simp only [Option.map_eq_some_iff] at he
        obtain ⟨ns, he, rfl⟩ := he
        rw [intsD_eq he] at h2
        rw [reps_ints h2] at h1
        exact ⟨a, ns, rfl, .inr (.of h1), fun ns' p hp hu hn => by rw [isort_of hp hu]; exact q.lst hr (reps_of_ints _) hn⟩
      · rename_i hxs
        rw [hxs] at hd
        simp only [Rep] at hd
        obtain ⟨a, rfl, h1⟩ := hd
        cases he
        refine ⟨a, [], rfl, .inr (kt_mono (hK ▸ h1)), fun ns' p hp hu hn => ?_⟩
        have := hp.eq_nil
        subst this
        exact q.lst hr (by simp [Reps]) hn
      · cases he
    · refine .inr ?_
      unfold opSortP at e
      split at e
      · rename_i xs hxs
        rw [hxs] at hd
        simp only [Rep] at hd
        obtain ⟨a, vs, rfl, _, h1, h2⟩ := hd
        simp only [Option.map_eq_some_iff] at e
        obtain ⟨ps, e, rfl⟩ := e
        rw [pairsD_eq e] at h2
        obtain ⟨k, k1, k2⟩ := pairs_reps h2
        refine ⟨a, vs, k, rfl, .of h1, k1, fun ys p hs hb hp => ?_⟩
        have hperm : ys.Perm vs := hb.perm
        have e1 : ys.map k = psort ps := psort_of (by rw [← k2]; exact hperm.map k) (List.pairwise_map.mpr (List.Pairwise.imp (fun {x y} h => by
          have h := SrtO.lexB_no.mp h
          rw [leP_iff]; omega) hs))
        rw [← e1] at q
        exact q.lst hr (reps_pairs fun x hx => k1 x (hperm.mem_iff.mp hx)) hp
      · cases e) hm ha hg (hs := hs)
end
end PV

namespace PV
open PySem PySem.Spec L2
/-! chained comparisons, enumerate over lists, in over data, texts in tuples, a method of a new list -/
section
variable {G : Gx} {W : WX} {pr : Addr → Prop} {io : List (Nat × V)} {σ : L2.St} {s s1 s2 : Sx} {ios : List Nat} {Q : VK} {X : Cx} {a b c e o d : Expr} {es : List Expr} {pos p pos2 p2 tpos apos cpos : Pos} {x m : Str} {ga gb gc gd gi g0 : Ev} {gs gk : Ss → OuL} {kk : Nat} {elts : List Expr}
/-! ### a <= b <= c -/
def chK (f : Tm → Tm → Option Tm) (t u : Tm) (ρ : Ss) (k : Ss → Ou) : Ou := match derT ρ t, derT ρ u with
  | some x, some y => match f x y with
    | some (.v .F (.bl true)) => k ρ
    | some (.v .F (.bl false)) => .ok (.v .F (.bl false)) ρ
    | _ => .no
  | _, _ => .no
def chE (f : Tm → Tm → Option Tm) (t u : Tm) (ρ : Ss) : Ou := match derT ρ t, derT ρ u with
  | some x, some y => match f x y with
    | some r => .ok r ρ
    | _ => .no
  | _, _ => .no
def eCh2 (f g : Tm → Tm → Option Tm) (ga gb gc : Ev) : Ev := fun ρ => (ga ρ).bind fun t ρ1 => (gb ρ1).bind fun u ρ2 => chK f t u ρ2 fun ρ2 => (gc ρ2).bind fun w ρ3 => chE g u w ρ3
def eCh3 (f g h : Tm → Tm → Option Tm) (ga gb gc gd : Ev) : Ev := fun ρ => (ga ρ).bind fun t ρ1 => (gb ρ1).bind fun u ρ2 => chK f t u ρ2 fun ρ2 => (gc ρ2).bind fun w ρ3 => chK g u w ρ3 fun ρ3 => (gd ρ3).bind fun z ρ4 => chE h w z ρ4
def tChain3 (r r' r'' : R2) (ta tb tc td : TE) : TE := fun σ H Q => ta σ H fun x H1 => tb σ H1 fun y H2 => r x y H2 fun z H3 => ∃ k, z = .bl k ∧
  (if k = true then tc σ H3 fun w H4 => r' y w H4 fun z H5 => ∃ k, z = .bl k ∧ (if k = true then td σ H5 fun v H6 => r'' w v H6 Q else Q (.bl false) H5) else Q (.bl false) H3)
/-! ### enumerate over a list or a tuple -/
def itemsEnA : Tm → Option (List Tm)
  | .v k (.tup xs) => some ((enumD 0 xs).map (subK k))
  | .v k (.lst xs) => some ((enumD 0 xs).map (subK k))
  | _ => none
def itEnA (g : Ev) : Iv := fun ρ => (g ρ).bindL fun t ρ1 => match itemsEnA t with
  | some ts => .ok ts ρ1
  | none => .no
theorem i_enA (hm : X.mg "enumerate" = none) (ha : PEv X G W ios a ga) (hg : Gl X "enumerate" := by rfl) (hs : starEach [a] X.env = [(false, eval a X.env)] := by rfl) : PIv X G W ios (.Tuple elts kk tpos) (.Call (.Name "enumerate" p) [a] [] pos) (itEnA ga) := by
  refine ⟨fun pins s σ H R I q => ?_⟩
  obtain ⟨pr, io, s, rfl, hi, r, q⟩ := q
  have hE : itEnA ga s.ρ = itEnT ga s.ρ ∨ ∃ k xs ρ', ga s.ρ = .ok (.v k (.lst xs)) ρ' ∧ itEnA ga s.ρ = .ok ((enumD 0 xs).map (subK k)) ρ' := by
    unfold itEnA itEnT
    cases eg : ga s.ρ with
    | no => exact .inl rfl
    | ex e ρ' => exact .inl rfl
    | ok t ρ' =>
      cases t with
      | v k d => cases d <;> first | exact .inl rfl | exact .inr ⟨_, _, _, rfl, rfl⟩
      | _ => exact .inl rfl
  rcases hE with hE | ⟨k, xs, ρ', eg, hE⟩
  · rw [hE] at q
    exact (i_enT (tpos := tpos) (kk := kk) (elts := elts) hm ha hg hs).run pins _ σ _ R I ⟨pr, io, s, rfl, hi, r, q⟩
  · rw [hE] at q
    refine (pi_enum (tpos := tpos) hg hm (pa_cons ha pa_nil hs) hs).run pins _ σ _ R I ?_
    show tEv G W ios ga σ s.H (fun x H1 => ∃ a xs, [x] = [.ref a] ∧ SqL X.K H1 a xs ∧ R (Ite X.K a) H1)
    refine tEv_of hi r ?_
    rw [eg]
    intro v s1 ot e1 r1 x1 p1 f1
    subst e1
    obtain ⟨a, vs, rfl, h1, h2, n1⟩ := lst_no p1 r1
    refine ⟨a, vs, rfl, .of h1, q _ s1 rfl r1 x1 ⟨fun H => SqL X.K H a vs, YPair (fun i => some (.int (i : Nat))) (fun i => vs[i]?), ?_, fun s2 σ2 r2 x2 => ⟨SqL.of (x2.keep _ _ h1 n1), fun i x H' hlt y => ?_⟩⟩⟩
    · rw [List.length_map, enumD_len, h2.len]; exact walk_enum
    · obtain ⟨T, u, w, rfl, hT, rfl, hu, hw⟩ := y
      rw [List.length_map, enumD_len] at hlt
      cases hu
      have h2' := Tp.reps (v := .non) (ot := []) r1 h2 x2
      obtain ⟨w', hw', hd⟩ := h2'.get (List.getElem?_eq_getElem hlt)
      dsimp only at hw; rw [hw] at hw'; cases hw'
      refine ⟨s2.new T _, _, rfl, rfl, r2.new hT _, Ext.new hT _, ?_, new_pair (x := .int ((i : Nat) : Int)) r2 hT (by simp only [Rep]) hd⟩
      rw [List.getElem?_map, enumD_at _ _ _ _ (List.getElem?_eq_getElem hlt), Nat.zero_add]
      rfl

/-! ### in over data -/
def strsT : List D → Option (List Str)
  | [] => some []
  | .str a :: ds => (strsT ds).map (a :: ·)
  | _ => none
/-- a text in a tuple of texts, a datum in a list -/
def inP (neg : Bool) (x y : D) : Option D := match x, y with
  | .str a, .tup ys => (strsT ys).map fun l => .bl (if neg then !decide (a ∈ l) else decide (a ∈ l))
  | x, .lst ys => match toPy x, toPys ys with
    | some p, some qs => if SeqAt.shaped p = true ∧ SeqAt.shaped (.list qs) = true then some (.bl (if neg then !(qs.any fun z => PyData.eqv z p) else qs.any fun z => PyData.eqv z p)) else none
    | _, _ => none
  | _, _ => none
def inE (neg : Bool) (x y : D) : Option D := match inD neg x y with
  | some r => some r
  | none => inP neg x y
def rInA (K : PySem.W.Frag) (neg : Bool) : R2 := fun x y H Q => rIn K neg x y H Q ∨ (if neg then rNotInD K x y H Q else rInD K x y H Q)
def eInE : Ev → Ev → Ev := eOp2 (rd2 (inE false))
def eNotInE : Ev → Ev → Ev := eOp2 (rd2 (inE true))
/-! ### a method of a list that nobody else has: e.m(x, ..) -/
def eNm (op : List D → List D → Option (D × List D)) (g : Ev) (gs : Ss → OuL) : Ev := fun ρ => (g ρ).bind fun t ρ1 => match t with
  | .v .O (.lst xs) => (gs ρ1).bind fun ts ρ2 => match frzs ts with
    | some ds => match op xs ds with
      | some (x, xs') => if xs'.length ≤ sizeLine then .ok (.v .F x) ρ2 else .no
      | none => .no
    | none => .no
  | _ => .no
variable {name : Str} {apos : Pos} {id : String} {rr : V → List V → Hp → VK → Prop} {op : List D → List D → Option (D × List D)}
/-! ### sorted(set(xs)): fewer than 64 different ones -/
def rSortedSet2 (w : World) (ns : List Int) : List V → Hp → VK → Prop := fun vs H Q => ∃ (a : Addr) (n : Nat), vs = [V.ref a] ∧ H a = some (SetO w a (fun k => decide (k ∈ ns)) n) ∧ (usort ns).length < 64 ∧
  ∀ (p : Addr), H p = none → Q (.ref p) (upd H p (.lst ((usort ns).map V.int)))
def ssD2 (xs : List D) : Option Tm := match intsD xs with
  | some ns => if ns.length + 1 < scanBound ∧ (usort ns).length < 64 then some (.v .O (.lst ((usort ns).map .int))) else none
  | none => none
def opSS2 (t : Tm) : Option Tm := match toD t with
  | .lst xs => ssD2 xs
  | .tup xs => ssD2 xs
  | .kt => some (.v .O (.lst []))
  | _ => none
def eSortSet2 : Ev → Ev := eOp1 opSS2
/-! ### repr of a bool, of None, of a text -/
def boS (b : Bool) : Str := if b then "True" else "False"
def reprD2 : D → Option D
  | .bl b => some (.str (boS b))
  | .non => some (.str "None")
  | .str x => if (reprText x).length ≤ sizeLine then some (.str (reprText x)) else none
  | d => reprD d
def rRepr2 (X : Cx) : List V → Hp → VK → Prop := fun vs H Q => (∃ b, vs = [.bl b] ∧ Q (.str (boS b)) H) ∨ (vs = [.non] ∧ Q (.str "None") H) ∨ (∃ x, vs = [.str x] ∧ (reprText x).length ≤ sizeLine ∧ Q (.str (reprText x)) H) ∨ rRepr X vs H Q
theorem cr_repr2 {k : Nat} (hr : RoomG k X.A) : CallR X (.builtin "repr") (rRepr2 X) := by
  intro pins s σ H vs us Q I r h
  rcases h with ⟨b, rfl, q⟩ | ⟨rfl, q⟩ | ⟨x, rfl, hz, q⟩ | h
  · cases r with
    | cons ry rt =>
      cases rt
      cases ry
      exact PySem.P.repr_of_bool ⟨.str _, H, I.tok _, ⟨_, rfl⟩, q⟩
  · cases r with
    | cons ry rt =>
      cases rt
      cases ry
      exact PySem.P.repr_of_none ⟨.str _, H, I.tok _, ⟨_, rfl⟩, q⟩
  · cases r with
    | cons ry rt =>
      cases rt
      obtain ⟨t, rfl⟩ := ry
      exact PySem.P.repr_of_str ⟨.str _, H, I.tok _, ⟨_, rfl⟩, q⟩ hz
  · exact cr_repr hr pins s σ H vs us Q I r h
def eRepr2 : Ev → Ev := eOp1 (rd1 reprD2)
theorem rd_repr : Rd1 G reprD (fun x H Q => rRepr X [x] H Q) := by
  intro H x dx d Q hx e q
  unfold reprD at e
  split at e
  · rename_i ds ed
    split at e
    · rename_i hc
      cases e
      have hp := Rep.dp (K := X.K) _ _ _ hx ed
      cases dx <;> simp only [toPy, Option.some.injEq, reduceCtorEq, Option.map_eq_some_iff, and_false, exists_false] at ed
      simp only [Rep] at hx
      obtain ⟨a, vs, rfl, _⟩ := hx
      exact .inr ⟨a, _, rfl, hp, hc.1, hc.2.1, hc.2.2.1, hc.2.2.2, q _ fun P => by simp only [Rep]⟩
    · cases e
  · rename_i ds ed
    split at e
    · rename_i hc
      cases e
      have hp := Rep.dp (K := X.K) _ _ _ hx ed
      cases dx <;> simp only [toPy, Option.some.injEq, reduceCtorEq, Option.map_eq_some_iff, and_false, exists_false] at ed
      simp only [Rep] at hx
      obtain ⟨a, vs, rfl, _⟩ := hx
      exact .inr ⟨a, _, rfl, hp, hc.1, hc.2.1, hc.2.2.1, hc.2.2.2, q _ fun P => by simp only [Rep]⟩
    · cases e
  · rename_i i ed
    split at e
    · rename_i hc
      cases e
      cases dx <;> simp only [toPy, Option.some.injEq, reduceCtorEq, Option.map_eq_some_iff, and_false, exists_false, PyData.int.injEq] at ed
      subst ed
      simp only [Rep] at hx
      subst hx
      exact .inl ⟨_, rfl, hc, q _ fun P => by simp only [Rep]⟩
    · cases e
  · cases e
theorem rd_repr2 : Rd1 G reprD2 (fun x H Q => rRepr2 X [x] H Q) := by
  intro H x dx d Q hx e q
  unfold reprD2 at e
  split at e
  · cases e
    simp only [Rep] at hx
    subst hx
    exact .inl ⟨_, rfl, q _ fun P => by simp only [Rep]⟩
  · cases e
    simp only [Rep] at hx
    subst hx
    exact .inr (.inl ⟨rfl, q _ fun P => by simp only [Rep]⟩)
  · split at e
    · rename_i hz
      cases e
      simp only [Rep] at hx
      subst hx
      exact .inr (.inr (.inl ⟨_, rfl, hz, q _ fun P => by simp only [Rep]⟩))
    · cases e
  · exact .inr (.inr (.inr (rd_repr H x dx d Q hx e q)))
theorem v_repr2 {k : Nat} (hr : RoomG k X.A) (hm : X.mg "repr" = none) (ha : PEv X G W ios a ga) (hg : Gl X "repr" := by rfl) (hs : starEach [a] X.env = (false, eval a X.env) :: starEach [] X.env := by rfl) : PEv X G W ios (.Call (.Name "repr" p) [a] [] pos) (eRepr2 ga) :=
  v_b1 (cr_repr2 hr) (Rd1.op rd_repr2) hm ha hg (hs := hs)
end
end PV

namespace PV
open PySem PySem.Spec L2
/-! what a name owns is lent to one expression -/
mutual
def eqDd : D → D → Bool
  | .non, .non => true
  | .bl a, .bl b => a == b
  | .int a, .int b => decide (a = b)
  | .str a, .str b => decide (a = b)
  | .tup a, .tup b => eqDs a b
  | .lst a, .lst b => eqDs a b
  | .dK k a, .dK l b => decide (k = l) && eqDs a b
  | .dT k a, .dT l b => eqDs k l && eqDs a b
  | .ins c a, .ins e b => decide (c = e) && eqDs a b
  | .scr a, .scr b => decide (a = b)
  | .kt, .kt => true
  | .err c a, .err e b => decide (c = e) && eqDs a b
  | .unk a, .unk b => decide (a = b)
  | _, _ => false
def eqDs : List D → List D → Bool
  | [], [] => true
  | a :: as, b :: bs => eqDd a b && eqDs as bs
  | _, _ => false
end
mutual
def eqT : Tm → Tm → Bool
  | .v k a, .v l b => decide (k = l) && eqDd a b
  | .tp a, .tp b => eqTs a b
  | .ls a, .ls b => eqTs a b
  | .ob c a, .ob e b => decide (c = e) && eqTs a b
  | .loc i, .loc j => decide (i = j)
  | _, _ => false
def eqTs : List Tm → List Tm → Bool
  | [], [] => true
  | a :: as, b :: bs => eqT a b && eqTs as bs
  | _, _ => false
end
def eqSs : Ss → Ss → Bool
  | [], [] => true
  | none :: as, none :: bs => eqSs as bs
  | some a :: as, some b :: bs => eqT a b && eqSs as bs
  | _, _ => false
mutual
def noB : Tm → Bool
  | .v .B _ => false
  | .v .F _ => true
  | .v .O _ => true
  | .tp ts => noBs ts
  | .ls ts => noBs ts
  | .ob _ ts => noBs ts
  | .loc _ => false
def noBs : List Tm → Bool
  | [] => true
  | t :: ts => noB t && noBs ts
end
mutual
theorem TmR.noB {G : Gx} {H : Hp} {fz pr pr' : Addr → Prop} : ∀ (t : Tm) (v : V) (os : List Addr), noB t = true → TmR G H fz pr t v os → TmR G H fz pr' t v os
  | .v .F d, v, os, _, h => by simp only [TmR] at h ⊢; exact h
  | .v .B d, v, os, e, h => by simp [PV.noB] at e
  | .v .O d, v, os, _, h => by simp only [TmR] at h ⊢; exact h
  | .tp ts, v, os, e, h => by
    simp only [TmR, PV.noB] at h e ⊢
    obtain ⟨a, vs, e1, h1, h2⟩ := h
    exact ⟨a, vs, e1, h1, TmRs.noB ts vs os e h2⟩
  | .ls ts, v, os, e, h => by
    simp only [TmR, PV.noB] at h e ⊢
    obtain ⟨a, vs, o, e1, e2, h1, h2⟩ := h
    exact ⟨a, vs, o, e1, e2, h1, TmRs.noB ts vs o e h2⟩
  | .ob c ts, v, os, e, h => by
    simp only [TmR, PV.noB] at h e ⊢
    obtain ⟨a, dx, vs, o, e1, e2, h1, hl, h2⟩ := h
    exact ⟨a, dx, vs, o, e1, e2, h1, hl, TmRs.noB ts vs o e h2⟩
  | .loc i, v, os, e, h => by simp [PV.noB] at e
theorem TmRs.noB {G : Gx} {H : Hp} {fz pr pr' : Addr → Prop} : ∀ (ts : List Tm) (vs : List V) (os : List Addr), noBs ts = true → TmRs G H fz pr ts vs os → TmRs G H fz pr' ts vs os
  | [], vs, os, _, h => by simp only [TmRs] at h ⊢; exact h
  | t :: ts, vs, os, e, h => by
    simp only [TmRs, noBs, Bool.and_eq_true] at h e ⊢
    obtain ⟨v, r, o1, o2, e1, e2, h1, h2⟩ := h
    exact ⟨v, r, o1, o2, e1, e2, TmR.noB t v o1 e.1 h1, TmRs.noB ts r o2 e.2 h2⟩
end
def okB1 : Tm → Bool
  | .v _ _ => true
  | t => noB t
def okB : Ss → Bool
  | [] => true
  | none :: ρ => okB ρ
  | some t :: ρ => okB1 t && okB ρ
section
variable {G : Gx} {H H' : Hp} {fz fz' pr pr' : Addr → Prop}
theorem TmR.back {t : Tm} {v : V} {o o' : List Addr} (e : okB1 t = true) (h' : TmR G H' fz' pr' t v o') (h : TmR G H fz pr t v o) (hf : ∀ a, fz a → fz' a) (hk : ∀ a u, (fz a ∨ pr a) → H a = some u → H' a = some u) (ht : Tk H H') : TmR G H' fz' pr t v o' := by
  cases t with
  | v k d =>
    cases k with
    | F => simp only [TmR] at h' ⊢; exact h'
    | O => simp only [TmR] at h' ⊢; exact h'
    | B =>
      simp only [TmR] at h h' ⊢
      exact ⟨h'.1, Rep.keep (fun a p => p.imp (hf a) id) (fun a u p => hk a u p) ht _ _ h.2⟩
  | tp ts => exact TmR.noB _ _ _ (by simpa [okB1] using e) h'
  | ls ts => exact TmR.noB _ _ _ (by simpa [okB1] using e) h'
  | ob c ts => exact TmR.noB _ _ _ (by simpa [okB1] using e) h'
  | loc i => simp [okB1, PV.noB] at e
theorem Sl.back0 (hf : ∀ a, fz a → fz' a) (hk : ∀ a u, (fz a ∨ pr a) → H a = some u → H' a = some u) (ht : Tk H H') : ∀ {ρ : Ss} {σ : L2.St} {o o' : List Addr}, okB ρ = true → Sl G H' fz' pr' ρ σ o' → Sl G H fz pr ρ σ o → Sl G H' fz' pr ρ σ o'
  | [], σ, o, o', _, h', h => by simp only [Sl] at h' ⊢; exact h'
  | none :: ρ, σ, o, o', e, h', h => by
    simp only [Sl, okB] at h h' e ⊢
    obtain ⟨x, r, e1, h'⟩ := h'
    obtain ⟨x2, r2, e2, h⟩ := h
    rw [e1] at e2
    cases e2
    exact ⟨x, r, e1, Sl.back0 hf hk ht e h' h⟩
  | some t :: ρ, σ, o, o', e, h', h => by
    simp only [Sl, okB, Bool.and_eq_true] at h h' e ⊢
    obtain ⟨v, r, o1, o2, e1, e2, h1, h2⟩ := h'
    obtain ⟨v', r', p1, p2, e3, e4, k1, k2⟩ := h
    rw [e1] at e3
    cases e3
    exact ⟨v, r, o1, o2, e1, e2, TmR.back e.1 h1 k1 hf hk ht, Sl.back0 hf hk ht e.2 h2 k2⟩
theorem Sl.back {tb t : Tm} {v : V} {o2 : List Addr} (hb : ∀ w q, TmR G H' fz' pr' tb w q → q = []) (hf : ∀ a, fz a → fz' a) (hk : ∀ a u, (fz a ∨ pr a) → H a = some u → H' a = some u) (ht : Tk H H') (h2 : TmR G H' fz' pr t v o2) :
    ∀ {ρ : Ss} {i : Nat} {σ : L2.St} {o o' : List Addr}, okB ρ = true → ρ[i]? = some (some t) → σ[i]? = some (some v) → Sl G H' fz' pr' (ρ.set i (some tb)) σ o' → Sl G H fz pr ρ σ o → ∃ o1 o3, o' = o1 ++ o3 ∧ Sl G H' fz' pr ρ σ (o1 ++ (o2 ++ o3))
  | [], i, σ, o, o', _, e, _, _, _ => by simp at e
  | none :: ρ, 0, σ, o, o', _, e, _, _, _ => by simp at e
  | none :: ρ, i + 1, σ, o, o', e, e0, ev, h', h => by
    simp only [Sl, okB, List.set_cons_succ, List.getElem?_cons_succ] at h h' e e0 ⊢
    obtain ⟨x, r, e1, h'⟩ := h'
    obtain ⟨x2, r2, e2, h⟩ := h
    subst e1
    cases e2
    obtain ⟨o1, o3, e4, h4⟩ := Sl.back hb hf hk ht h2 e e0 (by simpa using ev) h' h
    exact ⟨o1, o3, e4, x, r, rfl, h4⟩
  | some t0 :: ρ, 0, σ, o, o', e, e0, ev, h', h => by
    simp only [Sl, okB, List.set_cons_zero, Bool.and_eq_true] at h h' e ⊢
    obtain ⟨w, r, q1, q2, e1, e2, k1, k2⟩ := h'
    obtain ⟨v', r', p1, p2, e3, e4, m1, m2⟩ := h
    subst e1
    cases e3
    have et : t0 = t := by simpa using e0
    subst et
    have evv : w = v := by simpa using ev
    subst evv
    have := hb _ _ k1
    subst this
    refine ⟨[], o', rfl, ?_⟩
    rw [List.nil_append] at e2
    subst e2
    exact ⟨w, r, o2, o', rfl, rfl, h2, Sl.back0 hf hk ht e.2 k2 m2⟩
  | some t0 :: ρ, i + 1, σ, o, o', e, e0, ev, h', h => by
    simp only [Sl, okB, List.set_cons_succ, List.getElem?_cons_succ, Bool.and_eq_true] at h h' e e0 ⊢
    obtain ⟨w, r, q1, q2, e1, e2, k1, k2⟩ := h'
    obtain ⟨v', r', p1, p2, e3, e4, m1, m2⟩ := h
    subst e1
    cases e3
    obtain ⟨o1, o3, e5, h5⟩ := Sl.back hb hf hk ht h2 e.2 e0 (by simpa using ev) k2 m2
    subst e2 e5
    exact ⟨q1 ++ o1, o3, by simp, w, r, q1, o1 ++ (o2 ++ o3), rfl, by simp, TmR.back e.1 k1 m1 hf hk ht, h5⟩
end
section
variable {G : Gx} {W : WX} {pr : Addr → Prop} {io : List (Nat × V)} {σ : L2.St} {s s1 s2 : Sx} {ios : List Nat} {Q : VK} {X : Cx} {a b c e o d : Expr} {es : List Expr} {pos p : Pos} {x m : Str} {ga gb gc g : Ev} {gs gk : Ss → OuL} {i : Nat}
abbrev lentT (t : Tm) : Tm := .v .B (toD t)
/-- the state while what the i-th name owns is lent -/
structure Lent (G : Gx) (pr : Addr → Prop) (io : List (Nat × V)) (σ : L2.St) (s : Sx) (i : Nat) (t : Tm) (v : V) (o2 : List Addr) (s0 : Sx) : Prop where
  H : s0.H = s.H
  fz : s0.fz = s.fz
  ρ : s0.ρ = s.ρ.set i (some (lentT t))
  cell : σ[i]? = some (some v)
  rel : TmR G s.H s.fz pr t v o2
  sub : ∀ a ∈ o2, a ∈ s.os
  nd : o2.Nodup
  out : ∀ a ∈ o2, a ∉ s0.os
  os : ∀ a ∈ s0.os, a ∈ s.os
  sr : SR G (fun a => pr a ∨ a ∈ o2) io σ s0
theorem Lent.ext {t : Tm} {v : V} {o2 : List Addr} {s0 : Sx} (l : Lent G pr io σ s i t v o2 s0) (x : Ext s0 s1) : ∀ a u, (a ∈ o2 ∨ s.fz a ∨ pr a) → s.H a = some u → s1.H a = some u := fun a u h e => by
  refine x.keep a u (by rw [l.H]; exact e) fun z => ?_
  have hs := l.sr.sep a z
  rcases h with h | h | h
  · exact hs.2 (.inr h)
  · rw [l.fz] at hs; exact hs.1 h
  · exact hs.2 (.inl h)
/-- it comes back -/
theorem Lent.back {t : Tm} {v : V} {o2 : List Addr} {s0 : Sx} (r : SR G pr io σ s) (l : Lent G pr io σ s i t v o2 s0) (e : s.ρ[i]? = some (some t)) (ok : okB s.ρ = true) (r1 : SR G (fun a => pr a ∨ a ∈ o2) io σ s1) (x1 : Ext s0 s1) (eρ : s1.ρ = s.ρ.set i (some (lentT t))) :
    ∃ os', SR G pr io σ { s1 with ρ := s.ρ, os := os' } ∧ Ext s { s1 with ρ := s.ρ, os := os' } ∧ (∀ a ∈ os', a ∈ s1.os ∨ a ∈ o2) := by
  have tk : Tk s.H s1.H := by rw [← l.H]; exact x1.tk
  have hf : ∀ a, s.fz a → s1.fz a := fun a h => x1.fz a (by rw [l.fz]; exact h)
  have ht2 : TmR G s1.H s1.fz pr t v o2 := TmR.keep hf (fun a p => .inr p) tk _ _ _ (fun a u h => l.ext x1 a u h) l.rel
  have sl := r1.sl
  rw [eρ] at sl
  obtain ⟨o1, o3, eo, sl2⟩ := Sl.back (pr' := fun a => pr a ∨ a ∈ o2) (fun w q h => by simp only [TmR] at h; exact h.1) hf (fun a u h => l.ext x1 a u (.inr h)) tk ht2 ok e l.cell sl r.sl
  have nd := r1.nd
  rw [eo] at nd
  have h2 : ∀ a ∈ o2, a ∉ o1 ++ o3 := fun a ha z => (r1.sep a (by rw [eo]; exact z)).2 (.inr ha)
  have hos : ∀ a ∈ o1 ++ (o2 ++ o3), a ∈ s1.os ∨ a ∈ o2 := fun a ha => by
    rw [eo]
    simp only [List.mem_append] at ha ⊢
    grind
  have hdom : ∀ a, s.H a ≠ none → s1.H a ≠ none := fun a h => x1.dom a (by rw [l.H]; exact h)
  have bk : ∀ a ∈ s1.os, a ∈ s.os ∨ s.H a = none := fun a ha => by
    rcases x1.oso a ha with h | h
    · exact .inl (l.os a h)
    · exact .inr (by rw [← l.H]; exact h)
  refine ⟨o1 ++ (o2 ++ o3), ⟨sl2, ?_, fun a ha => ?_, fun a ha => ?_, r.iov⟩, ⟨fun a u eu n => ?_, hdom, tk, hf, fun a h => ?_, fun a ha => ?_⟩, hos⟩
  · have n2 := l.nd
    show (o1 ++ (o2 ++ o3)).Nodup
    simp only [List.nodup_append, List.mem_append] at nd h2 ⊢
    grind
  · rcases hos a ha with h | h
    · have := r1.sep a h
      exact ⟨this.1, fun z => this.2 (.inl z)⟩
    · have hs := r.sep a (l.sub a h)
      refine ⟨fun z => ?_, hs.2⟩
      rcases x1.fzo a z with z | z | z
      · rw [l.fz] at z; exact hs.1 z
      · exact l.out a h z
      · rw [l.H] at z; exact (r.own a (l.sub a h)).ne z
  · exact r1.dom a (ha.imp id .inl)
  · exact x1.keep a u (by rw [l.H]; exact eu) fun z => n (l.os a z)
  · rcases x1.fzo a h with z | z | z
    · rw [l.fz] at z; exact .inl z
    · exact .inr (.inl (l.os a z))
    · rw [l.H] at z; exact .inr (.inr z)
  · rcases hos a ha with h | h
    · exact bk a h
    · exact .inl (l.sub a h)
def eBor (i : Nat) (g : Ev) : Ev := fun ρ => match ρ[i]? with
  | some (some t) => if okB ρ = true then match g (ρ.set i (some (lentT t))) with
    | .ok u ρ' => match unB u with
      | some w => if eqSs ρ' (ρ.set i (some (lentT t))) = true then .ok w ρ else .no
      | none => .no
    | _ => .no
    else .no
  | _ => .no
end
end PV

namespace PV
open PySem PySem.Spec L2
/-! lists that an object owns -/
section
variable {G : Gx} {W : WX} {pr : Addr → Prop} {io : List (Nat × V)} {σ : L2.St} {s s1 s2 : Sx} {ios : List Nat} {Q : VK} {X : Cx} {a b e o d ie : Expr} {es : List Expr} {pos p pos2 apos cpos : Pos} {x m f name : Str} {ga gb gc g gi : Ev} {gs gk : Ss → OuL} {i j c : Nat}
def borV (i : Nat) (g : Ev) (ρ : Ss) : Option Tm := match ρ[i]? with
  | some (some t) => if okB ρ = true then match g (ρ.set i (some (lentT t))) with
    | .ok u ρ' => match unB u with
      | some w => if eqSs ρ' (ρ.set i (some (lentT t))) = true then some w else none
      | none => none
    | _ => none
    else none
  | _ => none
def borL (i : Nat) (gs : Ss → OuL) (ρ : Ss) : Option (List Tm) := match ρ[i]? with
  | some (some t) => if okB ρ = true then match gs (ρ.set i (some (lentT t))) with
    | .ok us ρ' => match unBs us with
      | some ws => if eqSs ρ' (ρ.set i (some (lentT t))) = true then some ws else none
      | none => none
    | _ => none
    else none
  | _ => none
/-- the attribute j, a list, of the object in the slot i -/
def obA (ρ : Ss) (c i j : Nat) : Option (List Tm × List D) := match ρ[i]? with
  | some (some (.ob c' ts)) => if c' = c then match ts[j]? with
    | some (.v .O (.lst xs)) => some (ts, xs)
    | _ => none
    else none
  | _ => none
def setA (ρ : Ss) (c i j : Nat) (ts : List Tm) (xs : List D) : Ss := ρ.set i (some (.ob c (ts.set j (.v .O (.lst xs)))))
/-- self.f.m(e, ..) -/
def eLmA (op : List D → List D → Option (D × List D)) (c j i : Nat) (gs : Ss → OuL) : Ev := fun ρ => match obA ρ c i j with
  | some (ts, xs) => match borL i gs ρ with
    | some us => match frzs us with
      | some ds => match op xs ds with
        | some (x, xs') => if xs'.length ≤ sizeLine then .ok (.v .F x) (setA ρ c i j ts xs') else .no
        | none => .no
      | none => .no
    | none => .no
  | none => .no
variable {id : String} {rr : V → List V → Hp → VK → Prop} {op : List D → List D → Option (D × List D)}
end
end PV

namespace PV
open PySem PySem.Spec L2
/-! self.f[e] += n, self.f += xs -/
section
variable {G : Gx} {W : WX} {pr : Addr → Prop} {io : List (Nat × V)} {σ : L2.St} {s s1 s2 : Sx} {ios : List Nat} {Q : VK} {X : Cx} {a b e o d ie : Expr} {es : List Expr} {pos p pos2 tpos : Pos} {x f : Str} {ga gb gc g gi : Ev} {gs gk : Ss → OuL} {i j c : Nat}
def sAugA (c j i : Nat) (gi : Ev) (fo : Int → Int → Int) (g : Ev) : Sm := fun ρ => match obA ρ c i j with
  | some (ts, xs) => match (borV i gi ρ).bind asI with
    | some k => match L2.atI xs k with
      | some (.int m) => match (borV i g ρ).bind asI with
        | some n => match ixN xs.length k with
          | some jj => .nx (setA ρ c i j ts (xs.set jj (.int (fo m n))))
          | none => .no
        | none => .no
      | _ => .no
    | none => .no
  | none => .no
def sExtA (c j i : Nat) (g : Ev) : Sm := fun ρ => match obA ρ c i j with
  | some (ts, xs) => match borV i g ρ with
    | some t => match opExt xs t with
      | some zs => if zs.length ≤ sizeLine then .nx (setA ρ c i j ts zs) else .no
      | none => .no
    | none => .no
  | none => .no
end
/-! C() -/
section
open PyProof.Rows
variable {X : Cx} {k : Nat} {f C : Addr} {fd : FuncData} {ps : List Str} {sp : Sp} {E : L2.St → XK} {x : Str} {p pos : Pos} {g : List Value → List Value → List Value} {gV : List V → List V → List V}
end
section
variable {G : Gx} {W : WX} {ios : List Nat} {X : Cx} {pos p : Pos} {x : Str} {c k n : Nat} {fa : Addr} {fd : FuncData} {ps : List Str} {fn : Fn} {ms : List Md} {C : Addr} {g : List Value → List Value → List Value} {gV : List V → List V → List V} {dv : List V}
end
end PV

namespace PV
open PySem PySem.Spec L2
/-! ### dicts whose keys are tuples (of ints, texts, None, tuples of these) -/
section
variable {G : Gx} {X : Cx} {pins : List (Addr × Obj)} {σ : L2.St} {s : Shared} {H : Hp} {P : Addr → Prop}
mutual
theorem rep_nested (hK : G.K = X.K) (I : Inv X pins σ H s) : ∀ (d : D) (v : V) (u : Value) (k : NestedKey), Rep G H P d v → RelV v u → keyN d = some k → NestedIs s.heap k u
  | .non, v, u, k, h, r, e => by
    simp only [Rep] at h; subst h
    simp only [keyN, Option.some.injEq] at e; subst e
    cases r; exact .none
  | .int i, v, u, k, h, r, e => by
    simp only [Rep] at h; subst h
    simp only [keyN, Option.some.injEq] at e; subst e
    obtain ⟨t, rfl⟩ := (show ∃ t, u = Value.int i t from r)
    exact .int _ _
  | .str x, v, u, k, h, r, e => by
    simp only [Rep] at h; subst h
    simp only [keyN, Option.some.injEq] at e; subst e
    obtain ⟨t, rfl⟩ := (show ∃ t, u = Value.str x t from r)
    exact .text _ _
  | .tup xs, v, u, k, h, r, e => by
    simp only [Rep] at h
    obtain ⟨a, vs, rfl, h1, h2⟩ := h
    obtain rfl : u = Value.ref a := r
    simp only [keyN, Option.map_eq_some_iff] at e
    obtain ⟨ks, e, rfl⟩ := e
    obtain ⟨_, its, rv, o, g1, g2, n, g3⟩ := (show ObjOk X.prog X.w H s.heap a (.tup vs) from I.hok a _ h1)
    exact .tup g1 g2 g3 (by simpa using reps_nested hK I xs vs its ks h2 rv e)
  | .kt, v, u, k, h, r, e => by
    simp only [Rep] at h
    obtain ⟨a, rfl, h1⟩ := h
    obtain rfl : u = Value.ref a := r
    simp only [keyN, Option.some.injEq] at e; subst e
    rcases h1 with (h1 | ⟨o, h1⟩) | ⟨o, its, n, g1, g2, g3, _, rv⟩
    · cases h1
    · cases h1
    · have e0 : its.toList = [] := by
        generalize its.toList = l at rv
        cases rv; rfl
      exact .tup (I.kIn _ _ (hK ▸ g1)) g2 g3 (by rw [e0]; exact .nil)
  | .bl b, v, u, k, h, r, e => by simp [keyN] at e
  | .lst xs, v, u, k, h, r, e => by simp [keyN] at e
  | .dK ks xs, v, u, k, h, r, e => by simp [keyN] at e
  | .dT ks xs, v, u, k, h, r, e => by simp [keyN] at e
  | .ins c xs, v, u, k, h, r, e => by simp [keyN] at e
  | .scr ns, v, u, k, h, r, e => by simp [keyN] at e
theorem reps_nested (hK : G.K = X.K) (I : Inv X pins σ H s) : ∀ (ds : List D) (vs : List V) (us : List Value) (ks : List NestedKey), Reps G H P ds vs → Vals vs us → keysN ds = some ks → NestedAll s.heap ks us
  | [], vs, us, ks, h, r, e => by
    simp only [Reps] at h; subst h
    simp only [keysN, Option.some.injEq] at e; subst e
    cases r; exact .nil
  | d :: ds, vs, us, ks, h, r, e => by
    simp only [Reps] at h
    obtain ⟨v, vr, rfl, h1, h2⟩ := h
    simp only [keysN] at e
    split at e
    · rename_i k kr e1 e2
      cases e
      cases r with
      | cons r1 r2 => exact .cons (rep_nested hK I d v _ k h1 r1 e1) (reps_nested hK I ds vr _ kr h2 r2 e2)
    · cases e
end
end
/-! the rules over the heap -/
/-- y is the key k -/
def KeyV (K : PySem.W.Frag) (H : Hp) (k : NestedKey) (y : V) : Prop := ∃ (G : Gx) (P : Addr → Prop) (d : D), G.K = K ∧ Rep G H P d y ∧ keyN d = some k
/-- at a stands a dict with the entries es; o: what the heap says of it -/
structure XD (K : PySem.W.Frag) (H : Hp) (a : Addr) (es : Ents) : Prop where
  sys : (a == sysModules) = false
  keys : ∀ e ∈ es, KeyV K H e.1 (.ref e.2.1) ∧ e.1.depth ≤ 8
  size : es.length ≤ sizeLine
section
variable {X : Cx} {pins : List (Addr × Obj)} {σ : L2.St} {s : Shared} {H : Hp} {a d : Addr} {es : Ents} {k : NestedKey} {y : V} {u : Value}
theorem KeyV.is (h : KeyV X.K H k y) (I : Inv X pins σ H s) (r : RelV y u) : NestedIs s.heap k u := by
  obtain ⟨G, P, d, hK, h, e⟩ := h
  exact rep_nested hK I d y u k h r e
theorem XD.at (x : XD X.K H a es) (I : Inv X pins σ H s) (hd : dictAt X.w a es s.heap) : s.heap.DictOfH (nestedKind X.prog X.w) a es := by
  obtain ⟨o, e, ep, g1, g2, g3, g4, g5⟩ := hd
  exact ⟨o, e, ep, g1, g2, g3, g4, fun q hq => ⟨(x.keys q hq).1.is I rfl, (x.keys q hq).2⟩, g5⟩
/-- {} -/
def tDX0 (w : World) : TE := fun _ H Q => ∀ p, H p = none → (p == sysModules) = false → Q (.ref p) (upd H p (.ext (dictAt w p [])))
/-- d[y] = v -/
def rSetX (K : PySem.W.Frag) (w : World) : V → V → V → Hp → (Hp → Prop) → Prop := fun o i v H Q => ∃ a es k b, o = .ref a ∧ i = .ref b ∧ H a = some (.ext (dictAt w a es)) ∧ XD K H a es ∧ KeyV K H k i ∧ k.depth ≤ 8 ∧
  ∀ u, RelV v u → Q (upd H a (.ext (dictAt w a (storedH es k b u))))
/-- y in d -/
def tXIn (K : PySem.W.Frag) (w : World) (ty td : TE) : TE := fun σ H Q => ty σ H fun y H1 => td σ H1 fun x H2 => ∃ a es k b, x = .ref a ∧ y = .ref b ∧ H2 a = some (.ext (dictAt w a es)) ∧ XD K H2 a es ∧ KeyV K H2 k y ∧ k.depth ≤ 8 ∧ Q (.bl (atKey es k).isSome) H2
def tXNotIn (K : PySem.W.Frag) (w : World) (ty td : TE) : TE := fun σ H Q => ty σ H fun y H1 => td σ H1 fun x H2 => ∃ a es k b, x = .ref a ∧ y = .ref b ∧ H2 a = some (.ext (dictAt w a es)) ∧ XD K H2 a es ∧ KeyV K H2 k y ∧ k.depth ≤ 8 ∧ Q (.bl (!(atKey es k).isSome)) H2
variable {i o : Expr} {ty td : TE}
end
/-! walks over the keys; list(d) -/
section
variable {P : Program} {w : World} {K : PySem.W.Frag} {tg : Expr} {d : Addr} {o : Obj} {e : Array DictEntry} {ep : Nat} {es : Ents}
def Itx (w : World) (d : Addr) (o : Obj) (es : Ents) : It :=
  ⟨fun i H => H d = some (.frz o (.ext (dictAt w d es))) ∧ i < es.length, fun i H x H' => H' = H ∧ ∃ q, es[i]? = some q ∧ x = .ref q.2.1, fun i H => H d = some (.frz o (.ext (dictAt w d es))) ∧ es.length ≤ i⟩
end
/-- for k in d, d locked -/
def iKeysX (w : World) (td : TE) : TI := fun σ H R => td σ H fun x H1 => ∃ d o es, x = .ref d ∧ (d == sysModules) = false ∧ H1 d = some (.frz o (.ext (dictAt w d es))) ∧ R (Itx w d o es) H1
/-- list(d) -/
def rListX (w : World) : List V → Hp → VK → Prop := fun xs H Q => ∃ d es, xs = [V.ref d] ∧ (d == sysModules) = false ∧ es.length ≤ sizeLine ∧ H d = some (.ext (dictAt w d es)) ∧ ∀ p, H p = none → Q (.ref p) (upd H p (.lst (es.map fun e => V.ref e.2.1)))
end PV

namespace PV
open PySem PySem.Spec L2
/-! ### sorted of data -/
mutual
def encD : D → PyData
  | .non => .none
  | .bl b => .bool b
  | .int i => .int i
  | .str x => .str x
  | .tup xs => .tuple (encDs xs)
  | .lst xs => .list (encDs xs)
  | .kt => .tuple []
  | _ => .dict []
def encDs : List D → List PyData
  | [] => []
  | d :: ds => encD d :: encDs ds
end
section
variable {G : Gx} {X : Cx} {pins : List (Addr × Obj)} {σ : L2.St} {s : Shared} {H : Hp} {P : Addr → Prop}
end
/-- they can be sorted -/
def tupB : PyData → Bool
  | .tuple (_ :: _) => true
  | _ => false
def plainB : PyData → Bool
  | .none => false
  | .tuple _ => false
  | _ => true
def srtOk (ds : List D) : Bool := (ds.all fun d => ds.all fun e => PySem.W.alike (encD d) (encD e)) && (ds.all (fun d => tupB (encD d)) || ds.all fun d => plainB (encD d)) && ds.all fun d => decide ((encD d).depth ≤ 16)
def srtD (ds : List D) : List D := ds.mergeSort (PySem.W.dataLe false encD)
section
open PyProof.Rows PySem.W PySem.Calls
variable {prog : Program} {w : World} {A : Around} {E : Value → Shared → Prop} {s : Shared} {β : Type} {vs : List Value} {bs : List β} {enc : β → PyData} {R : Value → β → Prop}
end
section
open PyProof.Rows PySem.W PySem.Calls
variable {prog : Program} {w : World} {A : Around} {E : Value → Shared → Prop} {s : Shared} {vs : List Value}
end
section
open PySem.W
variable {G : Gx} {H : Hp} {P : Addr → Prop}
end
/-- sorted of a list, a tuple, a dict -/
def SrcV (K : PySem.W.Frag) (w : World) (H : Hp) (v : V) (xs : List V) : Prop := (∃ a, v = .ref a ∧ (SqL K H a xs ∨ SqT K H a xs)) ∨ ∃ d es, v = .ref d ∧ (d == sysModules) = false ∧ es.length ≤ sizeLine ∧ H d = some (.ext (dictAt w d es)) ∧ xs = es.map fun e => V.ref e.2.1
def rSortD (K : PySem.W.Frag) (w : World) : List V → Hp → VK → Prop := fun vs H Q => ∃ (v : V) (G : Gx) (P : Addr → Prop) (ds : List D) (xs : List V), vs = [v] ∧ G.K = K ∧ Reps G H P ds xs ∧ SrcV K w H v xs ∧ (xs.length < 2 ∨ srtOk ds = true) ∧
  ∀ p ys ds', H p = none → (if ds.length < 2 then ds' = ds else ds' = srtD ds) → (∀ (H' : Hp) (P' : Addr → Prop), Reps G H' P' ds xs → Reps G H' P' ds' ys) → Q (.ref p) (upd H p (.lst ys))
section
open PyProof.Rows PySem.W PySem.Calls
variable {X : Cx} {pins : List (Addr × Obj)} {σ : L2.St} {s : Shared} {H : Hp} {E : Value → Shared → Prop} {A : Around}
end
end PV

namespace PV
open PySem PySem.Spec L2
/-! dicts by entries: the layer's own expressions and statements -/
section
variable {G : Gx} {H : Hp} {P P' fz pr : Addr → Prop}
def isTupD : D → Bool
  | .tup _ => true
  | .kt => true
  | _ => false
/-! storing -/
def hasK (ks : List D) (kd : D) : Bool := ks.any fun q => decide (keyN q = keyN kd)
def putKs (ks : List D) (kd : D) : List D := if hasK ks kd = true then ks else ks ++ [kd]
def putXs (ks xs : List D) (kd d : D) : List D := if hasK ks kd = true then (ks.zip xs).map (fun p => if keyN p.1 = keyN kd then d else p.2) else xs ++ [d]
end
section
variable {G : Gx} {H : Hp} {P P' fz pr : Addr → Prop}
end
section
variable {G : Gx} {W : WX} {pr : Addr → Prop} {io : List (Nat × V)} {σ : L2.St} {s s1 : Sx} {ios : List Nat} {Q : VK} {X : Cx} {a b c e : Expr} {pos p p2 : Pos} {x : Str} {ga gb gc : Ev} {k : Nat}
/-! {} -/
def eDX0 : Ev := fun ρ => .ok (.v .O (.dT [] [])) ρ
/-! list(d), sorted(xs) -/
def opListX (t : Tm) : Option Tm := match t with
  | .v _ (.dT ks _) => some (.v .O (.lst ks))
  | _ => none
def eListX : Ev → Ev := eOp1 opListX
def srtT (ds : List D) : Option Tm := if ds.length < 2 then some (.v .O (.lst ds)) else if srtOk ds = true then some (.v .O (.lst (srtD ds))) else none
def opSortD (t : Tm) : Option Tm := match t with
  | .v k (.lst xs) => (elk k xs).bind srtT
  | .v k (.tup xs) => (elk k xs).bind srtT
  | .v _ (.dT ks _) => srtT ks
  | .v _ .kt => some (.v .O (.lst []))
  | _ => none
def eSortD : Ev → Ev := eOp1 opSortD
end
end PV

namespace PV
open PySem PySem.Spec L2
/-! d[k] = v; k in d; for k in d -/
section
variable {G : Gx} {W : WX} {pr : Addr → Prop} {io : List (Nat × V)} {σ : L2.St} {s s1 : Sx} {ios : List Nat} {Q : VK} {X : Cx} {a b c e : Expr} {pos p p2 : Pos} {x : Str} {ga gb gc : Ev} {k : Nat}
def isDX (ρ : Ss) (i : Nat) : Bool := match ρ[i]? with
  | some (some (.v .O (.dT _ _))) => true
  | _ => false
/-- what is a key -/
def keyOk (kd : D) : Bool := match keyN kd with
  | some k => isTupD kd && decide (k.depth ≤ 8)
  | none => false
def tgSubX (i : Nat) (gi : Ev) : Tg := fun t ρ => if isDX ρ i = true then match gi ρ with
  | .ok u ρ2 => match ρ2[i]? with
    | some (some (.v .O (.dT ks xs))) => match (derT ρ2 u).bind frz with
      | some kd => match frz t with
        | some d => if keyOk kd = true ∧ ks.length < sizeLine then some (ρ2.set i (some (.v .O (.dT (putKs ks kd) (putXs ks xs kd d))))) else none
        | none => none
      | none => none
    | _ => none
  | _ => none
  else none
end
end PV

namespace PV
open PySem PySem.Spec L2
/-! k in d -/
def rInX (K : PySem.W.Frag) (w : World) (neg : Bool) : R2 := fun y x H Q => ∃ a es k b, x = .ref a ∧ y = .ref b ∧ H a = some (.ext (dictAt w a es)) ∧ XD K H a es ∧ KeyV K H k y ∧ k.depth ≤ 8 ∧ Q (.bl (if neg = true then !(atKey es k).isSome else (atKey es k).isSome)) H
section
variable {X : Cx}
end
section
variable {G : Gx} {W : WX} {pr : Addr → Prop} {io : List (Nat × V)} {σ : L2.St} {s s1 : Sx} {ios : List Nat} {Q : VK} {X : Cx} {a b c e : Expr} {pos p p2 : Pos} {x : Str} {ga gb gc : Ev} {k : Nat}
def opInX (neg : Bool) (t u : Tm) : Option Tm := match u with
  | .v _ (.dT ks _) => match frz t with
    | some kd => if keyOk kd = true then some (.v .F (.bl (if neg = true then !hasK ks kd else hasK ks kd))) else none
    | none => none
  | _ => none
def eInX : Ev → Ev → Ev := eOp2 (opInX false)
def eNotInX : Ev → Ev → Ev := eOp2 (opInX true)
/-! for k in d: the name is empty, the dict locked, while the loop goes -/
def sForK (i : Nat) (tgt : Tg) (body : Sm) : Sm := fun ρ => match ρ[i]? with
  | some (some (.v .O (.dT ks xs))) => match forL tgt body (ks.map (Tm.v .F)) (ρ.set i none) with
    | .nx ρ' => match ρ'[i]? with
      | some none => .nx (ρ'.set i (some (.v .O (.dT ks xs))))
      | _ => .no
    | _ => .no
  | _ => .no
end
end PV

namespace PV
open PySem PySem.Spec L2
/-! {k: v} -/
def tDX1 (K : PySem.W.Frag) (w : World) (tk tv : TE) : TE := fun σ H Q => ∀ p, H p = none → (p == sysModules) = false → tPairs [(tk, tv)] σ (upd H p (.ext (dictAt w p []))) fun ps H2 => H2 p = some (.ext (dictAt w p [])) ∧ ∃ y v k b, ps = [(y, v)] ∧ y = .ref b ∧ KeyV K H2 k y ∧ k.depth ≤ 8 ∧
  ∀ u, RelV v u → Q (.ref p) (upd H2 p (.ext (dictAt w p [(k, b, u)])))
def eDX1 (gk gv : Ev) : Ev := fun ρ => (gk ρ).bind fun t ρ1 => (gv ρ1).bind fun u ρ2 => match (derT ρ2 t).bind frz, frz u with
  | some kd, some d => if keyOk kd = true ∧ flat d = true then .ok (.v .O (.dT [kd] [d])) ρ2 else .no
  | _, _ => .no
section
variable {G : Gx} {W : WX} {pr : Addr → Prop} {io : List (Nat × V)} {σ : L2.St} {s s1 : Sx} {ios : List Nat} {Q : VK} {X : Cx} {a b c e : Expr} {pos p p2 : Pos} {x : Str} {ga gb gc : Ev} {k : Nat}
end
end PV

namespace PV
open PySem PySem.Spec L2
/-! [.. for k in d ..]: the name is empty, the dict locked, while the block goes -/
def itKs (ks : List D) : Iv := fun ρ => .ok (ks.map (Tm.v .F)) ρ
def eCompK (i : Nat) (vs : List Nat) (tgt : Tg) (test elt : Ev) : Ev := fun ρ => match ρ[i]? with
  | some (some (.v .O (.dT ks xs))) => match eComp (itKs ks) vs tgt test elt (ρ.set i none) with
    | .ok (.v .O (.lst ds)) ρ' => match ρ'[i]? with
      | some none => .ok (.v .O (.lst ds)) (ρ'.set i (some (.v .O (.dT ks xs))))
      | _ => .no
    | _ => .no
  | _ => .no
section
variable {G : Gx} {W : WX} {pr : Addr → Prop} {io : List (Nat × V)} {σ : L2.St} {s s1 : Sx} {ios : List Nat} {Q : VK} {X : Cx} {a b c e : Expr} {pos p p2 : Pos} {x : Str} {ga gb gc : Ev} {k : Nat}
variable {elt : Expr} {ifs : List Expr} {scope : Scope} {own : List (Str × Nat)} {spos py : Pos} {tgt : Tg} {test gel : Ev} {tv : List Nat} {tg : Expr}
end
end PV

namespace PV
open PySem PySem.Spec L2
/-! xs.remove(x) over data -/
section
variable {prog : Program} {w : World} {A : Around} {s : Shared} {R : Result → Shared → Prop}
end
def rRemP (K : PySem.W.Frag) : V → List V → Hp → VK → Prop := fun x xs H Q => ∃ (l : Addr) (vs : List V) (y : V) (d : PyData) (ds : List PyData) (j : Nat), x = .ref l ∧ xs = [y] ∧ H l = some (.lst vs) ∧ Dp K H y d ∧ DpAll K H vs ds ∧ SeqAt.shaped d = true ∧ (∀ q ∈ ds, SeqAt.shaped q = true) ∧
  (∃ q, ds[j]? = some q ∧ PyData.eqv q d = true) ∧ (∀ m q, m < j → ds[m]? = some q → PyData.eqv q d = false) ∧ Q .non (upd H l (.lst (vs.eraseIdx j)))
end PV

namespace PV
open PySem PySem.Spec L2
section
variable {G : Gx} {W : WX} {pr : Addr → Prop} {io : List (Nat × V)} {σ : L2.St} {s s1 : Sx} {ios : List Nat} {Q : VK} {X : Cx} {a b c e o : Expr} {es : List Expr} {pos p pos2 apos : Pos} {x m : Str} {ga gb gc gi g0 : Ev} {gs gk : Ss → OuL}
def opRemP : List D → List D → Option (D × List D) := fun xs ds => match ds with
  | [k] => match toPy k, toPys xs with
    | some d, some qs => if SeqAt.shaped d = true ∧ qs.all SeqAt.shaped = true then (qs.findIdx? fun q => PyData.eqv q d).map fun j => (.non, xs.eraseIdx j) else none
    | _, _ => none
  | _ => none
/-! a, b = xs: a list -/
def gTupL (n : Nat) (t : TGs) : TG := fun v σ H Q => ∃ a xs, v = V.ref a ∧ H a = some (.lst xs) ∧ xs.length = n ∧ t xs σ H Q
def tgTupL (gs : Tgs) : Tg := fun t ρ => match t with
  | .v .O (.lst xs) => gs (xs.map (Tm.v .F)) ρ
  | _ => none
end
end PV

namespace PV
open PySem PySem.Spec L2
/-! raise C(e); try: .. except C as n: x = n.f -/
def sRaise (c : Nat) (g : Ev) : Sm := fun ρ => (g ρ).toF fun t ρ1 => match t with
  | .v .F d => .ex ⟨c, [d]⟩ ρ1
  | _ => .no
section
variable {G : Gx} {W : WX} {pr : Addr → Prop} {io : List (Nat × V)} {σ : L2.St} {s s1 : Sx} {ios : List Nat} {X : Cx} {D : Ends}
/-- the end of raise -/
theorem raise_end {c : Nat} {f : Str} {ga : Ev} {C : Addr} (hC : G.ca c = C) (hn : G.cn c = [f]) {H : Hp} (q : tSv G W ios (sRaise c ga) D σ H) :
    tEv G W ios ga σ H fun v H1 => ∃ v', [v] = [v'] ∧ ∀ d, H1 d = none → W (.ref C) (some d) σ (upd H1 d (.xd [(f, v')])) := by
  obtain ⟨pr, io, s, rfl, hi, r, q⟩ := of_tSv q
  refine tEv_of hi r (FlP.toF q fun t v s1 ot r1 x1 p1 f1 q1 => ?_)
  cases t with
  | v k d =>
    cases k with
    | F =>
      dsimp only at q1
      refine ⟨v, rfl, fun dx hdx => ?_⟩
      have hx : TmR G s1.H s1.fz pr (.v .F d) v ot := p1.rel
      simp only [TmR] at hx
      have xn : Ext s1 (s1.new dx (.xd [(f, v)])) := Ext.new hdx _
      have r2 : SR G pr io σ { s1.new dx (.xd [(f, v)]) with fz := fun a => s1.fz a ∨ a = dx } := by
        have r := r1.new hdx (.xd [(f, v)])
        have fr := r1.fresh hdx
        refine ⟨Sl.keep (fun _ h => .inl h) (fun _ h => .inr h) (Tk.refl _) (fun _ _ _ h => h) r.sl, r.nd, fun a ha => ⟨fun z => z.elim (r.sep a ha).1 fun z => fr.2.2 (by rw [← z]; exact ha), (r.sep a ha).2⟩, fun a h => ?_, r.iov⟩
        rcases h with (h | h) | h
        · exact r.dom a (.inl h)
        · rw [h]; show upd _ _ _ _ ≠ none; rw [upd_same]; simp
        · exact r.dom a (.inr h)
      have x2 : Ext s1 { s1.new dx (.xd [(f, v)]) with fz := fun a => s1.fz a ∨ a = dx } := ⟨xn.keep, xn.dom, xn.tk, fun _ h => .inl h, fun a h => h.elim .inl fun z => .inr (.inr (by rw [z]; exact hdx)), xn.oso⟩
      refine q1 (.ref C) (some dx) σ { s1.new dx (.xd [(f, v)]) with fz := fun a => s1.fz a ∨ a = dx } rfl r2 (x1.trans x2) ⟨by rw [hC], dx, [v], rfl, .inr rfl, ?_, by rw [hn]; rfl, ?_⟩
      · show upd _ _ _ _ = _
        rw [upd_same, hn]; rfl
      · simp only [Reps]
        exact ⟨v, [], rfl, Rep.keep x2.fz (fun a o p e => x2.keep a o e fun z => (r1.sep a z).1 p) x2.tk _ _ hx.2, rfl⟩
    | B => exact q1.elim
    | O => exact q1.elim
  | tp ts => exact q1.elim
  | loc i => exact q1.elim
  | ls ts => exact q1.elim
  | ob c ts => exact q1.elim
end
end PV

namespace L2N
open L2 PySem PySem.Spec PyProof.Rows
/-- what the clauses (each with its name's slot) wish of an exception of the body -/
def wManyAs (K : PySem.W.Frag) (Wout : WX) (D : Ends) : List (Value × Nat × (Addr → Value → Option Addr → TS)) → WX
  | [] => Wout
  | (c, i, ts) :: r => fun cls d σ H => ∃ b, PySem.W.exmOne K cls c = some b ∧
      (b = true → ∀ a, H a = none → ts a cls d { nx := fun σ' H' => D.nx (σ'.set i none) H', rt := D.rt, bk := fun σ' H' => D.bk (σ'.set i none) H', ct := fun σ' H' => D.ct (σ'.set i none) H' } (σ.set i (some (.ref a))) H) ∧ (b = false → wManyAs K Wout D r cls d σ H)
inductive HdsAs (X : Cx) : List ExceptHandler → List (Value × Nat × (Addr → Value → Option Addr → TS)) → Prop
  | nil : HdsAs X [] []
  | cons {x n : Str} {c : Value} {i : Nat} {ts : Addr → Value → Option Addr → TS} {b₀ : Stmt} {suite : List Stmt} {np pos' : Pos} {hds : List ExceptHandler} {l : List (Value × Nat × (Addr → Value → Option Addr → TS))} (hc : Names X x c) (hi : X.N[i]? = some n) (hln : X.env.kindOf n = some .local)
      (hsu : ∀ (a : Addr) (oe : Obj) (cls : Value) (d : Option Addr) (pn : List (Addr × Obj)), Zn cls d oe → (∃ vs, oe.data = .fields vs) → PSs (X.suite a ((a, oe) :: pn)) (b₀ :: suite) (ts a cls d)) (r : HdsAs X hds l) :
      HdsAs X (.ExceptHandler (some (.Name x np)) (some n) (b₀ :: suite) pos' :: hds) ((c, i, ts) :: l)
section
variable {X : Cx} {body : List Stmt} {h₀ : ExceptHandler} {hds : List ExceptHandler} {l : List (Value × Nat × (Addr → Value → Option Addr → TS))} {pos : Pos} {tb : WX → TS} {Wout : WX}
end
/-- what «except c» says of an error of the class cls -/
theorem exm_of {K : PySem.W.Frag} {S C : Addr} {b : Bool} (h1 : PySem.W.subIn K (.ref C) (.type "BaseException") = some true) (h2 : PySem.W.isClsIn K C = true) (h3 : PySem.W.typeIn K (.ref C) = some (.type "type")) (h4 : PySem.W.subIn K (.ref S) (.ref C) = some b) :
    PySem.W.exmOne K (.ref S) (.ref C) = some b := by
  have e1 : (PySem.W.subIn K (.ref C) (.type "BaseException") == some true) = true := by rw [h1] <;> rfl
  have e2 : ((PySem.W.clsIn K C).isSome && PySem.W.typeIn K (.ref C) == some (.type "type")) = true := by
    have h2' : (PySem.W.clsIn K C).isSome = true := h2
    rw [h2', h3] <;> rfl
  show (if (PySem.W.subIn K (.ref C) (.type "BaseException") == some true) = true then (if ((PySem.W.clsIn K C).isSome && PySem.W.typeIn K (.ref C) == some (.type "type")) = true then PySem.W.subIn K (.ref S) (.ref C) else none) else none) = some b
  rw [if_pos e1, if_pos e2]
  exact h4
end L2N

namespace PV
open PySem PySem.Spec L2
/-! try with clauses «except C as n: suite», each suite one assignment; raise C() -/
structure Hd where
  c : Nat
  j : Nat
  k : List D → Ss → Fl
def sRaise0 (c : Nat) : Sm := fun ρ => .ex ⟨c, []⟩ ρ
def sTryH (kn : List Nat) (hs : List Hd) (g : Sm) : Sm := fun ρ => match g ρ with
  | .ex e ρ1 => if e.c ∈ kn then match hs.find? (fun h => e.c == h.c) with
      | some h => if h.j < ρ1.length then h.k e.ds (ρ1.set h.j none) else .no
      | none => .ex e ρ1
    else .no
  | o => o
/-- x = d -/
def hkC (x : Nat) (d : D) : List D → Ss → Fl := fun _ ρ => if x < ρ.length then .nx (ρ.set x (some (.v .F d))) else .no
/-- x = n.f -/
def hkF (x : Nat) : List D → Ss → Fl := fun ds ρ => match ds with
  | [d] => if x < ρ.length then .nx (ρ.set x (some (.v .F d))) else .no
  | _ => .no
/-- x, y = d, n.f -/
def hkP (x y : Nat) (d0 : D) : List D → Ss → Fl := fun ds ρ => match ds with
  | [d] => if x < ρ.length ∧ y < ρ.length then .nx ((ρ.set x (some (.v .F d0))).set y (some (.v .F d))) else .no
  | _ => .no
section
variable {G : Gx} {W : WX} {ios : List Nat} {X : Cx}
/-- the suite ts does what k says -/
def HdR (G : Gx) (W : WX) (ios : List Nat) (h : Hd) (ts : Addr → Value → Option Addr → TS) : Prop :=
  ∀ (pr : Addr → Prop) (io : List (Nat × V)) (s : Sx) (σ : L2.St) (a : Addr) (cls : Value) (d : Option Addr) (ds : List D) (D : Ends), io.map Prod.fst = ios → h.j < σ.length → SR G pr io (σ.set h.j none) s → s.ρ[h.j]? = some none → ErR G s.H s.fz ⟨h.c, ds⟩ cls d → FlP G W pr io s (h.k ds s.ρ) D →
    ts a cls d { nx := fun σ' H' => D.nx (σ'.set h.j none) H', rt := D.rt, bk := fun σ' H' => D.bk (σ'.set h.j none) H', ct := fun σ' H' => D.ct (σ'.set h.j none) H' } (σ.set h.j (some (.ref a))) s.H
theorem SR.empty {pr : Addr → Prop} {io : List (Nat × V)} {σ : L2.St} {s s1 : Sx} (j : Nat) (hj : j ∉ io.map Prod.fst) (r1 : SR G pr io σ s1) (x1 : Ext s s1) : ∃ os', SR G pr io (σ.set j none) { s1 with ρ := s1.ρ.set j none, os := os' } ∧ Ext s { s1 with ρ := s1.ρ.set j none, os := os' } := by
  obtain ⟨os', k1, k2, k3⟩ := Sl.forget j r1.sl
  exact ⟨os', ⟨k1, k3 r1.nd, fun a ha => r1.sep a (k2 a ha), r1.dom, fun p hp => by
    have hne : p.1 ≠ j := fun z => hj (by rw [← z]; exact List.mem_map_of_mem hp)
    rw [List.getElem?_set_ne (Ne.symm hne)]
    exact r1.iov p hp⟩, x1.less k2⟩
theorem set_none_ref {σ : L2.St} {j x : Nat} {a : Addr} {v : V} (h : x ≠ j) : (((σ.set j (some (.ref a))).set x (some v))).set j none = (σ.set j none).set x (some v) := by
  rw [List.set_comm _ _ h, List.set_set]
end
/-- clauses and what they do -/
inductive HdsR (G : Gx) (W : WX) (ios : List Nat) (ok : Nat → Nat → Bool → Prop) : List Hd → List (Value × Nat × (Addr → Value → Option Addr → TS)) → Prop
  | nil : HdsR G W ios ok [] []
  | cons {h : Hd} {ts : Addr → Value → Option Addr → TS} {hs : List Hd} {l : List (Value × Nat × (Addr → Value → Option Addr → TS))} (hj : h.j ∉ ios) (r : HdR G W ios h ts) (rs : HdsR G W ios ok hs l) : HdsR G W ios ok (h :: hs) ((.ref (G.ca h.c), h.j, ts) :: l)
section
variable {G : Gx} {Wout : WX} {ios : List Nat} {X : Cx} {D : Ends} {σ : L2.St}
end
/-- the clauses hds do what hs say -/
def HdsV (X : Cx) (G : Gx) (W : WX) (ios : List Nat) (hs : List Hd) (hds : List ExceptHandler) : Prop := ∃ l, HdsR G W ios (fun _ _ _ => True) hs l ∧ L2N.HdsAs X hds l
section
variable {G : Gx} {W : WX} {ios : List Nat} {X : Cx}
theorem Rm.tr {k : Nat} {W' : WX} {pn : List (Addr × Obj)} {xe : Value → Shared → Prop} (m : Rm X W k) (tk : L2N.Takes (X.tr pn xe) W') (po : PassesOwn (model X.prog X.w) X.A X.env xe) : Rm (X.tr pn xe) W' k := ⟨m.rm, tk, po, m.stk, m.frm⟩
end
end PV

namespace HotX
open PySem PySem.Spec PyProof.Rows
section
variable {prog : Program} {w : World} {A : Around} {E : Value → Shared → Prop} {s : Shared}
end
end HotX
namespace L2N
open L2 PySem PySem.Spec PyProof.Rows
end L2N

namespace L2
open PySem PySem.Spec PyProof.Rows
/-- min(a, b, c) -/
def min3 (i j k : Int) : Int := if j < i then (if k < j then k else j) else (if k < i then k else i)
section
variable {X : Cx}
/-- xs[::e] with e 1 or -1 -/
def rStep (K : PySem.W.Frag) : V → V → Hp → VK → Prop := fun x y H Q => ∃ a xs i, x = .ref a ∧ y = .int i ∧ SqL K H a xs ∧
  ((i = 1 ∧ ∀ p, H p = none → Q (.ref p) (upd H p (.lst xs))) ∨ (i = -1 ∧ ∀ p, H p = none → Q (.ref p) (upd H p (.lst xs.reverse))))
end
end L2
namespace PV
open PySem PySem.Spec L2
def eMin3 (gs : Ss → OuL) : Ev := fun ρ => match gs ρ with
  | .ok ts ρ1 => match ts with
    | [.v .F (.int i), .v .F (.int j), .v .F (.int k)] => .ok (.v .F (.int (min3 i j k))) ρ1
    | _ => .no
  | .ex e ρ1 => .ex e ρ1
  | .no => .no
def opStep (t u : Tm) : Option Tm := match t, u with
  | .v k (.lst xs), .v _ (.int i) => if i = 1 then (elk k xs).map fun ys => .v .O (.lst ys) else if i = -1 then (elk k xs).map fun ys => .v .O (.lst ys.reverse) else none
  | _, _ => none
def eStep : Ev → Ev → Ev := eOp2 opStep
/-- a dict of texts by texts -/
def eDctT (ps : List (Str × Str)) : Ev := fun ρ => .ok (.v .O (.dK (ps.map fun p => Sum.inr p.1) (ps.map fun p => .str p.2))) ρ
def lookD : List Key → List D → Key → Option D
  | k :: ks, x :: xs, w => if k = w then some x else lookD ks xs w
  | _, _, _ => none
def opIdxK (t u : Tm) : Option Tm := match t, u with
  | .v _ (.dK ks xs), .v _ (.str w) => match lookD ks xs (.inr w) with
    | some (.str z) => some (.v .F (.str z))
    | _ => none
  | _, _ => none
def eIdxK : Ev → Ev → Ev := eOp2 opIdxK
section
variable {G : Gx} {W : WX} {pr : Addr → Prop} {io : List (Nat × V)} {σ : L2.St} {s s1 : Sx} {ios : List Nat} {Q : VK} {X : Cx} {a b c e : Expr} {pos p p2 p3 : Pos} {ga gb gc : Ev} {k : Nat}
theorem OuP.dK {ks : List Key} {ds : List D} {vs : List V} (h : OuP G W pr io σ s (.ok (.v .O (.dK ks ds)) s.ρ) Q) (r : SR G pr io σ s) (hl : ks.length = vs.length) (hd : Reps G s.H s.fz ds vs) {p : Addr} (hp : s.H p = none) : Q (.ref p) (upd s.H p (.dK (ks.zip vs))) := by
  have f := r.fresh hp
  refine h _ (s.new p (.dK (ks.zip vs))) [p] rfl (r.new hp _) (Ext.new hp _) ⟨?_, by simp, fun a ha => ?_⟩ fun a ha => ?_
  · show TmR _ _ _ _ _ _ _
    simp only [TmR, RepO]
    exact ⟨p, vs, rfl, rfl, upd_same, hl, Reps.keep (fun _ z => z) (fun a o _ e => by show upd _ _ _ _ = _; rw [upd_ne (ne_of_none e hp)]; exact e) (tk_new hp _) _ _ hd⟩
  · rw [List.mem_singleton] at ha; subst ha; exact f
  · rw [List.mem_singleton] at ha; subst ha; exact .inr hp
theorem lookD_valV {H : Hp} {P : Addr → Prop} {w : Key} {d : D} : ∀ {ks : List Key} {xs : List D} {vs : List V}, Reps G H P xs vs → lookD ks xs w = some d → ∃ v, valV (ks.zip vs) w = some v ∧ Rep G H P d v
  | [], _, _, _, e => by simp [lookD] at e
  | _ :: _, [], _, _, e => by simp [lookD] at e
  | k :: ks, x :: xs, vs, h, e => by
    simp only [Reps] at h
    obtain ⟨v, r, rfl, h1, h⟩ := h
    simp only [lookD] at e
    split at e
    · rename_i hk
      cases e
      exact ⟨v, by rw [List.zip_cons_cons]; exact valV_pos hk, h1⟩
    · rename_i hk
      obtain ⟨v', h2, h3⟩ := lookD_valV h e
      exact ⟨v', by rw [List.zip_cons_cons, valV_neg hk]; exact h2, h3⟩
end
end PV

namespace SrtR
open PySem PyProof.Rows Srt SrtO
section
variable {prog : Program} {w : World} {A : Around} {E : Value → Shared → Prop} {s : Shared}
end
end SrtR
namespace L2
open PySem PySem.Spec PyProof.Rows
def rSortedKwS (K : PySem.W.Frag) (b : Bool) (zs0 : List V) : List V → List V → Hp → VK → Prop := fun vs zs H Q => ∃ (a : Addr) (ns : List Int), vs = [V.ref a] ∧ zs = zs0 ∧ (SqL K H a (ns.map V.int) ∨ SqT K H a (ns.map V.int)) ∧
  ∀ (ns' : List Int) (p : Addr), ns'.Perm ns → OrdB b ns' → H p = none → Q (.ref p) (upd H p (.lst (ns'.map V.int)))
end L2
namespace PV
open PySem PySem.Spec L2
/-- the falling list, of a list or a tuple -/
def opSortR2 (t : Tm) : Option Tm := match toD t with
  | .lst xs => (intsD xs).map fun ns => .v .O (.lst ((isort ns).reverse.map .int))
  | .tup xs => (intsD xs).map fun ns => .v .O (.lst ((isort ns).reverse.map .int))
  | _ => none
def eSortR2 : Ev → Ev := eOp1 opSortR2
section
variable {G : Gx} {W : WX} {ios : List Nat} {X : Cx} {a : Expr} {pos p : Pos} {ga : Ev}
end
end PV

/-! repr of data of mixed kinds, dicts among them -/
namespace PV
open PySem PySem.Spec L2
mutual
/-- v reads as d; no dict in it is the one of all modules -/
inductive RdE (h₀ : Heap) : Value → PyData → Prop
  | non : RdE h₀ .none .none
  | bl (b : Bool) : RdE h₀ (.bool b) (.bool b)
  | int (i : Int) (t : Tok) : RdE h₀ (.int i t) (.int i)
  | str (x : Str) (t : Tok) : RdE h₀ (.str x t) (.str x)
  | lst {a : Addr} {ob : Obj} {its : Array Value} {n : Nat} {ds : List PyData} : h₀.get? a = some ob → ob.cls = .type "list" → ob.data = .seq its n → RdEs h₀ its.toList ds → RdE h₀ (.ref a) (.list ds)
  | tup {a : Addr} {ob : Obj} {its : Array Value} {n : Nat} {ds : List PyData} : h₀.get? a = some ob → ob.cls = .type "tuple" → ob.data = .seq its n → RdEs h₀ its.toList ds → RdE h₀ (.ref a) (.tuple ds)
  | dct {a : Addr} {ob : Obj} {en : Array DictEntry} {n : Nat} {kvs : List (PyData × PyData)} : h₀.get? a = some ob → ob.cls = .type "dict" → ob.data = .dict en n → (a == sysModules) = false →
      RdEs h₀ (en.toList.map (·.key)) (kvs.map (·.1)) → RdEs h₀ (en.toList.map (·.val)) (kvs.map (·.2)) → RdE h₀ (.ref a) (.dict kvs)
inductive RdEs (h₀ : Heap) : List Value → List PyData → Prop
  | nil : RdEs h₀ [] []
  | cons {v : Value} {vs : List Value} {d : PyData} {ds : List PyData} : RdE h₀ v d → RdEs h₀ vs ds → RdEs h₀ (v :: vs) (d :: ds)
end
section
variable {prog : Program} {w : World} {h₀ : Heap}
end
def keyPy : Key → PyData
  | .inl i => .int i
  | .inr x => .str x
mutual
/-- as data, dicts too -/
def toPyE : D → Option PyData
  | .non => some .none
  | .bl b => some (.bool b)
  | .int i => some (.int i)
  | .str x => some (.str x)
  | .tup xs => (toPyEs xs).map .tuple
  | .lst xs => (toPyEs xs).map .list
  | .dT ks xs => match toPyEs ks, toPyEs xs with
    | some ps, some qs => some (.dict (ps.zip qs))
    | _, _ => none
  | .dK ks xs => if ks.length = xs.length then (toPyEs xs).map fun qs => .dict ((ks.map keyPy).zip qs) else none
  | _ => none
def toPyEs : List D → Option (List PyData)
  | [] => some []
  | d :: ds => match toPyE d, toPyEs ds with
    | some p, some ps => some (p :: ps)
    | _, _ => none
end
section
variable {G : Gx} {X : Cx} {pins : List (Addr × Obj)} {σ : L2.St} {s : Shared} {H : Hp} {P : Addr → Prop}
end
/-- repr of any data -/
def reprD3 (d : D) : Option D := match d with
  | .non => some (.str "None")
  | .bl b => some (.str (boS b))
  | .str x => if (reprText x).length ≤ sizeLine then some (.str (reprText x)) else none
  | .int i => if i.natAbs.log2 < 1920 then some (.str (toString i)) else none
  | d => match toPyE d with
    | some p => if PyData.showable p = true ∧ PyData.depth p < 60 ∧ (PyData.shown p).length ≤ sizeLine then some (.str (PyData.shown p)) else none
    | none => none
section
variable {G : Gx} {X : Cx} {ios : List Nat} {W : WX} {a : Expr} {ga : Ev} {p pos : Pos}
def rReprE (X : Cx) : List V → Hp → VK → Prop := fun vs H Q => rRepr2 X vs H Q ∨ ∃ (G : Gx) (P : Addr → Prop) (a : Addr) (d : D) (q : PyData), vs = [V.ref a] ∧ Rep G H P d (.ref a) ∧ toPyE d = some q ∧ PyData.showable q = true ∧ PyData.depth q < 60 ∧ (PyData.shown q).length ≤ sizeLine ∧ Q (.str q.shown) H
/-- {} among data of mixed kinds -/
def eDK0 : Ev := fun ρ => .ok (.v .O (.dK [] [])) ρ
/-! is, is not of bools -/
def dB2 (f : Bool → Bool → Bool) : D → D → Option D
  | .bl a, .bl b => some (.bl (f a b))
  | _, _ => none
def eIsB : Ev → Ev → Ev := eOp2 (rd2 (dB2 fun a b => decide (a = b)))
def eNotB : Ev → Ev → Ev := eOp2 (rd2 (dB2 fun a b => !decide (a = b)))
/-- int(b) -/
def intB : D → Option D
  | .int i => some (.int i)
  | .bl b => some (.int (if b then 1 else 0))
  | _ => none
def eIntB : Ev → Ev := eOp1 (rd1 intB)
def eRepr3 : Ev → Ev := eOp1 (rd1 reprD3)
end
end PV

namespace PV
open PySem PySem.Spec L2
section
variable {G : Gx} {X : Cx} {ios : List Nat} {W : WX} {a : Expr} {ga : Ev} {p pos : Pos}
/-- lists of different lengths -/
def rEqLen : R2 := fun x y H Q => ∃ a b xs ys, x = .ref a ∧ y = .ref b ∧ H a = some (.lst xs) ∧ H b = some (.lst ys) ∧ xs.length ≠ ys.length ∧ Q (.bl false) H
def eqL (x y : D) : Option D := match x, y with
  | .lst xs, .lst ys => if xs.length ≠ ys.length then some (.bl false) else eqD false x y
  | _, _ => eqD false x y
def eEqL : Ev → Ev → Ev := eOp2 (rd2 eqL)
end
end PV

namespace PV
open PySem PySem.Spec L2
/-! ### sorted of whatever gives ints -/
section
open PyProof.Rows PySem.W PySem.Calls
variable {prog : Program} {w : World} {A : Around} {E : Value → Shared → Prop} {s : Shared}
theorem sortedI {v : Value} {Z : Shared → List Int → Prop} {Q : Value → Shared → Prop}
    (hcol : ∀ C : List Value → Shared → Prop, (∀ s1 vs ns, IntsAre vs ns → vs.length ≤ sizeLine → Z s1 ns → C vs s1) → wpAny (model prog w) A.in1 (collect v) C E s)
    (h : ∀ (s1 s' : Shared) (p : Addr) (out : Array Value) (c : Nat) (ns ns' : List Int), Z s1 ns → (∀ b o, s1.heap.get? b = some o → s'.heap.get? b = some o) → s'.gens = s1.gens → s'.os = s1.os → s1.heap.objs.size ≤ p → s'.heap.get? p = some (seqObj "list" out c) → IntsAre out.toList ns' → ns'.Perm ns → ns'.Pairwise (· ≤ ·) → ns'.length ≤ sizeLine → Q (.ref p) s') :
    wpAny (model prog w) A (call (.builtin "sorted") [v]) Q E s := by
  refine call_function_entry kind_sorted plain_sorted entry_sorted (args_sorted1 _) ?_
  unfold Builtin.«sorted»
  refine wpAny_bind (m := checkCount "sorted" 1 1 _) (wpAny_pure ?_)
  refine wpAny_bind (hcol _ fun s1 vs ns hI hz hP => ?_)
  refine wpAny_bind (wpAny_newList ?_ hz)
  have hoL : (s1.heap.push (seqObj "list" vs.toArray 0)).get? s1.heap.objs.size = some (seqObj "list" vs.toArray 0) := Heap.get?_push_size _ rfl
  refine wpAny_bind (wpAny_holding (wpAny_call_entry slot_list_sort ⟨_, hoL, rfl⟩ entry_list_sort (list_sort_treeAny hoL hI hz fun out ns' a1 a2 a3 => ⟨_, rfl, ?_⟩) (args_list_sort _)))
  obtain ⟨c, hc⟩ := sortedHeap_at (vs := vs) (out := out) hoL
  refine wpAny_pure ⟨_, rfl, h s1 _ s1.heap.objs.size out c ns ns' hP (fun b u e => ?_) rfl rfl (Nat.le_refl _) hc a1 a2 a3 ?_⟩
  · have hlt := Heap.lt_size e
    show (sortedHeap (s1.heap.push (seqObj "list" vs.toArray 0)) s1.heap.objs.size vs out).get? b = some u
    rw [sortedHeap_old (Nat.ne_of_lt hlt) (by rw [size_push']; exact Nat.lt_succ_of_lt hlt)]
    exact Heap.get?_push_of_some _ e
  · have l1 : ∀ {vs : List Value} {ns : List Int}, IntsAre vs ns → vs.length = ns.length := fun h => by
      induction h with
      | nil => rfl
      | cons n t _ ih => simp [ih]
    rw [a2.length_eq, ← l1 hI]
    exact hz
end
/-- an Inv behind sorted -/
theorem inv_sortd {X : Cx} {pins : List (Addr × Obj)} {σ : L2.St} {H : Hp} {s s' : Shared} {p : Addr} {out : Array Value} {c : Nat} {ns : List Int} (I : Inv X pins σ H s) (k : ∀ b o, s.heap.get? b = some o → s'.heap.get? b = some o) (g : s'.gens = s.gens) (o : s'.os = s.os) (hp : s.heap.objs.size ≤ p)
    (hg : s'.heap.get? p = some (PyProof.Rows.seqObj "list" out c)) (hi : PyProof.Rows.IntsAre out.toList ns) (hz : ns.length ≤ sizeLine) : Inv X pins σ (upd H p (.lst (ns.map V.int))) s' := by
  have hlen : (ns.map V.int).length ≤ sizeLine := by rw [List.length_map]; exact hz
  have hn : H p = none := I.hok.fresh hp
  have J : Inv X pins σ (upd H p (.lst (ns.map V.int))) { s with heap := s'.heap, gens := s'.gens, drawn := s'.drawn, toks := s'.toks } :=
    I.call (ch := []) (Un.laid k hp hn) (I.hok.laid k hp ⟨hlen, out.toList, c, vals_of_ints hi, hg⟩) (by rw [g]; exact I.bare) (fun _ z => nomatch z)
  have e : s' = { s with heap := s'.heap, gens := s'.gens, drawn := s'.drawn, toks := s'.toks } := by
    cases s'
    cases s
    cases o
    rfl
  rw [e]
  exact J
/-! ### sorted(set(xs)), any number of members -/
def rSortedSet3 (w : World) (ns : List Int) : List V → Hp → VK → Prop := fun vs H Q => ∃ (a : Addr) (n : Nat), vs = [V.ref a] ∧ H a = some (SetO w a (fun k => decide (k ∈ ns)) n) ∧
  ∀ (p : Addr), H p = none → Q (.ref p) (upd H p (.lst ((usort ns).map V.int)))
theorem cr_sortedSet3 {X : Cx} (hc : X.calm = true) (ns : List Int) : CallR X (.builtin "sorted") (rSortedSet3 X.w ns) := by
  intro pins s σ H vs us Q I r h
  obtain ⟨a, n, rfl, ha, q⟩ := h
  rw [Vals.ref1 r]
  obtain ⟨o, es, ep, t, ho, hex, hd, g, nd, hm, hb, hf, hn, hr, hl⟩ := setO_get I ha
  refine sortedI (Z := fun s1 ms => ((∀ b o, s.heap.get? b = some o → s1.heap.get? b = some o) ∧ s.heap.objs.size ≤ s1.heap.objs.size ∧ s1.gens = s.gens ∧ s1.os = s.os) ∧ ms.Nodup ∧ ∀ k, k ∈ ms ↔ k ∈ ns) (fun C hC => ?_) fun s1 s' p out c ms ns' ⟨⟨k1, z1, g1, o1⟩, hP⟩ k g o hp hg hi pm up hz => ?_
  · refine collect_set (A := X.A.in1) (I.ok.hd hc) ⟨o, ho, hex.1, hd⟩ hf hb hr hl fun s1 vs k1 hz g1 o1 pm => ?_
    have hI : PyProof.Rows.IntsAre vs (vs.map Builtin.Re.reRawOf) := ints_of vs fun v hv => by
      obtain ⟨e, he, q⟩ := List.mem_map.mp (pm.mem_iff.mp hv)
      obtain ⟨k, tk, h1, _⟩ := g e he
      exact ⟨k, tk, by rw [← q]; exact h1⟩
    have pk : (vs.map Builtin.Re.reRawOf).Perm (es.toList.map keyOf) := by
      have q := pm.map Builtin.Re.reRawOf
      rw [List.map_map] at q
      exact q
    refine hC s1 vs _ hI ?_ ⟨⟨k1, hz, g1, o1⟩, pk.nodup_iff.mpr nd, fun k => ?_⟩
    · rw [pm.length_eq, List.length_map, Array.length_toList]
      exact fits_of_scanBound hb
    · rw [pk.mem_iff, ← hm k, decide_eq_true_iff]
  · have lt := lt_of_le_nodup ns' up (pm.nodup_iff.mpr hP.1)
    have e : ns' = usort ns := usort_of lt fun k => by rw [pm.mem_iff]; exact hP.2 k
    subst e
    have hp' : s.heap.objs.size ≤ p := Nat.le_trans z1 hp
    exact ⟨.ref p, _, inv_sortd I (fun b o e => k b o (k1 b o e)) (g.trans g1) (o.trans o1) hp' hg hi hz, rfl, q p (I.hok.fresh hp')⟩
def ssD3 (xs : List D) : Option Tm := match intsD xs with
  | some ns => if ns.length + 1 < scanBound then some (.v .O (.lst ((usort ns).map .int))) else none
  | none => none
def opSS3 (t : Tm) : Option Tm := match toD t with
  | .lst xs => ssD3 xs
  | .tup xs => ssD3 xs
  | .kt => some (.v .O (.lst []))
  | _ => none
def eSortSet3 : Ev → Ev := eOp1 opSS3
section
variable {G : Gx} {W : WX} {pr : Addr → Prop} {io : List (Nat × V)} {σ : L2.St} {s s1 : Sx} {ios : List Nat} {Q : VK} {X : Cx} {a b c e : Expr} {pos p p2 pos2 : Pos} {x : Str} {ga gb gc : Ev} {k : Nat}
theorem v_sortSet3 (hK : G.K = X.K) (hc : X.calm = true) (hm : X.mg "sorted" = none) (hm2 : X.mg "set" = none) (ha : PEv X G W ios a ga) (hg : Gl X "sorted" := by rfl) (hg2 : Gl X "set" := by rfl)
    (hs : starEach [.Call (.Name "set" p2) [a] [] pos2] X.env = (false, eval (.Call (.Name "set" p2) [a] [] pos2) X.env) :: starEach [] X.env := by rfl) (hs2 : starEach [a] X.env = (false, eval a X.env) :: starEach [] X.env := by rfl) :
    PEv X G W ios (.Call (.Name "sorted" p) [.Call (.Name "set" p2) [a] [] pos2] [] pos) (eSortSet3 ga) := by
  have cr : CallR X (.builtin "sorted") (fun vs H Q => ∃ ns, rSortedSet3 X.w ns vs H Q) := fun pins s σ H vs us Q I r ⟨ns, h⟩ => cr_sortedSet3 hc ns pins s σ H vs us Q I r h
  refine pe_imp (pe_callB cr hg hm (by decide +kernel) (pa_cons (pe_callTy (cr_setI hc) hg2 hm2 (by decide +kernel) (pa_cons ha pa_nil hs2) (by decide) (by decide) hs2 (by rfl)) pa_nil hs) (by decide) (by decide) hs (by rfl)) fun σ H Q q => ?_
  refine op1_end (r := fun x H Q => rSetI X.w X.K [x] H fun y H1 => ∃ ns, rSortedSet3 X.w ns [y] H1 Q) ?_ rfl q
  intro pr io σ s x tx t ox Q hr hx e q
  have hd := TmR.toD _ _ _ hx
  have fin : ∀ (a : Addr) (ns : List Int), x = .ref a → (SqL X.K s.H a (ns.map V.int) ∨ SqT X.K s.H a (ns.map V.int)) → ns.length + 1 < scanBound → t = .v .O (.lst ((usort ns).map .int)) → rSetI X.w X.K [x] s.H fun y H1 => ∃ ns, rSortedSet3 X.w ns [y] H1 Q := by
    rintro a ns rfl hsq hl rfl
    refine ⟨a, ns, rfl, hsq, hl, fun p c hcl hp => ⟨ns, p, c, rfl, upd_same, fun p2 hp2 => ?_⟩⟩
    exact (q.later (Ext.new hp _)).lst (hr.new hp _) (reps_of_ints _) hp2
  unfold opSS3 at e
  split at e
  · rename_i xs hxs
    rw [hxs] at hd
    simp only [Rep] at hd
    obtain ⟨a, vs, rfl, _, h1, h2⟩ := hd
    unfold ssD3 at e
    split at e
    · rename_i ns hns
      split at e
      · rename_i hl
        cases e
        rw [intsD_eq hns] at h2
        rw [reps_ints h2] at h1
        exact fin a ns rfl (.inl (.of h1)) hl rfl
      · cases e
    · cases e
  · rename_i xs hxs
    rw [hxs] at hd
    simp only [Rep] at hd
    obtain ⟨a, vs, rfl, h1, h2⟩ := hd
    unfold ssD3 at e
    split at e
    · rename_i ns hns
      split at e
      · rename_i hl
        cases e
        rw [intsD_eq hns] at h2
        rw [reps_ints h2] at h1
        exact fin a ns rfl (.inr (.of h1)) hl rfl
      · cases e
    · cases e
  · rename_i hxs
    rw [hxs] at hd
    simp only [Rep] at hd
    obtain ⟨a, rfl, h1⟩ := hd
    cases e
    exact fin a [] rfl (.inr (kt_mono (hK ▸ h1))) (by decide) (by simp [usort, isort])
  · cases e
end
end PV

namespace PV
open PySem PySem.Spec L2
/-! ### dicts whose keys are ints (or texts) -/
def keyK : D → Option Key
  | .int i => some (.inl i)
  | .str x => some (.inr x)
  | _ => none
def keyD : Key → D
  | .inl i => .int i
  | .inr x => .str x
def hasKK (ks : List Key) (k : Key) : Bool := ks.any fun q => decide (q = k)
def putKK (ks : List Key) (k : Key) : List Key := if hasKK ks k = true then ks else ks ++ [k]
def putKX {α : Type} : List Key → List α → Key → α → List α
  | q :: ks, x :: xs, k, d => (if q = k then d else x) :: putKX ks xs k d
  | _, _, _, _ => []
def putDX {α : Type} (ks : List Key) (xs : List α) (k : Key) (d : α) : List α := if hasKK ks k = true then putKX ks xs k d else xs ++ [d]
section
variable {G : Gx} {H : Hp} {P : Addr → Prop}
theorem keyK_v {d : D} {v : V} {k : Key} (h : Rep G H P d v) (e : keyK d = some k) : v = kV k := by
  cases d <;> simp only [keyK, reduceCtorEq, Option.some.injEq] at e
  · subst e; simp only [Rep] at h; exact h
  · subst e; simp only [Rep] at h; exact h
end
def rSetK : V → V → V → Hp → (Hp → Prop) → Prop := fun o i v H Q => ∃ a H', o = .ref a ∧ DPut H a i v H' ∧ Q H'
section
variable {G : Gx} {W : WX} {pr : Addr → Prop} {io : List (Nat × V)} {σ : L2.St} {s s1 : Sx} {ios : List Nat} {Q : VK} {X : Cx} {a b c e : Expr} {pos p p2 p3 : Pos} {x : Str} {ga gb gc : Ev} {k : Nat}
def isDKey (ρ : Ss) (i : Nat) : Bool := match ρ[i]? with
  | some (some (.v .O (.dK _ _))) => true
  | _ => false
def tgSubK (i : Nat) (gi : Ev) : Tg := fun t ρ => if isDKey ρ i = true then match gi ρ with
  | .ok u ρ2 => match ρ2[i]? with
    | some (some (.v .O (.dK ks xs))) => match ((derT ρ2 u).bind frz).bind keyK with
      | some kd => match frz t with
        | some d => if ks.length < sizeLine then some (ρ2.set i (some (.v .O (.dK (putKK ks kd) (putDX ks xs kd d))))) else none
        | none => none
      | none => none
    | _ => none
  | _ => none
  else none
/-! a dict of ints by ints, as a display of constants -/
def eDctN (ps : List (Int × Int)) : Ev := fun ρ => .ok (.v .O (.dK (ps.map fun p => Sum.inl p.1) (ps.map fun p => .int p.2))) ρ
end
end PV

namespace PV
open PySem PySem.Spec L2
def itemK (p : Key × D) : Tm := .v .F (.tup [keyD p.1, p.2])
def itemsK (ks : List Key) (xs : List D) : List Tm := (ks.zip xs).map itemK
/-- for k, v in d.items(): the name is empty, the dict locked, while the loop goes -/
def sForI (i : Nat) (tgt : Tg) (body : Sm) : Sm := fun ρ => match ρ[i]? with
  | some (some (.v .O (.dK ks xs))) => if flat.flats xs = true then match forL tgt body (itemsK ks xs) (ρ.set i none) with
    | .nx ρ' => match ρ'[i]? with
      | some none => .nx (ρ'.set i (some (.v .O (.dK ks xs))))
      | _ => .no
    | _ => .no
    else .no
  | _ => .no
section
variable {G : Gx} {W : WX} {pr : Addr → Prop} {io : List (Nat × V)} {σ : L2.St} {s s1 : Sx} {ios : List Nat} {Q : VK} {X : Cx} {a b c e : Expr} {pos p p2 p3 : Pos} {x : Str} {ga gb gc : Ev} {k : Nat}
end
end PV

namespace PV
open PySem PySem.Spec L2
/-! ### list(d.values()), sorted(d) -/
def rValsL : V → Hp → VK → Prop := fun x H Q => ∃ (d : Addr) (kvs : List (Key × V)), x = .ref d ∧ H d = some (.dK kvs) ∧ ∀ p, H p = none → Q (.ref p) (upd H p (.lst (kvs.map Prod.snd)))
section
open PyProof.Rows
variable {X : Cx} {e : Expr} {te : TE} {p apos cpos pos : Pos}
/-- sorted(d), d a dict of int keys -/
def rSortK : List V → Hp → VK → Prop := fun vs H Q => ∃ (a : Addr) (kvs : List (Key × V)) (ns : List Int), vs = [.ref a] ∧ H a = some (.dK kvs) ∧ kvs.map Prod.fst = ns.map Sum.inl ∧ ∀ p, H p = none → Q (.ref p) (upd H p (.lst ((isort ns).map V.int)))
end
section
variable {G : Gx} {W : WX} {pr : Addr → Prop} {io : List (Nat × V)} {σ : L2.St} {s s1 : Sx} {ios : List Nat} {Q : VK} {X : Cx} {a b c e : Expr} {pos p p2 apos cpos : Pos} {ga gb gc : Ev} {k : Nat}
def opListV (t : Tm) : Option Tm := match t with
  | .v _ (.dK _ xs) => if flat.flats xs = true then some (.v .O (.lst xs)) else none
  | _ => none
def eListV : Ev → Ev := eOp1 opListV
def intsK : List Key → Option (List Int)
  | [] => some []
  | .inl i :: ks => (intsK ks).map (i :: ·)
  | .inr _ :: _ => none
def opSortK (t : Tm) : Option Tm := match t with
  | .v _ (.dK ks _) => (intsK ks).map fun ns => .v .O (.lst ((isort ns).map .int))
  | _ => none
def eSortK : Ev → Ev := eOp1 opSortK
end
end PV

namespace PV
open PySem PySem.Spec L2
/-! ### comprehensions with two fors: the second one over a tuple of flat data -/
def itF : Tm → Option (List Tm)
  | .v _ (.tup xs) => if flat.flats xs = true then some (xs.map (Tm.v .F)) else none
  | _ => none
/-- without L -/
def Sx.off (s : Sx) (L : Addr) : Sx := { s with H := fun b => if b = L then none else s.H b }
section
variable {G : Gx} {W : WX} {pr : Addr → Prop} {io : List (Nat × V)} {σ : L2.St} {s s1 : Sx} {ios : List Nat} {X : Cx} {a b c e tg : Expr} {pos p : Pos} {ga gb gc : Ev}
/-- for t in ..: for u in a tuple: the parts -/
def compS (tgt : Tg) (gn : Ev) (tgt1 : Tg) (elt : Ev) (vs vs1 : List Nat) : List Tm → Ss → Option (List D × Ss)
  | [], ρ => some ([], wipeS ρ vs)
  | t :: ts, ρ => match tgt t (wipeS ρ vs) with
    | some ρ1 => match gn ρ1 with
      | .ok n ρ2 => match itF n with
        | some us => match compL tgt1 eTrue elt vs1 us ρ2 with
            | some (ds1, ρ3) => match compS tgt gn tgt1 elt vs vs1 ts ρ3 with
              | some (ds, ρ4) => some (ds1 ++ ds, ρ4)
              | none => none
            | none => none
        | none => none
      | _ => none
    | none => none
def eCompS (it : Iv) (vs : List Nat) (tgt : Tg) (gn : Ev) (vs1 : List Nat) (tgt1 : Tg) (elt : Ev) : Ev := fun ρ => match it ρ with
  | .ok ts ρ1 => if vs.all (hideOk ρ1) = true then match compS tgt gn tgt1 elt vs vs1 ts ρ1 with
    | some (ds, ρ2) => if ds.length ≤ sizeLine then .ok (.v .O (.lst ds)) (restS ρ1 ρ2 vs) else .no
    | none => .no
    else .no
  | .ex e ρ1 => .ex e ρ1
  | .no => .no
variable {elt iter tg1 bn : Expr} {scope : Scope} {own : List (Str × Nat)} {spos py p1 p2 : Pos} {it : Iv} {tgt tgt1 : Tg} {gn gel : Ev} {tv tv1 vs1 : List Nat} {tg : Expr}
end
end PV


namespace PV
open PySem PySem.Spec L2
/-! ### names of the module that name an int, a text -/
section
variable {G : Gx} {W : WX} {ios : List Nat} {X : Cx} {pos : Pos} {x : Str}
end
end PV

namespace L2
open PySem PySem.Spec PyProof.Rows
def rRep01 (K : PySem.W.Frag) : R2 := fun x y H Q => ∃ l k xs, x = .ref l ∧ y = .int k ∧ SqT K H l xs ∧ xs ≠ [] ∧ ((k = 0 ∧ ∀ p, H p = none → Q (.ref p) (upd H p (.tup []))) ∨ (k = 1 ∧ Q (.ref l) H))
section
variable {X : Cx}
end
end L2
namespace PV
open PySem PySem.Spec L2
/-- a tuple times a number -/
def opMulT (t u : Tm) : Option Tm := match t, u with
  | .v k (.tup xs), .v _ (.int n) => match elk k xs with
    | some ys => if 0 ≤ n ∧ n ≤ 1000 ∧ 0 < ys.length ∧ ys.length ≤ 1000 then some (.v .F (.tup (List.replicate n.toNat ys).flatten)) else none
    | none => none
  | _, _ => none
def eMulT : Ev → Ev → Ev := eOp2 opMulT
section
variable {G : Gx} {W : WX} {ios : List Nat} {X : Cx} {a b : Expr} {pos : Pos} {ga gb : Ev}
end
end PV

/-! == and != by an own __eq__ -/
namespace PySem.W
open PySem PySem.Spec
section
variable {prog : Program} {w : World} {A : Around} {E : Value → Shared → Prop} {s : Shared} {K : Frag} {x C f : Addr} {ox : Obj} {od : Option Obj} {b tb : Value}
end
end PySem.W
namespace PV
open PySem PySem.Spec L2
section
variable {X : Cx} {C f : Addr} {k : Nat} {fd : FuncData} {ps : List Str} {sp : Sp}
/-- x == y (x != y) by x's own __eq__ -/
def rOwn (K : PySem.W.Frag) (C : Addr) (sp : Sp) (neg : Bool) : R2 := fun x y H Q => ∃ a dx fs t, x = .ref a ∧ H a = some (.ins C dx fs) ∧ TyX K H y t ∧ PySem.W.notFirst K C t = true ∧ sp [.ref a, y] H (fun v H' => ∃ b, v = .bl b ∧ Q (.bl (if neg = true then !b else b)) H') fun _ _ _ => False
end
end PV

namespace PV
open PySem PySem.Spec L2
/-! ### == and != by an own __eq__, isinstance of an own class -/
/-- what an own class owes -/
structure OwnC (K : PySem.W.Frag) (C : Addr) : Prop where
  ha : PySem.W.findIn K (.ref C) "__class__" = some (some (.builtin "object.__class__"))
  hn : PySem.W.specialIn K (.builtin "object.__class__") "__get__" = some (some (.builtin "getset_descriptor.__get__"))
  ht : PySem.W.takesIn K (.builtin "object.__class__") = some true
  hm : PySem.W.mroIn K C (.type "object") = some true
  ne : PySem.W.findIn K (.ref C) "__ne__" = some (some (.builtin "object.__ne__"))
/-- data whose type is known: built in, or of the class c -/
def tyC (c : Nat) (d : D) : Bool := match d with
  | .ins c' _ => decide (c' = c)
  | d => (tyD d).isSome
section
variable {G : Gx} {W : WX} {pr : Addr → Prop} {io : List (Nat × V)} {σ : L2.St} {s s1 : Sx} {ios : List Nat} {Q : VK} {X : Cx} {a b : Expr} {pos p : Pos} {ga gb : Ev} {c k n : Nat} {fa : Addr} {fd : FuncData} {ps : List Str} {fn : Fn} {ms : List Md}
def eOwn (c : Nat) (fn : Fn) (ms : List Md) (neg : Bool) (ga gb : Ev) : Ev := fun ρ => (ga ρ).bind fun t ρ1 => (gb ρ1).bind fun u ρ2 => if isOb c (derT ρ2 t) = true then match derT ρ2 u with
  | some u' => if tyC c (toD u') = true then match callF fn ms [t, u] ρ2 with
    | .ok (.v .F (.bl r)) ρ3 => .ok (.v .F (.bl (if neg = true then !r else r))) ρ3
    | _ => .no
    else .no
  | none => .no
  else .no
/-- isinstance(x, C), C an own class -/
def isC (c : Nat) (d : D) : Option D := match d with
  | .ins c' _ => if c' = c then some (.bl true) else none
  | d => (tyD d).map fun _ => .bl false
def eIsC (c : Nat) : Ev → Ev := eOp1 (rd1 (isC c))
end
end PV

/-! try: .. except C as n: y = n  -- the caught error is kept -/
namespace L2N
open L2 PySem PySem.Spec PyProof.Rows
open PV (errAt)
section
variable {X : Cx} {pins : List (Addr × Obj)} {σ : St} {H : Hp} {s : Shared}
theorem errAt_ok {P : Program} {w : World} {H : Hp} {h : Heap} {a : Addr} {cls : Value} {d : Option Addr} {oe : Obj} {vs : Array Value} (e : h.get? a = some oe) (z : Zn cls d oe) (hd : oe.data = .fields vs) : ObjOk P w H h a (.ext (errAt cls d a)) :=
  ⟨⟨oe, vs, e, z, hd⟩, ⟨oe, e⟩, fun _ _ ⟨o, v, q, r⟩ k => ⟨o, v, k o q, r⟩⟩
/-- an object of ours that is not tracked is tracked -/
theorem Inv.track {a : Addr} {o : HO} (I : Inv X pins σ H s) (na : H a = none) (n0 : X.s_0.heap.get? a = none) (nL : a ≠ X.env.locals) (nC : ∀ x c, X.env.cells.lookup x = some c → c ≠ a) (nP : ∀ p ∈ X.pn ++ pins, p.1 ≠ a)
    (new : ObjOk X.prog X.w (upd H a o) s.heap a o) : Inv X pins σ (upd H a o) s := by
  have ne0 : ∀ b u, X.s_0.heap.get? b = some u → b ≠ a := fun b u e z => by rw [z, n0] at e; cases e
  refine ⟨I.ok, I.os, I.bare, ⟨I.base.keep, I.base.slot, fun b u q n hb => ?_, I.base.there, fun b xs q => ?_, fun b u xs q => ?_, fun b ps q => ?_⟩, I.loc, I.cell, ?_, fun x c e => ?_, fun p hp => ?_, fun b u e => ?_, I.len⟩
  · rw [upd_ne (ne0 b u q)]; exact I.base.free b u q n hb
  · have z := I.base.tups b xs q
    rw [upd_ne (fun y => by rw [y, na] at z; cases z)]; exact z
  · have z := I.base.frzs b u xs q
    rw [upd_ne (fun y => by rw [y, na] at z; cases z)]; exact z
  · obtain ⟨m, z⟩ := I.base.tbls b ps q
    exact ⟨m, by rw [upd_ne (fun y => by rw [y, na] at z; cases z)]; exact z⟩
  · rw [upd_ne (Ne.symm nL)]; exact I.free
  · rw [upd_ne (nC x c e)]; exact I.freeC x c e
  · obtain ⟨h1, h2, h3⟩ := I.pin p hp
    exact ⟨h1, by rw [upd_ne (nP p hp)]; exact h2, h3⟩
  · by_cases hb : b = a
    · subst hb
      rw [upd_same] at e
      cases e
      exact new
    · rw [upd_ne hb] at e
      exact (I.hok b u e).stay (fun c v _ q => q) (fun c q => by rw [upd_ne (ne_of_none q na)]; exact q) fun c xs q => by rw [upd_ne (ne_of_none q na)]; exact q
end
def wKeep (K : PySem.W.Frag) (c : Value) (i y : Nat) (Wout : WX) (D : Ends) : WX := fun cls d σ H => ∃ b, PySem.W.exmOne K cls c = some b ∧
  (b = true → ∀ a, H a = none → D.nx (((σ.set i (some (.ref a))).set y (some (.ref a))).set i none) (upd H a (.ext (errAt cls d a)))) ∧ (b = false → Wout cls d σ H)
section
variable {X : Cx} {x n yn : Str} {c : Value} {i y : Nat} {body : List Stmt} {np pn0 py ps pos pos' : Pos} {tb : WX → TS} {Wout : WX}
theorem ps_try_keep (hs : X.stack = X.env :: X.outer) (hf : X.env.frame = some X.env.locals) (hex : X.ex = []) (hN : X.N.Nodup) (hi : X.N[i]? = some n) (hln : X.env.kindOf n = some .local) (hc : Names X x c) (tk : Takes X Wout) (hy : X.N[y]? = some yn) (hyl : Loc X.env.scope yn) (hiy : i ≠ y)
    (hjv : Vis X.env.scope n) (hd1 : (n == ("__debug__" : Str)) = false) (hd2 : (n == ("__classdict__" : Str)) = false) (hilen : i < X.N.length)
    (hb : ∀ (W : WX) (pn : List (Addr × Obj)) (xe : Value → Shared → Prop), Takes (X.tr pn xe) W → PassesOwn (model X.prog X.w) X.A X.env xe → PSs (X.tr pn xe) body (tb W))
    (hsw : swapsWith (.Name n pn0) (some (.Name yn py)) ps.line X.env = pure false := by rfl) (hfn : X.fn yn = true ∨ X.env.scope.names.lookup yn = some .local := by first | exact .inl rfl | exact .inr rfl) :
    PS X (.Try body [.ExceptHandler (some (.Name x np)) (some n) [.Assign [.Name yn py] (.Name n pn0) ps] pos'] [] [] pos) (fun D σ H => tb (wKeep X.K c i y Wout D) D σ H) := by
  refine ⟨fun pins s σ H D I h => ?_⟩
  have ok := I.ok
  have hfr : X.A.frames = some (X.env :: X.outer) := by rw [ok.frames, hs]
  have hloc : Loc X.env.scope n := .inl hln
  refine wpAny_Try_except ?_
  refine wpAny_mono ((hb (wKeep X.K c i y Wout D) (X.pn ++ pins) (fun e s₁ => wpAny (model X.prog X.w) X.A (noteFrame e X.env) (fun _ s₂ => wpAny (model X.prog X.w) X.A (setFlight e none) (fun _ s₃ =>
    wpAny (model X.prog X.w) X.A (handleBy e X.env [.ExceptHandler (some (.Name x np)) (some n) [.Assign [.Name yn py] (.Name n pn0) ps] pos']) (SP X pins D) X.xe s₃) X.xe s₂) X.xe s₁) (fun u s' xx => ?_) PassesOwn.looking).run [] s σ H D (I.toTry _) h) (fun f s1 hsp => ?_) (fun e s1 he => he)
  · -- the catch
    obtain ⟨a, B, sI, pins', σ', H', cls, d, rfl, J', nb, up, sky, na, os, ag, b, hb1, hyes, hno⟩ := xx
    have J : Inv X pins σ' H' sI := J'.ofTry ok
    have sky' : Sky B (X.env :: X.outer) a (Zn cls d) X.env.locals s'.heap := by rw [← hs]; exact sky
    show wpAny (model X.prog X.w) X.A (noteFrame (.ref a) X.env) _ _ _
    refine Sky.land Zn.steady hfr hf sky' fun h3 fl3 up3 => ?_
    have J3 : Inv X pins σ' H' { s' with heap := h3 } := J.landed nb fl3.1 (up.trans up3) os ag
    obtain ⟨oe3, vs3, he3, hz3, hd3⟩ := fl3.there
    have notFr : ∀ {h : Heap} {o : Obj} {vs : Array Value}, h.FunFrames B (X.env :: X.outer) → h.get? a = some o → o.data = .fields vs → a ∉ frs (X.env :: X.outer) := fun {h o vs} ff e dd hm => by
      obtain ⟨_, o', e', hnf⟩ := ff.mem hm
      rw [e] at e'; cases e'
      exact hnf _ dd
    have nfr := notFr fl3.2.2.1 he3 hd3
    have nL : a ≠ X.env.locals := fun z => nfr (List.mem_filterMap.mpr ⟨X.env, List.mem_cons_self, by rw [hf, z]⟩)
    have nF : a ∉ X.fs := fun hm => by
      obtain ⟨e, he, q⟩ := List.mem_filterMap.mp hm
      exact nfr (List.mem_filterMap.mpr ⟨e, List.mem_cons_of_mem _ he, q⟩)
    have S3 := J3.suite he3 hd3 na nL nF
    have notI : ∀ o, sI.heap.get? a ≠ some o := fun o e => by
      have z := nb a o e (by rw [hs]; exact nfr)
      rw [fl3.2.1] at z; cases z
    have n0 : X.s_0.heap.get? a = none := by
      cases e : X.s_0.heap.get? a with
      | none => rfl
      | some o =>
        obtain ⟨o', q⟩ := J.base.there a o e (by rw [hex]; exact fun z => nomatch z)
        exact absurd q (notI o')
    have nP : ∀ p ∈ X.pn ++ pins, p.1 ≠ a := fun p hp z => by
      have q := (J.pin p hp).1
      rw [z] at q
      exact notI _ q
    have nC : ∀ x c, X.env.cells.lookup x = some c → c ≠ a := fun x c e z => by
      obtain ⟨v, o, ho, _⟩ := J.cell x c e
      rw [z] at ho
      exact notI _ ho
    refine wpAny_handleBy_cons (codeAny_handlers_test ?_) (by intro q; cases q)
    have LT : PySem.W.Looks (model X.prog X.w) h3 (typeOf (.ref a)) cls := fun A Q E s k q => wpAny_typeOf_ref (k _ _ he3) (by rw [hz3.1]; exact q)
    have LM := PySem.W.exm_one (M := model X.prog X.w) (J3.kIn) LT hb1
    have test : ∀ {Q : Value → Shared → Prop} {E : Value → Shared → Prop}, Q c { s' with heap := h3 } → wpAny (model X.prog X.w) (X.A.mark (some (.ref a))) (eval (.Name x np) X.env) Q E { s' with heap := h3 } := fun {Q E} q => by
      obtain ⟨hg, hdbg, hm | ⟨hm, hv, hnn⟩⟩ := hc
      · exact ld_glob (X := X.suite a ((a, oe3) :: (X.pn ++ pins))) S3 hg hm q hdbg
      · exact ld_blt (X := X.suite a ((a, oe3) :: (X.pn ++ pins))) S3 hg hm hv q hnn hdbg
    refine test (LM.here ?_)
    cases b with
    | true =>
      refine codeAny_handlers_suite_as ?_
      refine HandSPX.lands_againZ fl3 fun h4 fl4 up4 => ?_
      have J4 : Inv X pins σ' H' { s' with heap := h4 } := J.landed nb fl4.1 ((up.trans up3).trans up4) os ag
      obtain ⟨oe4, vs4, he4, hz4, hd4⟩ := fl4.there
      have S4 := J4.suite he4 hd4 na nL nF
      refine store_ok (X := X.suite a ((a, oe4) :: (X.pn ++ pins))) (v := .ref a) S4 hN hi hloc rfl (fun s5 S5 => ?_) (.inr hln)
      have run := (pss_one (ps_set (X := X.suite a ((a, oe4) :: (X.pn ++ pins))) (i := y) (pos := ps) hN hy hyl (pe_var (i := i) (pos := pn0) hi hjv hd1 hd2) hsw hfn))
      have hil : i < σ'.length := by rw [J.len]; exact hilen
      refine wpAny_mono (run.run [] s5 _ H' { nx := fun σ6 H6 => σ6 = (σ'.set i (some (.ref a))).set y (some (.ref a)) ∧ H6 = H', rt := fun _ _ => False, bk := fun _ _ => False, ct := fun _ _ => False } S5 ?_) (fun f s6 hsp => ?_) (fun _ _ z => False.elim z)
      · exact ⟨.ref a, by rw [List.getElem?_set_self hil], rfl, rfl⟩
      cases f with
      | next =>
        obtain ⟨σ6, H6, S6, e1, e2⟩ := hsp
        subst e1 e2
        have g6 := (S6.pin (a, oe4) (List.mem_append_left _ List.mem_cons_self)).1
        have T6 := Inv.track (S6.unsuite ok) na n0 nL nC nP (errAt_ok (cls := cls) (d := d) g6 hz4 hd4)
        exact gone_ok T6 hN hi hln fun s7 J7 => ⟨_, _, J7, hyes rfl a na⟩
      | brk =>
        obtain ⟨σ6, H6, S6, q6⟩ := hsp
        exact q6.elim
      | cont =>
        obtain ⟨σ6, H6, S6, q6⟩ := hsp
        exact q6.elim
      | ret u =>
        obtain ⟨v6, σ6, H6, S6, r6, q6⟩ := hsp
        exact q6.elim
    | false =>
      show wpAny _ X.A (handleBy (.ref a) X.env []) _ _ _
      refine wpAny_handleBy_nil ?_
      obtain ⟨k1, k2, k3, oe, vs, T, oT, ts', he, hz, hd, h1, hr⟩ := id fl3
      unfold PySem.passOn
      refine wpAny_bind (wpAny_field he hd h1 ?_)
      rw [if_neg (show ¬ ((Value.ref T == Value.none) = true) from by simp)]
      have fin : wpAny (model X.prog X.w) X.A (setFlight (.ref a) X.env.frame) (fun _ s4 => wpAny (model X.prog X.w) X.A (throw (.ref a) : Sem Flow) (SP X pins D) X.xe s4) X.xe { s' with heap := h3 } := by
        rw [hf]
        refine HandSPX.setFlight_upZ fl3 fun h4 hh4 up4 => wpAny_throw (tk _ _ ?_)
        exact ⟨a, B, sI, pins, σ', H', cls, d, rfl, J, nb, (up.trans up3).trans up4, .inr (.inr (by rw [hs]; exact hh4)), na, os, ag, hno rfl⟩
      first
        | exact wpAny_bind (wpAny_pure (wpAny_bind fin))
        | exact wpAny_bind fin
  · cases f with
    | next =>
      obtain ⟨σ', H', J', q⟩ := hsp
      exact wpAny_execs_nil ⟨σ', H', J'.ofTry ok, q⟩
    | brk =>
      obtain ⟨σ', H', J', q⟩ := hsp
      exact ⟨σ', H', J'.ofTry ok, q⟩
    | cont =>
      obtain ⟨σ', H', J', q⟩ := hsp
      exact ⟨σ', H', J'.ofTry ok, q⟩
    | ret u =>
      obtain ⟨v, σ', H', J', r, q⟩ := hsp
      exact ⟨v, σ', H', J'.ofTry ok, r, q⟩
/-- what the class says for reading a kept error's field -/
structure FldX (K : PySem.W.Frag) (C : Addr) (f : Str) : Prop where
  ga : PySem.W.findIn K (.ref C) "__getattribute__" = some (some (.builtin "BaseException.__getattribute__"))
  gg : PySem.W.findIn K (.ref C) "__getattr__" = some none
  exC : PySem.W.subIn K (.ref C) (.type "BaseException") = some true
  hdC : PySem.W.hasDictIn K C = true
  noN : PySem.W.findIn K (.ref C) f = some none
/-- e.f, e a kept error with the one field f -/
theorem pe_errFld {C : Addr} {f : Str} {e : Expr} {te : TE} {pos : Pos} (T : FldX X.K C f) (he : PE X e te) (hb : attributeBase e f X.env (eval e X.env) = eval e X.env := by rfl) :
    PE X (.Attribute e f pos) (fun σ H Q => te σ H fun x H1 => ∃ (a dd : Addr) (v : V), x = .ref a ∧ H1 a = some (.ext (errAt (.ref C) (some dd) a)) ∧ H1 dd = some (.xd [(f, v)]) ∧ Q v H1) := by
  refine ⟨fun pins s σ H Q I h => ?_⟩
  refine attr_of hb (thn (he.run pins s σ H _ I h) fun u s1 hh => ?_)
  obtain ⟨x, H1, I1, rx, a, dd, v, ex, ea, ed, q⟩ := hh
  subst ex
  obtain rfl : u = Value.ref a := rx
  obtain ⟨⟨oe, vs, ha, hz, hd⟩, _⟩ := (show ObjOk X.prog X.w H1 s1.heap a (.ext (errAt (.ref C) (some dd) a)) from I1.hok a _ ea)
  have hx : ObjOk X.prog X.w H1 s1.heap dd (.xd [(f, v)]) := I1.hok dd _ ed
  obtain ⟨mA, hns, hr⟩ := hx
  obtain ⟨od, ho, hl⟩ := lookIn_ns hns
  have l : List.lookup f [(f, v)] = some v := by simp [List.lookup]
  obtain ⟨u, hu, ru⟩ := RelO.some_of (v := v) (o := mA f) (by rw [← l]; exact hr f)
  have J : PySem.W.InstAt s1.heap a oe C (some od) := ⟨ha, hz.1, by unfold PySem.W.notCls; rw [hd] <;> rfl, by rw [hz.2.1]; exact ho⟩
  exact HandSPX.exc_get I1.kIn J T.ga T.gg T.exC (PySem.W.findObj_own T.hdC T.noN rfl (by rw [hl, hu])) (handed_of ru) ⟨v, H1, I1.tok _, ru, q⟩
/-- isinstance(e, c), e a kept error of the class D -/
def rIsK (K : PySem.W.Frag) (D : Addr) : List V → Hp → VK → Prop := fun xs H Q => ∃ (a : Addr) (d : Option Addr) (c : V) (cv : Value) (b : Bool), xs = [.ref a, c] ∧ H a = some (.ext (errAt (.ref D) d a)) ∧ (∀ dx, d = some dx → ∃ l, H dx = some (.xd l)) ∧ (∀ u, RelV c u → u = cv) ∧ PySem.W.kitOne K (.ref D) cv = some b ∧ Q (.bl b) H
theorem call_isK {D : Addr} (C : L2.ExcC X.K D) : CallR X (.builtin "isinstance") (rIsK X.K D) := by
  intro pins s σ H xs us Q I r h
  obtain ⟨a, d, c, cv, b, rfl, ea, hdx, hcv, e, q⟩ := h
  cases r with
  | cons rx rr =>
    cases rr with
    | cons rt rr =>
      cases rr
      cases rx
      have ec := hcv _ rt
      subst ec
      obtain ⟨⟨oe, vs, hget, hz, hv⟩, _⟩ := (show ObjOk X.prog X.w H s.heap a (.ext (errAt (.ref D) d a)) from I.hok a _ ea)
      have J : ∃ od, PySem.W.InstAt s.heap a oe D od := by
        cases d with
        | none => exact ⟨none, hget, hz.1, by unfold PySem.W.notCls; rw [hv] <;> rfl, by rw [hz.2.1]; trivial⟩
        | some dx =>
          obtain ⟨l, hl⟩ := hdx dx rfl
          have hx : ObjOk X.prog X.w H s.heap dx (.xd l) := I.hok dx _ hl
          obtain ⟨mA, hns, hr⟩ := hx
          obtain ⟨od, ho, _⟩ := lookIn_ns hns
          exact ⟨some od, hget, hz.1, by unfold PySem.W.notCls; rw [hv] <;> rfl, by rw [hz.2.1]; exact ho⟩
      obtain ⟨od, J⟩ := J
      have hcl : (PySem.W.clsIn X.K D).isSome = true := by obtain ⟨cd, hc, _⟩ := PySem.W.any_some C.hd; rw [hc]; rfl
      exact PySem.W.kia_one (PySem.W.kitx_exc hcl C.hg C.hk C.hs C.ha C.hn C.ht C.hm) I.kIn J e (fun z => nomatch z) fun tk => ⟨.bl b, H, I.kept (t' := tk) fun _ _ z => z, rfl, q⟩
end
end L2N

/-! kept errors: try: .. except C as n: y = n; y.f; isinstance(y, C) -/
namespace PV
open PySem PySem.Spec L2
def sTryK (kn : List Nat) (sub : Nat → Bool) (j y : Nat) (g : Sm) : Sm := fun ρ => match g ρ with
  | .ex e ρ1 => if e.c ∈ kn then (if sub e.c = true then (if j < ρ1.length ∧ y < ρ1.length then .nx ((ρ1.set j none).set y (some (.v .F (.err e.c e.ds)))) else .no) else .ex e ρ1) else .no
  | o => o
section
variable {G : Gx} {W : WX} {ios : List Nat} {X : Cx} {pr : Addr → Prop} {io : List (Nat × V)} {σ : L2.St} {s s1 : Sx} {D : Ends} {Wout : WX}
theorem SR.newF (r : SR G pr io σ s) {p : Addr} (hp : s.H p = none) (o : HO) : SR G pr io σ { s with H := upd s.H p o, fz := fun b => s.fz b ∨ b = p } ∧ Ext s { s with H := upd s.H p o, fz := fun b => s.fz b ∨ b = p } := by
  have xn : Ext s (s.new p o) := Ext.new hp _
  have fr := r.fresh hp
  have r := r.new hp o
  refine ⟨⟨Sl.keep (fun _ h => .inl h) (fun _ h => .inr h) (Tk.refl _) (fun _ _ _ h => h) r.sl, r.nd, fun a ha => ⟨fun z => z.elim (r.sep a ha).1 fun z => fr.2.2 (by rw [← z]; exact ha), (r.sep a ha).2⟩, fun a h => ?_, r.iov⟩, ⟨xn.keep, xn.dom, xn.tk, fun _ h => .inl h, fun a h => h.elim .inl fun z => .inr (.inr (by rw [z]; exact hp)), xn.oso⟩⟩
  rcases h with (h | h) | h
  · exact r.dom a (.inl h)
  · rw [h]; show upd _ _ _ _ ≠ none; rw [upd_same]; simp
  · exact r.dom a (.inr h)
theorem tryK_end {kn : List Nat} {sub : Nat → Bool} {c j y : Nat} {g : Sm} (te : ∀ k ∈ kn, PySem.W.exmOne X.K (.ref (G.ca k)) (.ref (G.ca c)) = some (sub k)) (hjo : j ∉ ios) (hyo : y ∉ ios) (hyj : y ≠ j) {H : Hp} (q : tSv G Wout ios (sTryK kn sub j y g) D σ H) :
    tSv G (L2N.wKeep X.K (.ref (G.ca c)) j y Wout D) ios g D σ H := by
  obtain ⟨pr, io, s, rfl, hi, r, q⟩ := of_tSv q
  refine tSv_of hi r ?_
  unfold sTryK at q
  cases eg : g s.ρ with
  | nx ρ' => rw [eg] at q; exact q
  | bk ρ' => rw [eg] at q; exact q
  | ct ρ' => rw [eg] at q; exact q
  | rt t ρ' => rw [eg] at q; exact q
  | no => rw [eg] at q; exact q
  | ex e ρ1 =>
    rw [eg] at q
    dsimp only at q
    split at q
    · rename_i hkn
      intro cls dd σ' s' e1 r1 x1 er
      refine ⟨sub e.c, by rw [er.1]; exact te _ hkn, fun hb a ha => ?_, fun hb => ?_⟩
      · rw [if_pos hb] at q
        split at q
        · rename_i hl
          obtain ⟨os', r2, x2⟩ := SR.empty j (by rw [hi]; exact hjo) r1 x1
          obtain ⟨r3, x3⟩ := r2.newF (p := a) ha (.ext (errAt cls dd a))
          have pv : Tp G pr (σ'.set j none) { s' with ρ := s'.ρ.set j none, os := os', H := upd s'.H a (.ext (errAt cls dd a)), fz := fun b => s'.fz b ∨ b = a } (.v .F (.err e.c e.ds)) (.ref a) [] := by
            refine ⟨⟨rfl, ?_⟩, .nil, fun a ha => by cases ha⟩
            simp only [Rep]
            have kp : ∀ b o, s'.H b = some o → upd s'.H a (.ext (errAt cls dd a)) b = some o := fun b o z => by rw [upd_ne (ne_of_none z ha)]; exact z
            obtain ⟨hcls, er⟩ := er
            obtain ⟨ec, eds⟩ := e
            dsimp only at er hcls ⊢
            cases eds with
            | nil =>
              dsimp only at er
              subst er
              exact ⟨a, none, [], rfl, .inr rfl, by rw [upd_same, hcls], by simp [Reps], (fun dx z => absurd z (by simp)), (fun _ => rfl)⟩
            | cons d ds =>
              dsimp only at er
              obtain ⟨dx, vs, rfl, hfd, hdx, hvl, hvs⟩ := er
              refine ⟨a, some dx, vs, rfl, .inr rfl, by rw [upd_same, hcls], Reps.keep (fun _ h => .inl h) (fun b o _ z => kp b o z) ⟨fun b u z => kp b _ z, fun b o u z => kp b _ z⟩ _ _ hvs, fun dx' z => ?_, fun z => by cases z⟩
              cases z
              exact ⟨.inl hfd, kp _ _ hdx, hvl⟩
          obtain ⟨os2, r4, x4⟩ := r3.store (Ext.refl _) pv Frs.nil rfl (i := y) (by show y < (s'.ρ.set j none).length; rw [List.length_set, e1]; exact hl.2) (by rw [hi]; exact hyo)
          show D.nx ((((σ'.set j (some (.ref a))).set y (some (.ref a)))).set j none) _
          rw [set_none_ref hyj]
          exact q _ _ (by show (s'.ρ.set j none).set y _ = _; rw [e1]) r4 ((x2.trans x3).trans x4)
        · exact q.elim
      · rw [if_neg (by rw [hb]; simp)] at q
        exact q cls dd σ' s' e1 r1 x1 er
    · exact q.elim
theorem s_tryK {kn : List Nat} {sub : Nat → Bool} {c j y : Nat} {g : Sm} {body : List Stmt} {cn n yn : Str} {np pn0 py ps pos pos' : Pos} (hst : X.stack = X.env :: X.outer) (hf : X.env.frame = some X.env.locals) (hex : X.ex = []) (hN : X.N.Nodup) (tk : L2N.Takes X W)
    (hb : ∀ (W' : WX) (pn : List (Addr × Obj)) (xe : Value → Shared → Prop), L2N.Takes (X.tr pn xe) W' → PassesOwn (model X.prog X.w) X.A X.env xe → PBv (X.tr pn xe) G W' ios body g)
    (te : ∀ k ∈ kn, PySem.W.exmOne X.K (.ref (G.ca k)) (.ref (G.ca c)) = some (sub k)) (hnm : Names X cn (.ref (G.ca c))) (hi : X.N[j]? = some n) (hln : X.env.kindOf n = some .local) (hy : X.N[y]? = some yn) (hyl : Loc X.env.scope yn) (hjv : Vis X.env.scope n)
    (hjo : j ∉ ios) (hyo : y ∉ ios) (hyj : y ≠ j) (hjl : j < X.N.length) (hd1 : (n == ("__debug__" : Str)) = false) (hd2 : (n == ("__classdict__" : Str)) = false)
    (hsw : swapsWith (.Name n pn0) (some (.Name yn py)) ps.line X.env = pure false := by rfl) (hfn : X.fn yn = true ∨ X.env.scope.names.lookup yn = some .local := by first | exact .inl rfl | exact .inr rfl) :
    PSv X G W ios (.Try body [.ExceptHandler (some (.Name cn np)) (some n) [.Assign [.Name yn py] (.Name n pn0) ps] pos'] [] [] pos) (sTryK kn sub j y g) :=
  ps_imp (L2N.ps_try_keep hst hf hex hN hi hln hnm tk hy hyl (Ne.symm hyj) hjv hd1 hd2 hjl (tb := fun W' => tSv G W' ios g) (fun W' pn xe tk' po => hb W' pn xe tk' po) hsw hfn) fun D σ H q => tryK_end te hjo hyo hyj q
/-- y.f -/
def errF (c : Nat) : Tm → Option Tm
  | .v .O (.err c' [d]) => if c' = c then some (.v .F d) else none
  | .v k (.err c' [d]) => if c' = c then some (.v k d) else none
  | _ => none
def eErr (c : Nat) : Ev → Ev := eOp1 (errF c)
theorem v_err {c : Nat} {f : Str} {e : Expr} {ga : Ev} {pos : Pos} (T : L2N.FldX X.K (G.ca c) f) (hn : G.cn c = [f]) (ha : PEv X G W ios e ga) (hb : attributeBase e f X.env (eval e X.env) = eval e X.env := by rfl) : PEv X G W ios (.Attribute e f pos) (eErr c ga) :=
  pe_imp (L2N.pe_errFld T ha hb) fun σ H Q q => by
    refine op1_end (f := errF c) (r := fun x H Q => ∃ (a dd : Addr) (v : V), x = .ref a ∧ H a = some (.ext (errAt (.ref (G.ca c)) (some dd) a)) ∧ H dd = some (.xd [(f, v)]) ∧ Q v H) ?_ rfl q
    intro pr io σ s x tx t ox Q hr hx e q
    have key : ∀ {P : Addr → Prop} {d : PV.D}, Rep G s.H P (.err c [d]) x → ∃ (a dd : Addr) (v : V), x = .ref a ∧ s.H a = some (.ext (errAt (.ref (G.ca c)) (some dd) a)) ∧ s.H dd = some (.xd [(f, v)]) ∧ Rep G s.H P d v := by
      intro P d h
      simp only [Rep, Reps] at h
      obtain ⟨a, od, vs, rfl, _, h1, ⟨v, _, rfl, hv, rfl⟩, h3, h4⟩ := h
      cases od with
      | none => exact absurd (h4 rfl) (by simp)
      | some dd =>
        obtain ⟨_, h5, _⟩ := h3 dd rfl
        rw [hn] at h5
        exact ⟨a, dd, v, rfl, h1, h5, hv⟩
    unfold errF at e
    split at e
    · rename_i c' d
      split at e
      · rename_i hc
        subst hc
        cases e
        simp only [TmR, RepO] at hx
        obtain ⟨a, dd, v, e1, e2, e3, hv⟩ := key hx.2
        exact ⟨a, dd, v, e1, e2, e3, q.done hr hv⟩
      · cases e
    · rename_i k c' d hk
      split at e
      · rename_i hc
        subst hc
        cases e
        cases k with
        | O => first | exact (hk rfl).elim | exact (hk _ rfl).elim | exact absurd rfl (hk _ _)
        | F =>
          simp only [TmR] at hx
          obtain ⟨a, dd, v, e1, e2, e3, hv⟩ := key hx.2
          exact ⟨a, dd, v, e1, e2, e3, q.done hr hv⟩
        | B =>
          simp only [TmR] at hx
          obtain ⟨a, dd, v, e1, e2, e3, hv⟩ := key hx.2
          exact ⟨a, dd, v, e1, e2, e3, q.here hr (ot := []) ⟨⟨rfl, hv⟩, .nil, fun a ha => by cases ha⟩ Frs.nil⟩
      · cases e
    · cases e
/-- isinstance(y, C) of a kept error, C an own class -/
def isE (kn : List Nat) (sub : Nat → Bool) : PV.D → Option PV.D
  | .err c _ => if c ∈ kn then some (.bl (sub c)) else none
  | _ => none
def eIsE (kn : List Nat) (sub : Nat → Bool) : Ev → Ev := eOp1 (rd1 (isE kn sub))
theorem rd_isE {kn : List Nat} {sub : Nat → Bool} {c0 : V} {cv : Value} (hcv : ∀ u, RelV c0 u → u = cv) (ks : ∀ k ∈ kn, PySem.W.kitOne X.K (.ref (G.ca k)) cv = some (sub k)) : Rd1 G (isE kn sub) (fun x H Q => ∃ k ∈ kn, L2N.rIsK X.K (G.ca k) [x, c0] H Q) := by
  intro H x dx d Q hx e q
  cases dx <;> simp only [isE, reduceCtorEq] at e
  rename_i c xs
  split at e
  · rename_i hk
    cases e
    simp only [Rep] at hx
    obtain ⟨a, od, vs, rfl, _, h1, _, h3, _⟩ := hx
    exact ⟨c, hk, a, od, c0, cv, _, rfl, h1, fun dx z => ⟨_, (h3 dx z).2.1⟩, hcv, ks c hk, q _ fun P => by simp only [Rep]⟩
  · cases e
theorem v_isE {kn : List Nat} {sub : Nat → Bool} {c : Nat} {x : Str} {a : Expr} {ga : Ev} {p p2 pos : Pos} (xc : ∀ k ∈ kn, L2.ExcC X.K (G.ca k)) (ks : ∀ k ∈ kn, PySem.W.kitOne X.K (.ref (G.ca k)) (.ref (G.ca c)) = some (sub k)) (hm : X.mg "isinstance" = none) (hmC : X.mg x = some (.ref (G.ca c))) (ha : PEv X G W ios a ga) (hg : Gl X "isinstance" := by rfl) (hgC : Gl X x := by rfl) (hdb : (x == ("__debug__" : Str)) = false := by decide)
    (hs : starEach [a, .Name x p2] X.env = (false, eval a X.env) :: starEach [.Name x p2] X.env := by rfl) (hs2 : starEach [.Name x p2] X.env = (false, eval (.Name x p2) X.env) :: starEach [] X.env := by rfl) (hpl : (backTo pos (starEach [.Name x p2] X.env)).any (·.1) = false := by rfl) :
    PEv X G W ios (.Call (.Name "isinstance" p) [a, .Name x p2] [] pos) (eIsE kn sub ga) := by
  have cr : CallR X (.builtin "isinstance") (fun vs H Q => ∃ k ∈ kn, L2N.rIsK X.K (G.ca k) vs H Q) := fun pins s σ H vs us Q I r ⟨k, hk, h⟩ => L2N.call_isK (xc k hk) pins s σ H vs us Q I r h
  refine pe_imp (pe_callB cr hg hm (by decide +kernel) (pa_cons ha (pa_cons (pe_glob (v := .ref (G.ca c)) hgC hmC rfl hdb) pa_nil hs2) hs) (by decide) (by decide) hs hpl) fun σ H Q q => ?_
  show tEv G W ios ga σ H fun x H1 => ∃ k ∈ kn, L2N.rIsK X.K (G.ca k) [x, .ref (G.ca c)] H1 Q
  exact op1_end (f := rd1 (isE kn sub)) (r := fun x H Q => ∃ k ∈ kn, L2N.rIsK X.K (G.ca k) [x, .ref (G.ca c)] H Q) (Rd1.op (rd_isE (fun u r => by cases r; rfl) ks)) rfl q
end
end PV

/-! dict(zip(a, b)) of two lists, the first one of different keys; len(set(xs)) of different ints -/
namespace PV
open PySem PySem.Spec L2 PyProof.Rows
def rDictZip (K : PySem.W.Frag) : List V → Hp → VK → Prop := fun vs H Q => ∃ (a b : Addr) (ks : List Key) (ys : List V), vs = [.ref a, .ref b] ∧ SqL K H a (ks.map kV) ∧ SqL K H b ys ∧ ks.length ≤ ys.length ∧
  ∀ p, H p = none → Q (.ref p) (upd H p (.dK (mergeK [] (ks.zip ys))))
theorem kv_zip : ∀ {ks : List Key} {ys : List V} {us2 : List Value}, Vals ys us2 → KV (ks.zip ys) (ks.zip us2)
  | [], _, _, _ => by simp only [List.zip_nil_left]; exact .nil
  | k :: ks, [], _, .nil => .nil
  | k :: ks, y :: ys, _, .cons r t => .cons ⟨rfl, r⟩ (kv_zip t)
theorem pe_dictZip {X : Cx} {e1 e2 : Expr} {ta : TA} {p p2 pos pos2 : Pos} (hc : X.calm = true) (ha : PA X [e1, e2] ta) (hg : Gl X "dict") (hm : X.mg "dict" = none) (hg2 : Gl X "zip") (hm2 : X.mg "zip" = none) (hv : bootBuiltins "dict" = some (.type "dict"))
    (hs2 : starEach [e1, e2] X.env = (false, eval e1 X.env) :: starEach [e2] X.env := by rfl) (hpl2 : (backTo pos2 (starEach [e2] X.env)).any (·.1) = false := by rfl)
    (hs : starEach [.Call (.Name "zip" p2) [e1, e2] [] pos2] X.env = (false, eval (.Call (.Name "zip" p2) [e1, e2] [] pos2) X.env) :: starEach [] X.env := by rfl) :
    PE X (.Call (.Name "dict" p) [.Call (.Name "zip" p2) [e1, e2] [] pos2] [] pos) (fun σ H Q => ta σ H fun vs H1 => rDictZip X.K vs H1 Q) := by
  refine ⟨fun pins s σ H Q I hq => ?_⟩
  refine Call_ (ld_blt I hg hm hv (PyProof.Rows.callWith_type1 ?_ hs))
  rw [hs]
  show wpAny _ _ (spliced ((false, eval (.Call (.Name "zip" p2) [e1, e2] [] pos2) X.env) :: backTo pos (starEach [] X.env))) _ _ s
  refine Calls.spliced_cons ?_
  refine Call_ (ld_blt I hg2 hm2 PyProof.Rows.boot_zip (PyProof.Rows.callWith_type1 (thn (ha.run pos2 pins s σ H _ I hq) fun us s1 ⟨vs, H1, I1, r1, q1⟩ => ?_) hs2 hpl2))
  obtain ⟨a, b, ks, ys, ex, hx, hy, hlen, q⟩ := q1
  subst ex
  obtain ⟨u1, u2, eu, r, r'⟩ : ∃ u1 u2, us = [u1, u2] ∧ u1 = .ref a ∧ u2 = .ref b := by
    cases r1 with
    | cons r rr => cases rr with
      | cons r' rr => cases rr; cases r; cases r'; exact ⟨_, _, rfl, rfl, rfl⟩
  subst eu r r'
  obtain ⟨its, rv, pl1, z1⟩ := I1.list hx
  obtain ⟨its2, rv2, pl2, z2⟩ := I1.list hy
  refine call_zip_2 pl1.isList pl2.isList fun h' hz hTI hTO h1 h2 hsz hk => Calls.spliced_nil ?_
  have I2 : Inv X pins σ H1 { s1 with heap := h' } := I1.kept (t' := s1.toks) hk
  have hcalm := I2.ok.hd hc
  have hl1 : its.length = ks.length := by rw [← rv.length, List.length_map]
  have hl2 : its2.length = ys.length := rv2.length.symm
  have hzl : (ks.zip its2).length = min its.toArray.size its2.toArray.size := by simp [List.length_zip, hl1]
  have hk0 : ks.length ≤ sizeLine := by simpa using z1
  refine PySem.call_dict_pairs (knd := mixKind X.prog X.w) (kvs := ks.zip its2) (PySem.PairArg.zip _ _ _ _ _ _ _ (PySem.W.ktu_apart s1.heap.objs.size a b pl1.lt pl2.lt) its.toArray its2.toArray) hcalm
    ⟨hz, hTI, ⟨_, _, hTO⟩, h1, h2, pl1.isList.at fun o e => hk _ o e, pl2.isList.at fun o e => hk _ o e⟩ ⟨hzl, fun i key v hr => ?_⟩ (by rw [← hzl, List.length_zip]; omega) fun h'' tk hd hkp => ?_
  · obtain ⟨e1, e2⟩ := hr
    have e1' : its[i]? = some key := by simpa using e1
    have e2' : its2[i]? = some v := by simpa using e2
    have hi : i < ks.length := by rw [← hl1]; exact (List.getElem?_eq_some_iff.mp e1').1
    obtain ⟨u, hu, ru⟩ := rv.get (i := i) (x := kV ks[i]) (by rw [List.getElem?_map, List.getElem?_eq_getElem hi]; rfl)
    rw [e1'] at hu
    cases hu
    exact ⟨ks[i], List.getElem?_zip_eq_some.mpr ⟨List.getElem?_eq_getElem hi, e2'⟩, kV_is (P := X.prog) (w := X.w) ru⟩
  · have big : s1.heap.objs.size + 5 = h'.objs.size := hsz.symm
    have hm : (h'.objs.size == sysModules) = false := beq_eq_false_iff_ne.mpr (Nat.ne_of_gt I2.big)
    have kvr : KV (ks.zip ys) (ks.zip its2) := kv_zip rv2
    have hlenM : (mergeK [] (ks.zip ys)).length ≤ sizeLine := by
      refine Nat.le_trans (length_mergeK _ []) ?_
      rw [List.length_nil, Nat.zero_add, List.length_zip]
      omega
    have fr : ∀ b o, s1.heap.get? b = some o → h''.get? b = some o := fun b o e => hkp b o (zl_f3 _ _ (Heap.lt_size e)) (hk b o e)
    have hp : H1 h'.objs.size = none := I2.hok.fresh (Nat.le_refl _)
    exact ⟨.ref h'.objs.size, upd H1 h'.objs.size (.dK (mergeK [] (ks.zip ys))), I1.laid (t' := tk) fr (by rw [hsz]; omega) (show ObjOk X.prog X.w _ _ _ (.dK (mergeK [] (ks.zip ys))) from ⟨hlenM, hm, merged [] (ks.zip its2), KV.merge kvr .nil, hd⟩), rfl, q _ hp⟩
section
variable {G : Gx} {W : WX} {pr : Addr → Prop} {io : List (Nat × V)} {σ : L2.St} {s s1 : Sx} {ios : List Nat} {Q : VK} {X : Cx} {a b : Expr} {pos p p2 pos2 : Pos} {ga gb : Ev}
def keysKD : List D → Option (List Key)
  | [] => some []
  | d :: ds => match keyK d, keysKD ds with
    | some k, some ks => some (k :: ks)
    | _, _ => none
theorem zip_take_self {α β : Type} : ∀ (xs : List α) (ys : List β), xs.zip ys = xs.zip (ys.take xs.length)
  | [], ys => by simp
  | x :: xs, [] => by simp
  | x :: xs, y :: ys => by simp only [List.length_cons, List.take_succ_cons, List.zip_cons_cons]; rw [← zip_take_self xs ys]
theorem Reps.takeR {H : Hp} {P : Addr → Prop} : ∀ {ds : List PV.D} {vs : List V} (n : Nat), Reps G H P ds vs → Reps G H P (ds.take n) (vs.take n)
  | _, _, 0, _ => by simp [Reps]
  | [], _, n + 1, h => by simp only [Reps] at h; subst h; simp [Reps]
  | d :: ds, vs, n + 1, h => by
    simp only [Reps] at h
    obtain ⟨v, r, rfl, h1, h2⟩ := h
    simp only [List.take_succ_cons, Reps]
    exact ⟨v, _, rfl, h1, Reps.takeR n h2⟩
theorem keysKD_v {H : Hp} {P : Addr → Prop} : ∀ {ds : List PV.D} {vs : List V} {ks : List Key}, Reps G H P ds vs → keysKD ds = some ks → vs = ks.map kV
  | [], vs, ks, h, e => by simp only [Reps] at h; simp only [keysKD, Option.some.injEq] at e; subst e h; rfl
  | d :: ds, vs, ks, h, e => by
    simp only [Reps] at h
    obtain ⟨v, r, rfl, h1, h2⟩ := h
    simp only [keysKD] at e
    cases e1 : keyK d with
    | none => rw [e1] at e; cases e
    | some k =>
      cases e2 : keysKD ds with
      | none => rw [e1, e2] at e; cases e
      | some ks' =>
        rw [e1, e2] at e
        cases e
        rw [keyK_v h1 e1, keysKD_v h2 e2]
        rfl
theorem mergeK_nodup : ∀ (more acc : List (Key × V)), (acc ++ more).map (·.1) |>.Nodup → mergeK acc more = acc ++ more
  | [], acc, _ => by simp [mergeK]
  | q :: more, acc, h => by
    have hn : valV acc q.1 = none := by
      cases e : valV acc q.1 with
      | none => rfl
      | some y =>
        exfalso
        have ha := valV_any q.1 acc
        rw [e] at ha
        obtain ⟨x, hx, hx2⟩ := List.any_eq_true.mp ha
        rw [List.map_append, List.nodup_append] at h
        exact h.2.2 x.1 (List.mem_map_of_mem hx) q.1 (List.mem_map_of_mem List.mem_cons_self) (of_decide_eq_true hx2)
    have step : mergeK acc (q :: more) = mergeK (putK acc q.1 q.2) more := rfl
    rw [step, putK_new q.2 hn, mergeK_nodup more (acc ++ [(q.1, q.2)]) (by simpa using h)]
    simp
def opDZip (t u : Tm) : Option Tm := match t, u with
  | .v _ (.lst xs), .v _ (.lst ys) => match keysKD xs with
    | some ks => if ks.length ≤ ys.length ∧ ks.Nodup then (match frz u with | some (.lst zs) => some (.v .O (.dK ks (zs.take ks.length))) | _ => none) else none
    | none => none
  | _, _ => none
def eDZip : Ev → Ev → Ev := eOp2 opDZip
theorem OuP.dkO {ks : List Key} {xs : List PV.D} {vs : List V} (h : OuP G W pr io σ s (.ok (.v .O (.dK ks xs)) s.ρ) Q) (r : SR G pr io σ s) (hd : Reps G s.H s.fz xs vs) (hl : ks.length = vs.length) {p : Addr} (hp : s.H p = none) : Q (.ref p) (upd s.H p (.dK (ks.zip vs))) := by
  have f := r.fresh hp
  refine h _ (s.new p (.dK (ks.zip vs))) [p] rfl (r.new hp _) (Ext.new hp _) ⟨?_, by simp, fun a ha => ?_⟩ fun a ha => ?_
  · show TmR _ _ _ _ _ _ _
    simp only [TmR, RepO]
    exact ⟨p, vs, rfl, rfl, by show upd _ _ _ _ = _; rw [upd_same], hl, Reps.keep (fun _ h => h) (fun a o _ e => by show upd _ _ _ _ = _; rw [upd_ne (ne_of_none e hp)]; exact e) (tk_new hp _) _ _ hd⟩
  · rw [List.mem_singleton] at ha; subst ha; exact f
  · rw [List.mem_singleton] at ha; subst ha; exact .inr hp
theorem v_dictZip (hc : X.calm = true) (hm : X.mg "dict" = none) (hm2 : X.mg "zip" = none) (ha : PEv X G W ios a ga) (hb : PEv X G W ios b gb) (hv : bootBuiltins "dict" = some (.type "dict") := by decide +kernel) (hg : Gl X "dict" := by rfl) (hg2 : Gl X "zip" := by rfl)
    (hs : starEach [a, b] X.env = (false, eval a X.env) :: starEach [b] X.env := by rfl) (hs2 : starEach [b] X.env = (false, eval b X.env) :: starEach [] X.env := by rfl) (hpl : (backTo pos2 (starEach [b] X.env)).any (·.1) = false := by rfl)
    (hs3 : starEach [.Call (.Name "zip" p2) [a, b] [] pos2] X.env = (false, eval (.Call (.Name "zip" p2) [a, b] [] pos2) X.env) :: starEach [] X.env := by rfl) :
    PEv X G W ios (.Call (.Name "dict" p) [.Call (.Name "zip" p2) [a, b] [] pos2] [] pos) (eDZip ga gb) :=
  pe_imp (pe_dictZip hc (pa_cons ha (pa_cons hb pa_nil hs2) hs) hg hm hg2 hm2 hv hs hpl hs3) fun σ H Q q => by
    show tEv G W ios ga σ H fun x H1 => tEv G W ios gb σ H1 fun y H2 => rDictZip X.K [x, y] H2 Q
    refine op2_end (f := opDZip) (r := fun x y H Q => rDictZip X.K [x, y] H Q) ?_ q
    intro pr io σ s x y tx ty t ox oy Q hr hx hy e q
    unfold opDZip at e
    split at e
    · rename_i k1 xs k2 ys
      split at e
      · rename_i ks hks
        split at e
        · rename_i hnd
          split at e
          · rename_i zs hz
            cases e
            have h1 := TmR.toD _ _ _ hx
            have h2 : TmR G s.H s.fz pr (.v .F (.lst zs)) y [] ∨ ∃ l vs, y = .ref l ∧ s.H l = some (.lst vs) ∧ Reps G s.H s.fz zs vs := by
              cases k2 with
              | F => simp only [frz, Option.some.injEq, D.lst.injEq] at hz; subst hz; simp only [TmR, Rep] at hy; obtain ⟨_, l, vs, rfl, _, h3, h4⟩ := hy; exact .inr ⟨l, vs, rfl, h3, h4⟩
              | O => simp only [frz, Option.some.injEq, D.lst.injEq] at hz; subst hz; simp only [TmR, RepO] at hy; obtain ⟨l, vs, rfl, _, h3, h4⟩ := hy; exact .inr ⟨l, vs, rfl, h3, h4⟩
              | B => simp [frz, flat] at hz
            obtain ⟨l2, vs2, rfl, h3, h4⟩ : ∃ l vs, y = .ref l ∧ s.H l = some (.lst vs) ∧ Reps G s.H s.fz zs vs := by
              rcases h2 with h2 | h2
              · simp only [TmR, Rep] at h2; obtain ⟨_, l, vs, rfl, _, h3, h4⟩ := h2; exact ⟨l, vs, rfl, h3, h4⟩
              · exact h2
            have hyz : ys.length = vs2.length := by
              have h5 := TmR.toD _ _ _ hy
              simp only [toD, Rep] at h5
              obtain ⟨l', vs', e1, _, e2, e3⟩ := h5
              cases e1
              rw [h3] at e2
              cases e2
              exact e3.len
            simp only [toD, Rep] at h1
            obtain ⟨l1, vs1, rfl, _, h5, h6⟩ := h1
            have ev := keysKD_v h6 hks
            subst ev
            refine ⟨l1, l2, ks, vs2, rfl, .of h5, .of h3, by rw [← hyz]; exact hnd.1, fun p hp => ?_⟩
            have hnodup : ((ks.zip vs2).map (·.1)).Nodup := by
              have : (ks.zip vs2).map (·.1) = ks := by rw [List.map_fst_zip]; rw [← hyz]; exact hnd.1
              rw [this]; exact hnd.2
            rw [mergeK_nodup (ks.zip vs2) [] (by simpa using hnodup), List.nil_append]
            have hz2 : ks.zip vs2 = ks.zip (vs2.take ks.length) := zip_take_self ks vs2
            rw [hz2]
            exact q.dkO hr (h4.takeR _) (by rw [List.length_take]; have := hnd.1; omega) hp
          · cases e
        · cases e
      · cases e
    · cases e
/-! ### len(set(xs)) -/
def lenSetD : PV.D → Option PV.D
  | .lst xs => match intsD xs with
    | some ns => if ns.length ≤ 4000 ∧ ns.Nodup then some (.int ns.length) else none
    | none => none
  | _ => none
def eLenSet : Ev → Ev := eOp1 (rd1 lenSetD)
theorem v_lenSet (hc : X.calm = true) (hm : X.mg "len" = none) (hm2 : X.mg "set" = none) (ha : PEv X G W ios a ga) (hg : Gl X "len" := by rfl) (hg2 : Gl X "set" := by rfl)
    (hs : starEach [a] X.env = (false, eval a X.env) :: starEach [] X.env := by rfl) : PEv X G W ios (.Call (.Name "len" p) [.Call (.Name "set" p2) [a] [] pos2] [] pos) (eLenSet ga) :=
  pe_imp (RZ.pe_lenSetI hg hm hg2 hm2 ha hc hs) fun σ H Q q => by
    refine op1_end (f := rd1 lenSetD) (r := fun x H Q => ∃ (l : Addr) (ns : List Int), x = .ref l ∧ SqL X.K H l (ns.map V.int) ∧ ns.Nodup ∧ ns.length ≤ 4000 ∧ Q (.int (ns.length : Nat)) H) (Rd1.op ?_) rfl q
    intro H x dx d Q hx e q
    cases dx <;> simp only [lenSetD, reduceCtorEq] at e
    rename_i xs
    simp only [Rep] at hx
    obtain ⟨l, vs, rfl, _, h1, h2⟩ := hx
    split at e
    · rename_i ns hns
      split at e
      · rename_i hl
        cases e
        rw [intsD_eq hns] at h2
        rw [reps_ints h2] at h1
        exact ⟨l, ns, rfl, .of h1, hl.2, hl.1, q _ fun P => by simp only [Rep]⟩
      · cases e
    · cases e
/-! ### d[k], keys of ints or texts, flat values -/
def opIdxD (t u : Tm) : Option Tm := match t, u with
  | .v _ (.dK ks xs), .v _ d => match keyK d with
    | some k => match lookD ks xs k with
      | some z => if flat z = true then some (.v .F z) else none
      | none => none
    | none => none
  | _, _ => none
def eIdxD : Ev → Ev → Ev := eOp2 opIdxD
theorem v_idxD {k : Nat} (hr : Room k X.A) (ha : PEv X G W ios a ga) (hb : PEv X G W ios b gb) (hs : NoSl b) : PEv X G W ios (.Subscript a b pos) (eIdxD ga gb) := pe_imp (pe_dget (by have := hr.un; omega) ha hb hs) fun σ H Q q => by
  refine op2_end (f := opIdxD) (r := fun x y H Q => ∃ a v, x = .ref a ∧ DGet H a y (some v) ∧ Q v H) ?_ q
  intro pr io σ s x y tx ty t ox oy Q hr hx hy e q
  cases tx <;> cases ty <;> simp only [opIdxD, reduceCtorEq] at e
  rename_i k d l d2
  cases d <;> simp only [reduceCtorEq] at e
  rename_i ks xs
  split at e
  · rename_i kk hk
    have hi : y = kV kk := keyK_v (TmR.toD _ _ _ hy) hk
    subst hi
    split at e
    · rename_i z hz
      split at e
      · rename_i hfl
        cases e
        have hx := TmR.toD _ _ _ hx
        simp only [toD, Rep] at hx
        obtain ⟨a, vs, rfl, _, h1, _, h2⟩ := hx
        obtain ⟨v, h3, h4⟩ := lookD_valV h2 hz
        have g : DGet s.H a (kV kk) (valV (ks.zip vs) kk) := DGet.k h1
        rw [h3] at g
        exact ⟨a, v, rfl, g, q.done hr (Rep.flat _ _ hfl h4)⟩
      · cases e
    · cases e
  · cases e
end
end PV

namespace PV
open PySem L2

/-! ### what a denotation answers: a small logic -/
abbrev PX := Er → Ss → Prop
def OuW (o : Ou) (P : Tm → Ss → Prop) (X : PX) : Prop := match o with
  | .ok t ρ => P t ρ
  | .ex e ρ => X e ρ
  | .no => False
def OlW (o : OuL) (P : List Tm → Ss → Prop) (X : PX) : Prop := match o with
  | .ok t ρ => P t ρ
  | .ex e ρ => X e ρ
  | .no => False
def FlW (o : Fl) (N : Ss → Prop) (R : Tm → Ss → Prop) (B C : Ss → Prop) (X : PX) : Prop := match o with
  | .nx ρ => N ρ
  | .rt t ρ => R t ρ
  | .bk ρ => B ρ
  | .ct ρ => C ρ
  | .ex e ρ => X e ρ
  | .no => False
def FoW (o : Fo) (P : Tm → List Tm → Prop) (X : Er → List Tm → Prop) : Prop := match o with
  | .ok t us => P t us
  | .ex e us => X e us
  | .no => False
@[irreducible] def EW (g : Ev) (ρ : Ss) (P : Tm → Ss → Prop) (X : PX) : Prop := OuW (g ρ) P X
@[irreducible] def AW (g : Ss → OuL) (ρ : Ss) (P : List Tm → Ss → Prop) (X : PX) : Prop := OlW (g ρ) P X
@[irreducible] def IW (g : Iv) (ρ : Ss) (P : List Tm → Ss → Prop) (X : PX) : Prop := OlW (g ρ) P X
@[irreducible] def SW (g : Sm) (ρ : Ss) (N : Ss → Prop) (R : Tm → Ss → Prop) (B C : Ss → Prop) (X : PX) : Prop := FlW (g ρ) N R B C X
@[irreducible] def FW (f : Fn) (ts : List Tm) (P : Tm → List Tm → Prop) (X : Er → List Tm → Prop) : Prop := FoW (f ts) P X
abbrev X0 : PX := fun _ _ => False
abbrev XF0 : Er → List Tm → Prop := fun _ _ => False
abbrev NoS : Ss → Prop := fun _ => False
section
variable {ρ : Ss} {P P' : Tm → Ss → Prop} {X X' : PX} {g ga gb gc : Ev} {gs : Ss → OuL} {N N' : Ss → Prop} {R R' : Tm → Ss → Prop} {B C B' C' : Ss → Prop} {t u : Tm} {PL PL' : List Tm → Ss → Prop}
theorem OuW.imp {o : Ou} (h : OuW o P X) (i : ∀ t ρ, P t ρ → P' t ρ) (j : ∀ e ρ, X e ρ → X' e ρ) : OuW o P' X' := by
  cases o with
  | ok t ρ => exact i _ _ h
  | ex e ρ => exact j _ _ h
  | no => exact h
theorem OuW.bind {o : Ou} {k : Tm → Ss → Ou} (h : OuW o (fun t ρ => OuW (k t ρ) P X) X) : OuW (o.bind k) P X := by
  cases o with
  | ok t ρ => exact h
  | ex e ρ => exact h
  | no => exact h
theorem OuW.bindL {o : Ou} {k : Tm → Ss → OuL} (h : OuW o (fun t ρ => OlW (k t ρ) PL X) X) : OlW (o.bindL k) PL X := by
  cases o with
  | ok t ρ => exact h
  | ex e ρ => exact h
  | no => exact h
theorem OlW.bind {o : OuL} {k : List Tm → Ss → Ou} (h : OlW o (fun t ρ => OuW (k t ρ) P X) X) : OuW (o.bind k) P X := by
  cases o with
  | ok t ρ => exact h
  | ex e ρ => exact h
  | no => exact h
theorem OlW.bindL {o : OuL} {k : List Tm → Ss → OuL} (h : OlW o (fun t ρ => OlW (k t ρ) PL X) X) : OlW (o.bindL k) PL X := by
  cases o with
  | ok t ρ => exact h
  | ex e ρ => exact h
  | no => exact h
theorem OuW.toF {o : Ou} {k : Tm → Ss → Fl} (h : OuW o (fun t ρ => FlW (k t ρ) N R B C X) X) : FlW (o.toF k) N R B C X := by
  cases o with
  | ok t ρ => exact h
  | ex e ρ => exact h
  | no => exact h
/-- from and to the plain equation -/
theorem EW.ok {ρ' : Ss} (h : g ρ = .ok t ρ') (p : P t ρ') : EW g ρ P X := by with_unfolding_all (unfold EW; rw [h]; exact p)
theorem EW.get (h : EW g ρ P X0) : ∃ t ρ', g ρ = .ok t ρ' ∧ P t ρ' := by
  with_unfolding_all
    unfold EW at h
    cases e : g ρ with
    | ok t ρ' => rw [e] at h; exact ⟨t, ρ', rfl, h⟩
    | ex e' ρ' => rw [e] at h; exact h.elim
    | no => rw [e] at h; exact h.elim
theorem EW.imp (h : EW g ρ P X) (i : ∀ t ρ, P t ρ → P' t ρ) : EW g ρ P' X := by with_unfolding_all exact (OuW.imp h i fun _ _ h => h)
/-! names and constants -/
theorem EW.c {d : D} (p : P (.v .F d) ρ) : EW (eC d) ρ P X := by with_unfolding_all exact (p)
theorem EW.n (p : P (.v .F .non) ρ) : EW eN ρ P X := by with_unfolding_all exact (p)
theorem EW.tr (p : P (.v .F (.bl true)) ρ) : EW eTrue ρ P X := by with_unfolding_all exact (p)
/-! shared, moved -/
/-- what eF makes of a value in flight -/
@[irreducible] def FzW (t : Tm) (ρ : Ss) (P : Tm → Ss → Prop) : Prop := OuW (eF1 t ρ) P X0
theorem OuW.x0 {o : Ou} (h : OuW o P X0) : OuW o P X := OuW.imp h (fun _ _ h => h) fun _ _ h => h.elim
theorem EW.fz (h : EW g ρ (fun t ρ1 => FzW t ρ1 P) X) : EW (eF g) ρ P X := by
  with_unfolding_all
    unfold EW
    rw [ef_eq]
    exact OuW.bind (OuW.imp h (fun _ _ h => h.x0) fun _ _ h => h)
theorem FzW.F {d : D} (p : P (.v .F d) ρ) : FzW (.v .F d) ρ P := by with_unfolding_all (unfold FzW; rw [ef1_F]; exact p)
theorem FzW.O {d : D} (p : P (.v .F d) ρ) : FzW (.v .O d) ρ P := by with_unfolding_all (unfold FzW; rw [ef1_O]; exact p)
theorem FzW.Bx {d : D} (hf : flat d = true) (p : P (.v .F d) ρ) : FzW (.v .B d) ρ P := by
  with_unfolding_all
    unfold FzW eF1
    simp only [frz_B, hf, if_true]
    exact p
theorem FzW.loc {i : Nat} {d : D} {ρ' : Ss} (h : ρ[i]? = some (some (.v .O d))) (hs : ρ.set i (some (.v .F d)) = ρ') (p : P (.v .F d) ρ') : FzW (.loc i) ρ P := by
  with_unfolding_all
    unfold FzW eF1
    subst hs
    simp only [h, frz_O]
    exact p
@[irreducible] def MvW (t : Tm) (ρ : Ss) (P : Tm → Ss → Prop) : Prop := OuW (eM1 t ρ) P X0
theorem EW.mv (h : EW g ρ (fun t ρ1 => MvW t ρ1 P) X) : EW (eM g) ρ P X := by
  with_unfolding_all
    unfold EW
    rw [em_eq]
    exact OuW.bind (OuW.imp h (fun _ _ h => h.x0) fun _ _ h => h)
theorem MvW.v {k : Kd} {d : D} (p : P (.v k d) ρ) : MvW (.v k d) ρ P := by with_unfolding_all exact (p)
theorem MvW.loc {i : Nat} {t0 : Tm} {ρ' : Ss} (h : ρ[i]? = some (some t0)) (hs : ρ.set i none = ρ') (p : P t0 ρ') : MvW (.loc i) ρ P := by
  with_unfolding_all
    unfold MvW eM1
    subst hs
    simp only [h]
    exact p

/-! the data behind a term -/
def Is (ρ : Ss) (t : Tm) (k : Kd) (d : D) : Prop := derT ρ t = some (.v k d)
theorem Is.v {k : Kd} {d : D} : Is ρ (.v k d) k d := rfl
theorem Is.loc {i : Nat} {k : Kd} {d : D} (h : ρ[i]? = some (some (.v k d))) : Is ρ (.loc i) k d := by simp only [Is, derT, h]
def O1W (f : Tm → Option Tm) (t : Tm) (ρ : Ss) (P : Tm → Ss → Prop) : Prop := ∃ x r, derT ρ t = some x ∧ f x = some r ∧ P r ρ
def O2W (f : Tm → Tm → Option Tm) (t u : Tm) (ρ : Ss) (P : Tm → Ss → Prop) : Prop := ∃ x y r, derT ρ t = some x ∧ derT ρ u = some y ∧ f x y = some r ∧ P r ρ
theorem EW.op1 {f : Tm → Option Tm} (h : EW g ρ (fun t ρ1 => O1W f t ρ1 P) X) : EW (eOp1 f g) ρ P X := by
  with_unfolding_all
    unfold EW
    rw [op1_eq]
    refine OuW.bind (OuW.imp h (fun t ρ1 h => ?_) fun _ _ h => h)
    obtain ⟨x, r, h1, h2, h3⟩ := h
    rw [h1, Option.bind_some, h2]
    exact h3
theorem EW.op2 {f : Tm → Tm → Option Tm} (h : EW ga ρ (fun t ρ1 => EW gb ρ1 (fun u ρ2 => O2W f t u ρ2 P) X) X) : EW (eOp2 f ga gb) ρ P X := by
  with_unfolding_all
    unfold EW
    rw [op2_eq]
    refine OuW.bind (OuW.imp h (fun t ρ1 h => OuW.bind (OuW.imp h (fun u ρ2 h => ?_) fun _ _ h => h)) fun _ _ h => h)
    obtain ⟨x, y, r, h1, h2, h3, h4⟩ := h
    rw [h1, h2, Option.bind_some, Option.bind_some, h3]
    exact h4
theorem rd1_is {f : D → Option D} {d r : D} {k : Kd} (ht : Is ρ t k d) (h : f d = some r) (p : P (.v .F r) ρ) : O1W (rd1 f) t ρ P := ⟨_, _, ht, by simp only [rd1, toD_v, h, Option.map_some], p⟩
theorem rd2_is {f : D → D → Option D} {d e r : D} {k l : Kd} (ht : Is ρ t k d) (hu : Is ρ u l e) (h : f d e = some r) (p : P (.v .F r) ρ) : O2W (rd2 f) t u ρ P := ⟨_, _, _, ht, hu, by simp only [rd2, toD_v, h, Option.map_some], p⟩
/-- two ints -/
def IIW (t u : Tm) (ρ : Ss) (K : Int → Int → Prop) : Prop := ∃ i j k l, Is ρ t k (.int i) ∧ Is ρ u l (.int j) ∧ K i j
theorem IIW.go {i j : Int} {k l : Kd} {K : Int → Int → Prop} (h1 : Is ρ t k (.int i)) (h2 : Is ρ u l (.int j)) (h : K i j) : IIW t u ρ K := ⟨i, j, k, l, h1, h2, h⟩
def I1W (t : Tm) (ρ : Ss) (K : Int → Prop) : Prop := ∃ i k, Is ρ t k (.int i) ∧ K i
theorem I1W.go {i : Int} {k : Kd} {K : Int → Prop} (h1 : Is ρ t k (.int i)) (h : K i) : I1W t ρ K := ⟨i, k, h1, h⟩
theorem ii_op {f : Int → Int → Option Int} {r : Int → Int → Int} (h : IIW t u ρ fun i j => f i j = some (r i j) ∧ P (.v .F (.int (r i j))) ρ) : O2W (rd2 (dI2 f)) t u ρ P := by
  obtain ⟨i, j, k, l, h1, h2, h3, h4⟩ := h
  exact rd2_is h1 h2 (by simp only [dI2, h3, Option.map_some]) h4
theorem ii_cmp {f : Int → Int → Bool} (h : IIW t u ρ fun i j => P (.v .F (.bl (f i j))) ρ) : O2W (rd2 (dC2 f)) t u ρ P := by
  obtain ⟨i, j, k, l, h1, h2, h3⟩ := h
  exact rd2_is h1 h2 rfl h3
abbrev E2W (ga gb : Ev) (ρ : Ss) (X : PX) (K : Tm → Tm → Ss → Prop) : Prop := EW ga ρ (fun t ρ1 => EW gb ρ1 (fun u ρ2 => K t u ρ2) X) X
theorem E2W.imp {K K' : Tm → Tm → Ss → Prop} (h : E2W ga gb ρ X K) (i : ∀ t u ρ, K t u ρ → K' t u ρ) : E2W ga gb ρ X K' := by with_unfolding_all exact (EW.imp h fun _ _ h => EW.imp h fun _ _ h => i _ _ _ h)
theorem EW.sub (h : EW ga ρ (fun t ρ1 => EW gb ρ1 (fun u ρ2 => IIW t u ρ2 fun i j => P (.v .F (.int (i - j))) ρ2) X) X) : EW (eSub ga gb) ρ P X := by with_unfolding_all exact (EW.op2 (E2W.imp h fun t u ρ h => ii_op (r := fun i j => i - j) (by obtain ⟨i, j, k, l, h1, h2, h3⟩ := h; exact ⟨i, j, k, l, h1, h2, rfl, h3⟩)))
theorem EW.mod (h : EW ga ρ (fun t ρ1 => EW gb ρ1 (fun u ρ2 => IIW t u ρ2 fun i j => 0 < j ∧ P (.v .F (.int (i % j))) ρ2) X) X) : EW (eMod ga gb) ρ P X := by with_unfolding_all exact (EW.op2 (E2W.imp h fun t u ρ h => ii_op (r := fun i j => i % j) (by obtain ⟨i, j, k, l, h1, h2, h3, h4⟩ := h; exact ⟨i, j, k, l, h1, h2, by unfold modI; rw [if_pos h3], h4⟩)))
theorem EW.div (h : EW ga ρ (fun t ρ1 => EW gb ρ1 (fun u ρ2 => IIW t u ρ2 fun i j => (0 < j ∧ j < 1073741824) ∧ P (.v .F (.int (i / j))) ρ2) X) X) : EW (eDiv ga gb) ρ P X := by with_unfolding_all exact (EW.op2 (E2W.imp h fun t u ρ h => ii_op (r := fun i j => i / j) (by obtain ⟨i, j, k, l, h1, h2, h3, h4⟩ := h; exact ⟨i, j, k, l, h1, h2, by unfold divI; rw [if_pos h3], h4⟩)))
theorem EW.max2 (h : EW ga ρ (fun t ρ1 => EW gb ρ1 (fun u ρ2 => IIW t u ρ2 fun i j => P (.v .F (.int (max i j))) ρ2) X) X) : EW (eMax2 ga gb) ρ P X := by with_unfolding_all exact (EW.op2 (E2W.imp h fun t u ρ h => ii_op (r := fun i j => max i j) (by obtain ⟨i, j, k, l, h1, h2, h3⟩ := h; exact ⟨i, j, k, l, h1, h2, by congr 1; split <;> omega, h3⟩)))
theorem EW.min2 (h : EW ga ρ (fun t ρ1 => EW gb ρ1 (fun u ρ2 => IIW t u ρ2 fun i j => P (.v .F (.int (min i j))) ρ2) X) X) : EW (eMin2 ga gb) ρ P X := by with_unfolding_all exact (EW.op2 (E2W.imp h fun t u ρ h => ii_op (r := fun i j => min i j) (by obtain ⟨i, j, k, l, h1, h2, h3⟩ := h; exact ⟨i, j, k, l, h1, h2, by congr 1; split <;> omega, h3⟩)))
theorem EW.lt (h : EW ga ρ (fun t ρ1 => EW gb ρ1 (fun u ρ2 => IIW t u ρ2 fun i j => P (.v .F (.bl (decide (i < j)))) ρ2) X) X) : EW (eLt ga gb) ρ P X := by with_unfolding_all exact (EW.op2 (E2W.imp h fun _ _ _ h => ii_cmp h))
theorem EW.gt (h : EW ga ρ (fun t ρ1 => EW gb ρ1 (fun u ρ2 => IIW t u ρ2 fun i j => P (.v .F (.bl (decide (j < i)))) ρ2) X) X) : EW (eGt ga gb) ρ P X := by with_unfolding_all exact (EW.op2 (E2W.imp h fun _ _ _ h => ii_cmp h))
theorem EW.ge (h : EW ga ρ (fun t ρ1 => EW gb ρ1 (fun u ρ2 => IIW t u ρ2 fun i j => P (.v .F (.bl (decide (j ≤ i)))) ρ2) X) X) : EW (eGe ga gb) ρ P X := by with_unfolding_all exact (EW.op2 (E2W.imp h fun _ _ _ h => ii_cmp h))
/-- the sums: ints, texts, lists, tuples -/
def AddW (t u : Tm) (ρ : Ss) (P : Tm → Ss → Prop) : Prop := O2W opAdd t u ρ P
theorem EW.add (h : EW ga ρ (fun t ρ1 => EW gb ρ1 (fun u ρ2 => AddW t u ρ2 P) X) X) : EW (eAdd ga gb) ρ P X := by with_unfolding_all exact (EW.op2 h)
theorem AddW.ii {i j : Int} {k l : Kd} (h1 : Is ρ t k (.int i)) (h2 : Is ρ u l (.int j)) (p : P (.v .F (.int (i + j))) ρ) : AddW t u ρ P := ⟨_, _, _, h1, h2, rfl, p⟩
def MulW (t u : Tm) (ρ : Ss) (P : Tm → Ss → Prop) : Prop := O2W opMul t u ρ P
theorem EW.mul (h : EW ga ρ (fun t ρ1 => EW gb ρ1 (fun u ρ2 => MulW t u ρ2 P) X) X) : EW (eMul ga gb) ρ P X := by with_unfolding_all exact (EW.op2 h)
theorem MulW.ii {i j : Int} {k l : Kd} (h1 : Is ρ t k (.int i)) (h2 : Is ρ u l (.int j)) (hb : (-18446744073709551616 < i ∧ i < 18446744073709551616) ∨ (-18446744073709551616 < j ∧ j < 18446744073709551616)) (p : P (.v .F (.int (i * j))) ρ) : MulW t u ρ P := by
  have hb : (-(2 ^ 64) < i ∧ i < 2 ^ 64) ∨ (-(2 ^ 64) < j ∧ j < 2 ^ 64) := hb
  exact ⟨_, _, _, h1, h2, by simp only [opMul, mulV, mulI, if_pos hb, Option.map_some], p⟩

/-! arguments -/
theorem AW.nil (p : PL [] ρ) : AW gNil ρ PL X := by with_unfolding_all exact (p)
theorem AW.cons (h : EW g ρ (fun t ρ1 => AW gs ρ1 (fun ts ρ2 => PL (t :: ts) ρ2) X) X) : AW (gCons g gs) ρ PL X := by
  with_unfolding_all
    unfold AW
    rw [gcons_eq]
    exact OuW.bindL (OuW.imp h (fun _ _ h => OlW.bindL h) fun _ _ h => h)
def FzsW (ts : List Tm) (K : List D → Prop) : Prop := ∃ ds, frzs ts = some ds ∧ K ds
theorem FzsW.nil {K : List D → Prop} (h : K []) : FzsW [] K := ⟨[], frzs_nil, h⟩
theorem FzsW.F {K : List D → Prop} {d : D} {ts : List Tm} (h : FzsW ts fun ds => K (d :: ds)) : FzsW (.v .F d :: ts) K := by
  obtain ⟨ds, e, h⟩ := h
  exact ⟨d :: ds, by simp only [frzs_cons, frz_F, e, Option.bind_some, Option.map_some], h⟩
theorem FzsW.O {K : List D → Prop} {d : D} {ts : List Tm} (h : FzsW ts fun ds => K (d :: ds)) : FzsW (.v .O d :: ts) K := by
  obtain ⟨ds, e, h⟩ := h
  exact ⟨d :: ds, by simp only [frzs_cons, frz_O, e, Option.bind_some, Option.map_some], h⟩
theorem OlW.imp {o : OuL} (h : OlW o PL X) (i : ∀ t ρ, PL t ρ → PL' t ρ) : OlW o PL' X := by
  cases o with
  | ok t ρ => exact i _ _ h
  | ex e ρ => exact h
  | no => exact h
theorem EW.tup (h : AW gs ρ (fun ts ρ1 => FzsW ts fun ds => ds.length ≤ sizeLine ∧ P (.v .F (.tup ds)) ρ1) X) : EW (eTup gs) ρ P X := by
  with_unfolding_all
    unfold EW
    rw [etup_eq]
    refine OlW.bind (OlW.imp h fun ts ρ1 h => ?_)
    obtain ⟨ds, e, hl, p⟩ := h
    simp only [e, if_pos hl]
    exact p
theorem EW.lst (h : AW gs ρ (fun ts ρ1 => FzsW ts fun ds => ds.length ≤ sizeLine ∧ P (.v .O (.lst ds)) ρ1) X) : EW (eLst gs) ρ P X := by
  with_unfolding_all
    unfold EW
    rw [elst_eq]
    refine OlW.bind (OlW.imp h fun ts ρ1 h => ?_)
    obtain ⟨ds, e, hl, p⟩ := h
    simp only [e, if_pos hl]
    exact p
/-! statements -/
theorem SW.seq {g1 g2 : Sm} (h : SW g1 ρ (fun ρ1 => SW g2 ρ1 N R B C X) R B C X) : SW (sSeq g1 g2) ρ N R B C X := by
  with_unfolding_all
    unfold SW at h ⊢
    rw [seq_eq]
    cases e : g1 ρ <;> rw [e] at h <;> exact h
theorem SW.imp {g1 : Sm} (h : SW g1 ρ N R B C X) (i : ∀ ρ, N ρ → N' ρ) : SW g1 ρ N' R B C X := by
  with_unfolding_all
    unfold SW at h ⊢
    cases e : g1 ρ <;> rw [e] at h <;> first | exact i _ h | exact h
theorem SW.nil (h : N ρ) : SW sNil ρ N R B C X := by with_unfolding_all exact (h)
theorem SW.brk (h : B ρ) : SW sBreak ρ N R B C X := by with_unfolding_all exact (h)
theorem SW.ret (h : EW g ρ R X) : SW (sRet g) ρ N R B C X := by with_unfolding_all exact (OuW.toF (OuW.imp h (fun _ _ h => h) fun _ _ h => h))
theorem SW.expr (h : EW g ρ (fun _ ρ1 => N ρ1) X) : SW (sExpr g) ρ N R B C X := by with_unfolding_all exact (OuW.toF (OuW.imp h (fun _ _ h => h) fun _ _ h => h))
theorem SW.set {i : Nat} (h : EW g ρ (fun t ρ1 => isLoc t = false ∧ i < ρ1.length ∧ ∃ ρ2, ρ1.set i (some t) = ρ2 ∧ N ρ2) X) : SW (sSet i g) ρ N R B C X := by
  with_unfolding_all
    unfold SW
    rw [sset_eq]
    refine OuW.toF (OuW.imp h (fun t ρ1 h => ?_) fun _ _ h => h)
    obtain ⟨h1, h2, _, rfl, h3⟩ := h
    rw [if_pos ⟨h1, h2⟩]
    exact h3
/-- a test's two ways -/
def BoW (t : Tm) (T F : Prop) : Prop := ∃ b, asB t = some b ∧ (b = true → T) ∧ (b = false → F)
theorem BoW.tt {k : Kd} {T F : Prop} (h : T) : BoW (.v k (.bl true)) T F := ⟨true, rfl, fun _ => h, fun z => by cases z⟩
theorem BoW.ff {k : Kd} {T F : Prop} (h : F) : BoW (.v k (.bl false)) T F := ⟨false, rfl, fun z => by (cases z), fun _ => h⟩
theorem BoW.d {k : Kd} {T F : Prop} {p : Prop} [Decidable p] (h1 : p → T) (h2 : ¬ p → F) : BoW (.v k (.bl (decide p))) T F := ⟨_, rfl, fun z => h1 (of_decide_eq_true z), fun z => h2 (of_decide_eq_false z)⟩
theorem BoW.b {k : Kd} {T F : Prop} {b : Bool} (h1 : b = true → T) (h2 : b = false → F) : BoW (.v k (.bl b)) T F := ⟨_, rfl, h1, h2⟩
theorem BoW.of {t : Tm} {T F : Prop} (h : BoW t T F) : ∃ b, asB t = some b ∧ (if b = true then T else F) := by
  obtain ⟨b, e, h1, h2⟩ := h
  refine ⟨b, e, ?_⟩
  cases b with
  | true => exact h1 rfl
  | false => exact h2 rfl
theorem SW.ite {g1 g2 : Sm} (h : EW gc ρ (fun t ρ1 => BoW t (SW g1 ρ1 N R B C X) (SW g2 ρ1 N R B C X)) X) : SW (sIf gc g1 g2) ρ N R B C X := by
  with_unfolding_all
    unfold SW
    rw [sif_eq]
    refine OuW.toF (OuW.imp h (fun t ρ1 h => ?_) fun _ _ h => h)
    obtain ⟨b, e, h⟩ := h.of
    rw [e, iteT_some]
    cases b <;> exact h
theorem EW.ifx (h : EW gc ρ (fun t ρ1 => BoW t (EW ga ρ1 P X) (EW gb ρ1 P X)) X) : EW (eIf gc ga gb) ρ P X := by
  with_unfolding_all
    unfold EW
    rw [eif_eq]
    refine OuW.bind (OuW.imp h (fun t ρ1 h => ?_) fun _ _ h => h)
    obtain ⟨b, e, h⟩ := h.of
    rw [e, iteT_some]
    cases b <;> exact h
theorem EW.and (h : EW ga ρ (fun t ρ1 => BoW t (EW gb ρ1 P X) (P (.v .F (.bl false)) ρ1)) X) : EW (eAnd ga gb) ρ P X := by
  with_unfolding_all
    unfold EW
    rw [eand_eq]
    refine OuW.bind (OuW.imp h (fun t ρ1 h => ?_) fun _ _ h => h)
    obtain ⟨b, e, h⟩ := h.of
    rw [e, iteT_some]
    cases b <;> exact h
theorem EW.or (h : EW ga ρ (fun t ρ1 => BoW t (P (.v .F (.bl true)) ρ1) (EW gb ρ1 P X)) X) : EW (eOr ga gb) ρ P X := by
  with_unfolding_all
    unfold EW
    rw [eor_eq]
    refine OuW.bind (OuW.imp h (fun t ρ1 h => ?_) fun _ _ h => h)
    obtain ⟨b, e, h⟩ := h.of
    rw [e, iteT_some]
    cases b <;> exact h
def NotW (t : Tm) (ρ : Ss) (P : Tm → Ss → Prop) : Prop := ∃ b, asB t = some b ∧ P (.v .F (.bl (!b))) ρ
theorem EW.not (h : EW g ρ (fun t ρ1 => NotW t ρ1 P) X) : EW (eNot g) ρ P X := by
  with_unfolding_all
    unfold EW
    rw [enot_eq]
    refine OuW.bind (OuW.imp h (fun t ρ1 h => ?_) fun _ _ h => h)
    obtain ⟨b, e, h⟩ := h
    rw [e]
    exact h
theorem NotW.b {k : Kd} {b : Bool} (h : P (.v .F (.bl (!b))) ρ) : NotW (.v k (.bl b)) ρ P := ⟨b, rfl, h⟩
theorem NotW.d {k : Kd} {p : Prop} [Decidable p] (h : P (.v .F (.bl (decide (¬ p)))) ρ) : NotW (.v k (.bl (decide p))) ρ P := ⟨_, rfl, by rw [← decide_not]; exact h⟩

/-! targets, loops -/
def TW (tg : Tg) (t : Tm) (ρ : Ss) (N : Ss → Prop) : Prop := ∃ ρ1, tg t ρ = some ρ1 ∧ N ρ1
def TsW (tg : Tgs) (ts : List Tm) (ρ : Ss) (N : Ss → Prop) : Prop := ∃ ρ1, tg ts ρ = some ρ1 ∧ N ρ1
theorem TW.n {i : Nat} {ρ2 : Ss} (h1 : isLoc t = false) (h2 : i < ρ.length) (h3 : ρ.set i (some t) = ρ2) (h : N ρ2) : TW (tgN i) t ρ N := ⟨_, by rw [tgN_eq, if_pos ⟨h1, h2⟩, h3], h⟩
theorem TsW.nil (h : N ρ) : TsW tgsNil [] ρ N := ⟨_, rfl, h⟩
theorem TsW.cons {tg : Tg} {tgs : Tgs} {ts : List Tm} (h : TW tg t ρ fun ρ1 => TsW tgs ts ρ1 N) : TsW (tgsCons tg tgs) (t :: ts) ρ N := by
  obtain ⟨ρ1, e, ρ2, e2, h⟩ := h
  exact ⟨ρ2, by rw [tgsCons_eq, e]; exact e2, h⟩
theorem TW.tp {tgs : Tgs} {ts : List Tm} (h : TsW tgs ts ρ N) : TW (tgTup tgs) (.tp ts) ρ N := h
theorem SW.asg {tg : Tg} (h : EW g ρ (fun t ρ1 => TW tg t ρ1 N) X) : SW (sAsg tg g) ρ N R B C X := by
  with_unfolding_all
    unfold SW
    rw [sasg_eq]
    refine OuW.toF (OuW.imp h (fun t ρ1 h => ?_) fun _ _ h => h)
    obtain ⟨ρ2, e, h⟩ := h
    rw [e]
    exact h
def ItsW (t : Tm) (K : List Tm → Prop) : Prop := ∃ ts, itemsT t = some ts ∧ K ts
theorem ItsW.lstF {xs : List D} {K : List Tm → Prop} (h : K (xs.map (Tm.v .F))) : ItsW (.v .F (.lst xs)) K := ⟨_, rfl, h⟩
theorem ItsW.lstB {xs : List D} {K : List Tm → Prop} (h : K (xs.map (Tm.v .B))) : ItsW (.v .B (.lst xs)) K := ⟨_, rfl, h⟩
theorem ItsW.tupB {xs : List D} {K : List Tm → Prop} (h : K (xs.map (Tm.v .B))) : ItsW (.v .B (.tup xs)) K := ⟨_, rfl, h⟩
theorem ItsW.lstO {xs : List D} {K : List Tm → Prop} (h : K (xs.map (Tm.v .F))) : ItsW (.v .O (.lst xs)) K := ⟨_, rfl, h⟩
theorem IW.seq (h : EW g ρ (fun t ρ1 => ItsW t fun ts => PL ts ρ1) X) : IW (itSeq g) ρ PL X := by
  with_unfolding_all
    unfold IW itSeq
    refine OuW.bindL (OuW.imp h (fun t ρ1 h => ?_) fun _ _ h => h)
    obtain ⟨ts, e, h⟩ := h
    rw [e]
    exact h
def R1W (t : Tm) (K : Int → Prop) : Prop := ∃ j, asI t = some j ∧ (-(2 ^ 62) ≤ j ∧ j < 2 ^ 62) ∧ K j
theorem R1W.go {k : Kd} {j : Int} {K : Int → Prop} (hb : -4611686018427387904 ≤ j ∧ j < 4611686018427387904) (h : K j) : R1W (.v k (.int j)) K := ⟨j, rfl, by exact hb, h⟩
theorem IW.r1 (h : EW g ρ (fun t ρ1 => R1W t fun j => PL (rngL 0 j.toNat) ρ1) X) : IW (itR1 g) ρ PL X := by
  with_unfolding_all
    unfold IW itR1
    refine OuW.bindL (OuW.imp h (fun t ρ1 h => ?_) fun _ _ h => h)
    obtain ⟨j, e, hb, h⟩ := h
    rw [e]
    dsimp only
    rw [if_pos hb]
    exact h
@[irreducible] def ForW (tg : Tg) (body : Sm) (ts : List Tm) (ρ : Ss) (N : Ss → Prop) (R : Tm → Ss → Prop) (X : PX) : Prop := FlW (forL tg body ts ρ) N R NoS NoS X
theorem SW.for {it : Iv} {tg : Tg} {body : Sm} (h : IW it ρ (fun ts ρ1 => ForW tg body ts ρ1 N R X) X) : SW (sFor it tg body) ρ N R B C X := by
  with_unfolding_all
    unfold SW sFor
    unfold IW at h
    cases e : it ρ with
    | ok ts ρ1 =>
      rw [e] at h
      dsimp only
      have h : ForW tg body ts ρ1 N R X := h
      unfold ForW at h
      cases e2 : forL tg body ts ρ1 <;> rw [e2] at h <;> first | exact h | exact h.elim
    | ex e' ρ1 => rw [e] at h; exact h
    | no => rw [e] at h; exact h
theorem ForW.nil {tg : Tg} {body : Sm} (h : N ρ) : ForW tg body [] ρ N R X := by with_unfolding_all exact (h)
theorem ForW.cons {tg : Tg} {body : Sm} {ts : List Tm} (h : TW tg t ρ fun ρ1 => SW body ρ1 (fun ρ2 => ForW tg body ts ρ2 N R X) R N (fun ρ2 => ForW tg body ts ρ2 N R X) X) : ForW tg body (t :: ts) ρ N R X := by
  with_unfolding_all
    obtain ⟨ρ1, e, h⟩ := h
    unfold ForW
    unfold SW at h
    simp only [forL, e]
    cases e2 : body ρ1 <;> rw [e2] at h <;> exact h
/-- a loop by what holds after each item -/
theorem ForW.inv {α : Type} {inj : α → Tm} {tg : Tg} {body : Sm} (I : List α → Ss → Prop) : ∀ (xs : List α) (pre : List α) {ρ : Ss}, I pre ρ →
    (∀ a p x q ρ, a = pre ++ xs → a = p ++ x :: q → I p ρ → TW tg (inj x) ρ fun ρ1 => SW body ρ1 (fun ρ2 => I (p ++ [x]) ρ2) R N (fun ρ2 => I (p ++ [x]) ρ2) X) → (∀ ρ, I (pre ++ xs) ρ → N ρ) → ForW tg body (xs.map inj) ρ N R X
  | [], pre, ρ, h0, hs, he => by with_unfolding_all exact (he ρ (by rw [List.append_nil]; exact h0))
  | x :: xs, pre, ρ, h0, hs, he => by
    with_unfolding_all
      refine ForW.cons ?_
      obtain ⟨ρ1, e1, h1⟩ := hs _ pre x xs ρ rfl rfl h0
      refine ⟨ρ1, e1, ?_⟩
      have go : ∀ ρ2, I (pre ++ [x]) ρ2 → ForW tg body (xs.map inj) ρ2 N R X := fun ρ2 h2 => ForW.inv I xs (pre ++ [x]) h2 (fun a p y q ρ ha hp => hs a p y q ρ (by rw [ha, List.append_assoc]; rfl) hp) (fun ρ h => he ρ (by rw [List.append_assoc] at h; exact h))
      unfold SW at h1
      show FlW (body ρ1) _ _ _ _ _
      cases e2 : body ρ1 <;> rw [e2] at h1 <;> first | exact go _ h1 | exact h1
/-- by the number of items done -/
theorem ForW.num {tg : Tg} {body : Sm} (I : Nat → Ss → Prop) : ∀ (ts : List Tm) (n : Nat) {ρ : Ss}, I n ρ →
    (∀ i t ρ, ts[i]? = some t → I (n + i) ρ → TW tg t ρ fun ρ1 => SW body ρ1 (fun ρ2 => I (n + i + 1) ρ2) R N (fun ρ2 => I (n + i + 1) ρ2) X) → (∀ ρ, I (n + ts.length) ρ → N ρ) → ForW tg body ts ρ N R X
  | [], n, ρ, h0, hs, he => by with_unfolding_all exact (he ρ h0)
  | t :: ts, n, ρ, h0, hs, he => by
    with_unfolding_all
      refine ForW.cons ?_
      obtain ⟨ρ1, e1, h1⟩ := hs 0 t ρ rfl h0
      refine ⟨ρ1, e1, ?_⟩
      have go : ∀ ρ2, I (n + 1) ρ2 → ForW tg body ts ρ2 N R X := fun ρ2 h2 => ForW.num I ts (n + 1) h2 (fun i u ρ hu hI => by
        have := hs (i + 1) u ρ (by simpa using hu) (by rw [show n + (i + 1) = n + 1 + i by omega]; exact hI)
        rw [show n + (i + 1) + 1 = n + 1 + i + 1 by omega] at this
        exact this) (fun ρ h => he ρ (by rw [List.length_cons, show n + (ts.length + 1) = n + 1 + ts.length by omega]; exact h))
      unfold SW at h1
      show FlW (body ρ1) _ _ _ _ _
      cases e2 : body ρ1 <;> rw [e2] at h1 <;> first | exact go _ h1 | exact h1
end
/-! comprehensions -/
section
variable {ρ : Ss} {P P' : Tm → Ss → Prop} {X X' : PX} {test elt : Ev} {tg : Tg} {vs : List Nat} {it : Iv}
def CoW (tg : Tg) (test elt : Ev) (vs : List Nat) (ts : List Tm) (ρ : Ss) (K : List D → Ss → Prop) : Prop := ∃ ds ρ', compL tg test elt vs ts ρ = some (ds, ρ') ∧ K ds ρ'
theorem EW.comp (h : IW it ρ (fun ts ρ1 => vs.all (hideOk ρ1) = true ∧ CoW tg test elt vs ts ρ1 fun ds ρ2 => ds.length ≤ sizeLine ∧ ∃ ρ3, restS ρ1 ρ2 vs = ρ3 ∧ P (.v .O (.lst ds)) ρ3) X) : EW (eComp it vs tg test elt) ρ P X := by
  with_unfolding_all
    unfold EW eComp
    unfold IW at h
    cases e : it ρ with
    | ok ts ρ1 =>
      rw [e] at h
      obtain ⟨h1, ds, ρ2, h2, h3, _, rfl, h4⟩ := h
      dsimp only
      rw [if_pos h1, h2]
      dsimp only
      rw [if_pos h3]
      exact h4
    | ex e' ρ1 => rw [e] at h; exact h
    | no => rw [e] at h; exact h
theorem CoW.nil {K : List D → Ss → Prop} {ρ1 : Ss} (hw : wipeS ρ vs = ρ1) (h : K [] ρ1) : CoW tg test elt vs [] ρ K := ⟨[], _, by simp only [compL, hw], h⟩
def FzD (t : Tm) (K : D → Prop) : Prop := ∃ d, frz t = some d ∧ K d
theorem FzD.F {d : D} {K : D → Prop} (h : K d) : FzD (.v .F d) K := ⟨d, frz_F, h⟩
theorem FzD.O {d : D} {K : D → Prop} (h : K d) : FzD (.v .O d) K := ⟨d, frz_O, h⟩
theorem CoW.cons {K : List D → Ss → Prop} {t : Tm} {ts : List Tm} {ρ1 : Ss} (hw : wipeS ρ vs = ρ1)
    (h : TW tg t ρ1 fun ρ2 => EW test ρ2 (fun b ρ3 => BoW b (EW elt ρ3 (fun x ρ4 => FzD x fun d => CoW tg test elt vs ts ρ4 fun ds ρ5 => K (d :: ds) ρ5) X0) (CoW tg test elt vs ts ρ3 K)) X0) : CoW tg test elt vs (t :: ts) ρ K := by
  with_unfolding_all
    obtain ⟨ρ2, e2, h⟩ := h
    obtain ⟨b, ρ3, e3, h⟩ := EW.get h
    obtain ⟨bb, eb, h⟩ := h.of
    subst hw
    cases bb with
    | true =>
      obtain ⟨x, ρ4, e4, d, e5, ds, ρ5, e6, h⟩ := EW.get h
      exact ⟨d :: ds, ρ5, by simp only [compL, e2, e3, eb, e4, e5, e6], h⟩
    | false =>
      obtain ⟨ds, ρ5, e6, h⟩ := h
      exact ⟨ds, ρ5, by simp only [compL, e2, e3, eb, e6], h⟩
end
end PV

namespace PV
open PySem L2
theorem ltL {i l : Nat} (h : Nat.blt i l = true) : i < l := by simpa [Nat.blt_eq] using h
theorem ix0 {n : Nat} (h : Nat.blt 0 n = true) : ixN n 0 = some 0 := by
  have := ltL h
  unfold ixN
  rw [if_pos (by omega), if_pos (by omega)]
  rfl
theorem ix1 {n : Nat} (h : Nat.blt 1 n = true) : ixN n 1 = some 1 := by
  have := ltL h
  unfold ixN
  rw [if_pos (by omega), if_pos (by omega)]
  rfl
theorem set_z {α : Type} {a v : α} {l : List α} : (a :: l).set 0 v = v :: l := rfl
theorem set_s {α : Type} {a v : α} {l l' : List α} {n : Nat} (h : l.set n v = l') : (a :: l).set (n + 1) v = a :: l' := by rw [List.set_cons_succ, h]
theorem and3 {a b : Prop} {x : Ss} {N : Ss → Prop} {ρ2 : Ss} (h1 : a) (h2 : b) (h3 : x = ρ2) (h : N ρ2) : a ∧ b ∧ ∃ ρ2, x = ρ2 ∧ N ρ2 := ⟨h1, h2, _, h3, h⟩
section
variable {ρ : Ss} {P P' : Tm → Ss → Prop} {X X' : PX} {g ga gb gc g0 : Ev} {gs gk : Ss → OuL} {N N' : Ss → Prop} {R R' : Tm → Ss → Prop} {B C B' C' : Ss → Prop} {t u : Tm} {PL PL' : List Tm → Ss → Prop}
/-- the name at i holds t -/
def VarW (t : Tm) (i : Nat) (ρ : Ss) (P : Tm → Ss → Prop) : Prop := match t with
  | .v .O d => P (.loc i) ρ
  | .v k d => P (.v k d) ρ
  | _ => P (.loc i) ρ
theorem EW.var {i : Nat} (h : ρ[i]? = some (some t)) (p : VarW t i ρ P) : EW (eVar i) ρ P X := by
  with_unfolding_all
    cases t with
    | v k d => cases k <;> exact EW.ok (by rw [var_eq, h]) p
    | _ => exact EW.ok (by rw [var_eq, h]) p
theorem VarW.xF {i : Nat} {d : D} (h : P (.v .F d) ρ) : VarW (.v .F d) i ρ P := h
theorem VarW.xB {i : Nat} {d : D} (h : P (.v .B d) ρ) : VarW (.v .B d) i ρ P := h
theorem VarW.xO {i : Nat} {d : D} (h : P (.loc i) ρ) : VarW (.v .O d) i ρ P := h
/-! calls -/
def PuW (ts : List Tm) (ms : List Md) (ρ : Ss) (K : List Tm → Ss → Prop) : Prop := ∃ us ρ2, pullT ts ms ρ = some (us, ρ2) ∧ K us ρ2
def PaW (ts : List Tm) (ms : List Md) (us : List Tm) (ρ : Ss) (K : List Tm → Prop) : Prop := ∃ ps, paramsT ts ms us ρ = some ps ∧ K ps
def PtW (ts : List Tm) (ms : List Md) (us : List Tm) (ρ : Ss) (K : Ss → Prop) : Prop := ∃ ρ3, putT ts ms us ρ = some ρ3 ∧ K ρ3
@[irreducible] def CaW (f : Fn) (ms : List Md) (ts : List Tm) (ρ : Ss) (P : Tm → Ss → Prop) (X : PX) : Prop := OuW (callF f ms ts ρ) P X
theorem FoW.imp {o : Fo} {P P' : Tm → List Tm → Prop} {X X' : Er → List Tm → Prop} (h : FoW o P X) (i : ∀ t ρ, P t ρ → P' t ρ) (j : ∀ e ρ, X e ρ → X' e ρ) : FoW o P' X' := by
  cases o with
  | ok t ρ => exact i _ _ h
  | ex e ρ => exact j _ _ h
  | no => exact h
theorem FW.imp {f : Fn} {ts : List Tm} {P P' : Tm → List Tm → Prop} {X X' : Er → List Tm → Prop} (h : FW f ts P X) (i : ∀ t ρ, P t ρ → P' t ρ) (j : ∀ e ρ, X e ρ → X' e ρ) : FW f ts P' X' := by with_unfolding_all exact (FoW.imp h i j)
theorem CaW.go {f : Fn} {ms : List Md} {ts : List Tm} (h : PuW ts ms ρ fun us ρ2 => PaW ts ms us ρ2 fun ps => FW f ps (fun r vs => PtW ts ms vs ρ2 fun ρ3 => P r ρ3) (fun e vs => PtW ts ms vs ρ2 fun ρ3 => X e ρ3)) : CaW f ms ts ρ P X := by
  with_unfolding_all
    obtain ⟨us, ρ2, h1, ps, h2, h3⟩ := h
    unfold CaW callF
    simp only [h1, h2]
    unfold FW at h3
    cases e : f ps with
    | ok r vs => rw [e] at h3; obtain ⟨ρ3, h4, h5⟩ := h3; simp only [h4]; exact h5
    | ex r vs => rw [e] at h3; obtain ⟨ρ3, h4, h5⟩ := h3; simp only [h4]; exact h5
    | no => rw [e] at h3; exact h3
theorem EW.call {f : Fn} {ms : List Md} (h : AW gs ρ (fun ts ρ1 => CaW f ms ts ρ1 P X) X) : EW (eCall f ms gs) ρ P X := by
  with_unfolding_all
    unfold EW
    rw [call_eq]
    exact OlW.bind h
theorem PuW.nil {K : List Tm → Ss → Prop} (h : K [] ρ) : PuW [] [] ρ K := ⟨[], ρ, by simp only [pullT], h⟩
theorem PuW.b {K : List Tm → Ss → Prop} {ts : List Tm} {ms : List Md} (h : PuW ts ms ρ K) : PuW (t :: ts) (.b :: ms) ρ K := by
  obtain ⟨us, ρ2, h1, h2⟩ := h
  exact ⟨us, ρ2, by simp only [pullT, h1], h2⟩
theorem PuW.f {K : List Tm → Ss → Prop} {ts : List Tm} {ms : List Md} (h : PuW ts ms ρ K) : PuW (t :: ts) (.f :: ms) ρ K := by
  obtain ⟨us, ρ2, h1, h2⟩ := h
  exact ⟨us, ρ2, by simp only [pullT, h1], h2⟩
theorem PuW.io {K : List Tm → Ss → Prop} {ts : List Tm} {ms : List Md} {i : Nat} {ρ1 : Ss} (h0 : ρ[i]? = some (some u)) (hs : ρ.set i none = ρ1) (h : PuW ts ms ρ1 fun us ρ2 => K (u :: us) ρ2) : PuW (.loc i :: ts) (.io :: ms) ρ K := by
  obtain ⟨us, ρ2, h1, h2⟩ := h
  subst hs
  exact ⟨u :: us, ρ2, by simp only [pullT, h0, h1], h2⟩
theorem PaW.nil {K : List Tm → Prop} (h : K []) : PaW [] [] [] ρ K := ⟨[], by simp only [paramsT], h⟩
theorem PaW.io {K : List Tm → Prop} {ts us : List Tm} {ms : List Md} (h : PaW ts ms us ρ fun ps => K (u :: ps)) : PaW (t :: ts) (.io :: ms) (u :: us) ρ K := by
  obtain ⟨ps, h1, h2⟩ := h
  exact ⟨u :: ps, by simp only [paramsT, h1, Option.map_some], h2⟩
theorem PaW.b {K : List Tm → Prop} {ts us : List Tm} {ms : List Md} {k : Kd} {d : D} (hd : Is ρ t k d) (h : PaW ts ms us ρ fun ps => K (.v .B d :: ps)) : PaW (t :: ts) (.b :: ms) us ρ K := by
  obtain ⟨ps, h1, h2⟩ := h
  exact ⟨_, by simp only [paramsT, show derT ρ t = _ from hd, h1, toD_v], h2⟩
theorem PaW.fF {K : List Tm → Prop} {ts us : List Tm} {ms : List Md} {d : D} (h : PaW ts ms us ρ fun ps => K (.v .F d :: ps)) : PaW (.v .F d :: ts) (.f :: ms) us ρ K := by
  obtain ⟨ps, h1, h2⟩ := h
  exact ⟨_, by simp only [paramsT, h1], h2⟩
theorem PtW.nil {K : Ss → Prop} (h : K ρ) : PtW [] [] [] ρ K := ⟨ρ, by simp only [putT], h⟩
theorem PtW.b {K : Ss → Prop} {ts us : List Tm} {ms : List Md} (h : PtW ts ms us ρ K) : PtW (t :: ts) (.b :: ms) us ρ K := by
  obtain ⟨ps, h1, h2⟩ := h
  exact ⟨_, by simp only [putT, h1], h2⟩
theorem PtW.f {K : Ss → Prop} {ts us : List Tm} {ms : List Md} (h : PtW ts ms us ρ K) : PtW (t :: ts) (.f :: ms) us ρ K := by
  obtain ⟨ps, h1, h2⟩ := h
  exact ⟨_, by simp only [putT, h1], h2⟩
theorem PtW.io {K : Ss → Prop} {ts us : List Tm} {ms : List Md} {i : Nat} {ρ1 : Ss} (hl : i < ρ.length) (hs : ρ.set i (some u) = ρ1) (h : PtW ts ms us ρ1 K) : PtW (.loc i :: ts) (.io :: ms) (u :: us) ρ K := by
  obtain ⟨ps, h1, h2⟩ := h
  subst hs
  exact ⟨_, by simp only [putT, hl, if_true, h1], h2⟩
/-! a def's body -/
def GiW (ρ : Ss) (ios : List Nat) (K : List Tm → Prop) : Prop := ∃ us, getIo ρ ios = some us ∧ K us
def UnW (t : Tm) (K : Tm → Prop) : Prop := ∃ u, unB t = some u ∧ K u
theorem GiW.nil {K : List Tm → Prop} (h : K []) : GiW ρ [] K := ⟨[], rfl, h⟩
theorem GiW.cons {K : List Tm → Prop} {i : Nat} {is : List Nat} {ρ1 : Ss} (h0 : ρ[i]? = some (some t)) (hs : ρ.set i none = ρ1) (h : UnW t fun u => GiW ρ1 is fun us => K (u :: us)) : GiW ρ (i :: is) K := by
  obtain ⟨u, hu, us, h1, h2⟩ := h
  subst hs
  exact ⟨u :: us, by rw [getIo_cons]; simp only [h0, hu, h1], h2⟩
theorem UnW.get {K : Tm → Prop} (h : UnW t K) : ∃ u, unB t = some u ∧ K u := h
theorem UnW.of {K : Tm → Prop} (hu : unB t = some u) (h : K u) : UnW t K := ⟨u, hu, h⟩
theorem UnW.imp {K K' : Tm → Prop} (h : UnW t K) (i : ∀ u, K u → K' u) : UnW t K' := let ⟨u, hu, h⟩ := h; ⟨u, hu, i u h⟩
theorem UnW.xF {K : Tm → Prop} {d : D} (h : K (.v .F d)) : UnW (.v .F d) K := ⟨_, unB_F, h⟩
theorem UnW.xO {K : Tm → Prop} {d : D} (h : K (.v .O d)) : UnW (.v .O d) K := ⟨_, unB_O, h⟩
theorem FW.def {n : Nat} {ios : List Nat} {body : Sm} {ts : List Tm} {ρ0 : Ss} {P : Tm → List Tm → Prop} {X : Er → List Tm → Prop} (hρ : ts.map some ++ List.replicate (n - ts.length) none = ρ0)
    (h : SW body ρ0 (fun ρ => GiW ρ ios fun us => P (.v .F .non) us) (fun t ρ => UnW t fun t' => GiW ρ ios fun us => P t' us) NoS NoS (fun e ρ => GiW ρ ios fun us => X e us)) : FW (defn n ios body) ts P X := by
  with_unfolding_all
    unfold FW
    rw [defn_eq, hρ]
    unfold SW at h
    unfold endF
    cases e : body ρ0 with
    | nx ρ => rw [e] at h; obtain ⟨us, h1, h2⟩ := h; simp only [h1]; exact h2
    | rt t ρ => rw [e] at h; obtain ⟨t', h0, us, h1, h2⟩ := h; simp only [h0, h1]; exact h2
    | ex e' ρ => rw [e] at h; obtain ⟨us, h1, h2⟩ := h; simp only [h1]; exact h2
    | bk ρ => rw [e] at h; exact h.elim
    | ct ρ => rw [e] at h; exact h.elim
    | no => rw [e] at h; exact h.elim
theorem FW.get {f : Fn} {ts : List Tm} {P : Tm → List Tm → Prop} (h : FW f ts P XF0) : ∃ t us, f ts = .ok t us ∧ P t us := by
  with_unfolding_all
    unfold FW at h
    cases e : f ts with
    | ok t us => rw [e] at h; exact ⟨t, us, rfl, h⟩
    | ex a b => rw [e] at h; exact h.elim
    | no => rw [e] at h; exact h.elim
theorem FW.of {f : Fn} {ts us : List Tm} {P : Tm → List Tm → Prop} {X : Er → List Tm → Prop} (h : f ts = .ok t us) (p : P t us) : FW f ts P X := by with_unfolding_all (unfold FW; rw [h]; exact p)

/-! objects -/
/-- the modes of a constructor: none to be given back -/
def noIo (ms : List Md) : Bool := ms.all fun m => match m with | .io => false | _ => true
theorem pull_no : ∀ {ts : List Tm} {ms : List Md}, noIo ms = true → ts.length = ms.length → pullT ts ms ρ = some ([], ρ)
  | [], [], _, _ => by simp only [pullT]
  | t :: ts, .io :: ms, h, _ => by simp [noIo] at h
  | t :: ts, .b :: ms, h, hl => by simp only [pullT]; exact pull_no (by simpa [noIo] using h) (by simpa using hl)
  | t :: ts, .f :: ms, h, hl => by simp only [pullT]; exact pull_no (by simpa [noIo] using h) (by simpa using hl)
theorem put_no : ∀ {ts : List Tm} {ms : List Md}, noIo ms = true → ts.length = ms.length → putT ts ms [] ρ = some ρ
  | [], [], _, _ => by simp only [putT]
  | t :: ts, .io :: ms, h, _ => by simp [noIo] at h
  | t :: ts, .b :: ms, h, hl => by simp only [putT]; exact put_no (by simpa [noIo] using h) (by simpa using hl)
  | t :: ts, .f :: ms, h, hl => by simp only [putT]; exact put_no (by simpa [noIo] using h) (by simpa using hl)
theorem der_app {x : Tm} {σ : Ss} (h : derT ρ t = some x) : derT (ρ ++ σ) t = some x := by
  cases t with
  | loc i =>
    simp only [derT] at h ⊢
    have hl : i < ρ.length := by
      rcases Nat.lt_or_ge i ρ.length with q | q
      · exact q
      · rw [List.getElem?_eq_none q] at h; cases h
    rw [List.getElem?_append_left hl]
    exact h
  | v k d => exact h
  | tp _ => exact h
  | ls _ => exact h
  | ob _ _ => exact h
theorem params_app {σ : Ss} : ∀ {ts : List Tm} {ms : List Md} {us ps : List Tm}, paramsT ts ms us ρ = some ps → paramsT ts ms us (ρ ++ σ) = some ps
  | [], [], [], ps, h => by simpa only [paramsT] using h
  | t :: ts, .io :: ms, u :: us, ps, h => by
    simp only [paramsT, Option.map_eq_some_iff] at h ⊢
    obtain ⟨qs, h, rfl⟩ := h
    exact ⟨qs, params_app h, rfl⟩
  | t :: ts, .b :: ms, us, ps, h => by
    simp only [paramsT] at h ⊢
    cases e : derT ρ t with
    | none => simp [e] at h
    | some x =>
      cases e2 : paramsT ts ms us ρ with
      | none => simp [e, e2] at h
      | some qs =>
        simp only [e, e2] at h
        simp only [der_app e, params_app e2]
        exact h
  | t :: ts, .f :: ms, us, ps, h => by
    simp only [paramsT] at h ⊢
    cases e2 : paramsT ts ms us ρ with
    | none => rw [e2] at h; split at h <;> simp_all
    | some qs =>
      rw [e2] at h
      rw [params_app e2]
      exact h
  | [], _ :: _, us, ps, h => by simp [paramsT] at h
  | [], [], u :: us, ps, h => by simp [paramsT] at h
  | t :: ts, [], us, ps, h => by simp [paramsT] at h
  | t :: ts, .io :: ms, [], ps, h => by simp [paramsT] at h
@[irreducible] def MkW (c : Nat) (f : Fn) (ms : List Md) (ts : List Tm) (ρ : Ss) (P : Tm → Ss → Prop) (X : PX) : Prop := OuW (mkF c f ms ts ρ) P X
theorem MkW.go {c : Nat} {f : Fn} {ms : List Md} {ts : List Tm} (hn : noIo ms = true) (hl : ts.length = ms.length)
    (h : PaW ts ms [] ρ fun ps => FW f (.ob c [] :: ps) (fun r vs => ∃ u, vs = [u] ∧ isNonT r = true ∧ P u ρ) (fun e vs => (∃ u, vs = [u]) ∧ X e ρ)) : MkW c f ms ts ρ P X := by
  with_unfolding_all
    obtain ⟨ps, h1, h2⟩ := h
    have e1 : (ρ ++ [some (Tm.ob c [])])[ρ.length]? = some (some (.ob c [])) := by simp
    have e2 : (ρ ++ [some (Tm.ob c [])]).set ρ.length none = ρ ++ [none] := by simp
    have hlt : ρ.length < (ρ ++ [(none : Option Tm)]).length := by simp
    have p1 : pullT (.loc ρ.length :: ts) (.io :: ms) (ρ ++ [some (.ob c [])]) = some ([.ob c []], ρ ++ [none]) := by simp only [pullT, e1, e2, pull_no hn hl]
    have p2 : paramsT (.loc ρ.length :: ts) (.io :: ms) [.ob c []] (ρ ++ [none]) = some (.ob c [] :: ps) := by simp only [paramsT, params_app h1, Option.map_some]
    have p3 : ∀ u, putT (.loc ρ.length :: ts) (.io :: ms) [u] (ρ ++ [none]) = some (ρ ++ [some u]) := fun u => by
      simp only [putT, hlt, if_true, put_no hn hl]
      simp
    have e4 : ∀ u : Tm, (ρ ++ [some u]).take ρ.length = ρ := fun u => by simp
    have e6 : ∀ u : Tm, (ρ ++ [some u])[ρ.length]? = some (some u) := fun u => by simp
    unfold MkW mkF callF
    simp only [p1, p2]
    unfold FW at h2
    cases e : f (.ob c [] :: ps) with
    | ok r vs =>
      rw [e] at h2
      obtain ⟨u, rfl, hr, hp⟩ := h2
      simp only [p3, hr, if_true, e6, e4]
      exact hp
    | ex r vs =>
      rw [e] at h2
      obtain ⟨⟨u, rfl⟩, hp⟩ := h2
      simp only [p3, e4]
      exact hp
    | no => rw [e] at h2; exact h2
/-- a field -/
def FldW (c j : Nat) (t : Tm) (ρ : Ss) (P : Tm → Ss → Prop) : Prop := O1W (fldT c j) t ρ P
theorem FldW.ob {c j i : Nat} {ts : List Tm} {d : D} (h : ρ[i]? = some (some (.ob c ts))) (hj : ts[j]? = some (.v .F d)) (p : P (.v .F d) ρ) : FldW c j (.loc i) ρ P := ⟨.ob c ts, _, by simp only [derT, h], by simp only [fldT, if_true, hj], p⟩
/-! lists -/
def LmW (op : List D → List D → Option (D × List D)) (i : Nat) (ds : List D) (ρ1 : Ss) (P : Tm → Ss → Prop) : Prop := ∃ xs x xs', ρ1[i]? = some (some (.v .O (.lst xs))) ∧ op xs ds = some (x, xs') ∧ xs'.length ≤ sizeLine ∧ ∃ ρ2, ρ1.set i (some (.v .O (.lst xs'))) = ρ2 ∧ P (.v .F x) ρ2
theorem EW.lm {op : List D → List D → Option (D × List D)} {i : Nat} (hl : isLs ρ i = true) (h : AW gs ρ (fun ts ρ1 => FzsW ts fun ds => LmW op i ds ρ1 P) X) : EW (eLm op i gs) ρ P X := by
  with_unfolding_all
    unfold EW eLm
    rw [if_pos hl]
    refine OlW.bind (OlW.imp h fun ts ρ1 h => ?_)
    obtain ⟨ds, e1, xs, x, xs', e2, e3, e4, _, rfl, h⟩ := h
    simp only [e1, e2, e3]
    rw [if_pos e4]
    exact h
def IdxW (t u : Tm) (ρ : Ss) (P : Tm → Ss → Prop) : Prop := O2W opIdx t u ρ P
theorem EW.idx (h : EW ga ρ (fun t ρ1 => EW gb ρ1 (fun u ρ2 => IdxW t u ρ2 P) X) X) : EW (eIdx ga gb) ρ P X := by with_unfolding_all exact (EW.op2 h)
theorem IdxW.lst {k l : Kd} {xs : List D} {i : Int} {d : D} (h1 : Is ρ t k (.lst xs)) (h2 : Is ρ u l (.int i)) (h3 : atI xs i = some d) (p : P (subK k d) ρ) : IdxW t u ρ P := ⟨_, _, _, h1, h2, by simp only [opIdx, idxV, h3, Option.map_some], p⟩
theorem IdxW.tup {k l : Kd} {xs : List D} {i : Int} {d : D} (h1 : Is ρ t k (.tup xs)) (h2 : Is ρ u l (.int i)) (h3 : atI xs i = some d) (p : P (subK k d) ρ) : IdxW t u ρ P := ⟨_, _, _, h1, h2, by simp only [opIdx, idxV, h3, Option.map_some], p⟩
theorem IdxW.lF {l : Kd} {xs : List D} {i : Int} {d : D} (h1 : Is ρ t .F (.lst xs)) (h2 : Is ρ u l (.int i)) (h3 : atI xs i = some d) (p : P (.v .F d) ρ) : IdxW t u ρ P := IdxW.lst h1 h2 h3 p
theorem IdxW.lO {l : Kd} {xs : List D} {i : Int} {d : D} (h1 : Is ρ t .O (.lst xs)) (h2 : Is ρ u l (.int i)) (h3 : atI xs i = some d) (p : P (.v .F d) ρ) : IdxW t u ρ P := IdxW.lst h1 h2 h3 p
theorem IdxW.tF {l : Kd} {xs : List D} {i : Int} {d : D} (h1 : Is ρ t .F (.tup xs)) (h2 : Is ρ u l (.int i)) (h3 : atI xs i = some d) (p : P (.v .F d) ρ) : IdxW t u ρ P := IdxW.tup h1 h2 h3 p
theorem IdxW.scr {k l : Kd} {xs : List Int} {i : Int} {d : Int} (h1 : Is ρ t k (.scr xs)) (h2 : Is ρ u l (.int i)) (h3 : atI xs i = some d) (p : P (.v .F (.int d)) ρ) : IdxW t u ρ P := ⟨_, _, _, h1, h2, by simp only [opIdx, idxV, h3, Option.map_some], p⟩
theorem atN {α : Type} {xs : List α} {i : Nat} {x : α} (h : xs[i]? = some x) : atI xs (i : Int) = some x := by
  have hl := (List.getElem?_eq_some_iff.mp h).1
  unfold atI ixN
  rw [if_pos (by omega), if_pos (by omega)]
  exact h
theorem TW.sub {i : Nat} {gi : Ev} (hl : isLs ρ i = true) (h : EW gi ρ (fun u ρ2 => I1W u ρ2 fun k => FzD t fun d => ∃ xs j, ρ2[i]? = some (some (.v .O (.lst xs))) ∧ ixN xs.length k = some j ∧ ∃ ρ3, ρ2.set i (some (.v .O (.lst (xs.set j d)))) = ρ3 ∧ N ρ3) X0) : TW (tgSub i gi) t ρ N := by
  with_unfolding_all
    obtain ⟨u, ρ2, e, k, kk, hk, d, hd, xs, j, h1, h2, ρ3, rfl, h⟩ := EW.get h
    refine ⟨_, ?_, h⟩
    unfold tgSub
    rw [if_pos hl, e]
    simp only [h1, show derT ρ2 u = _ from hk, hd, h2]
theorem sub5 {xs xs' : List D} {i j : Nat} {k : Int} {d : D} {ρ1 ρ3 : Ss} {N : Ss → Prop} (h1 : ρ1[i]? = some (some (.v .O (.lst xs)))) (h2 : ixN xs.length k = some j) (h3 : xs.set j d = xs') (h4 : ρ1.set i (some (.v .O (.lst xs'))) = ρ3) (h : N ρ3) :
    ∃ xs j, ρ1[i]? = some (some (.v .O (.lst xs))) ∧ ixN xs.length k = some j ∧ ∃ ρ3, ρ1.set i (some (.v .O (.lst (xs.set j d)))) = ρ3 ∧ N ρ3 := by
  subst h3 h4
  exact ⟨xs, j, h1, h2, _, rfl, h⟩
theorem lm5 {op : List D → List D → Option (D × List D)} {i : Nat} {ds xs xs' : List D} {x : D} {ρ1 ρ2 : Ss} (h1 : ρ1[i]? = some (some (.v .O (.lst xs)))) (h2 : op xs ds = some (x, xs')) (h3 : xs'.length ≤ sizeLine) (h4 : ρ1.set i (some (.v .O (.lst xs'))) = ρ2) (h : P (.v .F x) ρ2) : LmW op i ds ρ1 P := ⟨xs, x, xs', h1, h2, h3, ρ2, h4, h⟩
theorem EW.abs (h : EW g ρ (fun t ρ1 => I1W t ρ1 fun i => P (.v .F (.int (if i < 0 then -i else i))) ρ1) X) : EW (eAbs g) ρ P X := by with_unfolding_all exact (EW.op1 (EW.imp h fun t ρ1 h => by
  obtain ⟨i, k, h1, h2⟩ := h
  exact rd1_is h1 rfl h2))
theorem EW.pow (h : EW ga ρ (fun t ρ1 => EW gb ρ1 (fun u ρ2 => IIW t u ρ2 fun i j => ∃ r, powI i j = some r ∧ P (.v .F (.int r)) ρ2) X) X) : EW (ePow ga gb) ρ P X := by with_unfolding_all exact (EW.op2 (E2W.imp h fun t u ρ h => by
  obtain ⟨i, j, k, l, h1, h2, r, h3, h4⟩ := h
  exact rd2_is h1 h2 (by simp only [dI2, h3, Option.map_some]) h4))
theorem pow18 : powI 10 18 = some 1000000000000000000 := by
  unfold powI
  rw [if_pos (by decide), show (18 : Int).toNat = 18 from rfl]
  simp
theorem SW.par {is : List Nat} (h : AW gs ρ (fun ts ρ1 => ∃ ρ2, stAll is ts ρ1 = some ρ2 ∧ N ρ2) X) : SW (sPar is gs) ρ N R B C X := by
  with_unfolding_all
    unfold SW sPar
    unfold AW at h
    cases e : gs ρ with
    | ok ts ρ1 => rw [e] at h; obtain ⟨ρ2, e2, h⟩ := h; simp only [e2]; exact h
    | ex a b => rw [e] at h; exact h
    | no => rw [e] at h; exact h
theorem EW.len (h : EW g ρ (fun t ρ1 => O1W (rd1 lenD) t ρ1 P) X) : EW (eLen g) ρ P X := by with_unfolding_all exact (EW.op1 h)
theorem len_lst {k : Kd} {xs : List D} (h1 : Is ρ t k (.lst xs)) (p : P (.v .F (.int xs.length)) ρ) : O1W (rd1 lenD) t ρ P := rd1_is h1 rfl p
theorem len_tup {k : Kd} {xs : List D} (h1 : Is ρ t k (.tup xs)) (p : P (.v .F (.int xs.length)) ρ) : O1W (rd1 lenD) t ρ P := rd1_is h1 rfl p
theorem len_scr {k : Kd} {xs : List Int} (h1 : Is ρ t k (.scr xs)) (p : P (.v .F (.int xs.length)) ρ) : O1W (rd1 lenD) t ρ P := rd1_is h1 rfl p
end
end PV

namespace PV
open PySem L2
local macro_rules | `(tactic| walk_at "set") => `(tactic| (repeat (first | exact set_z | apply set_s)))
local macro_rules | `(tactic| walk_at "is") => `(tactic| (first | exact Is.v | exact Is.loc rfl))
local macro_rules | `(tactic| walk_at "lt") => `(tactic| first | exact ltL rfl | omega | (simp only [List.length_cons, List.length_nil]; omega))
local macro_rules | `(tactic| walk_at "sz") => `(tactic| first | omega | (simp only [sizeLine_eq, List.length_append, List.length_cons, List.length_nil, List.length_map, List.length_replicate, List.length_reverse] at *; omega))
local macro_rules | `(tactic| walk_at "w1") => `(tactic| (first
  | (with_reducible refine EW.c ?_) | (with_reducible refine EW.n ?_) | (with_reducible refine EW.tr ?_) | ((with_reducible apply EW.var); (focus (exact rfl))) | (with_reducible refine VarW.xF ?_) | (with_reducible refine VarW.xB ?_) | (with_reducible refine VarW.xO ?_) | (with_reducible refine VarW.xOb ?_)
  | (with_reducible refine SW.seq ?_) | ((with_reducible refine SW.set ?_)) | (with_reducible refine SW.ite ?_) | (with_reducible refine SW.ret ?_) | (with_reducible refine SW.asg ?_) | (with_reducible refine SW.nil ?_) | (with_reducible refine SW.expr ?_) | (with_reducible refine SW.for ?_) | (with_reducible refine SW.fst ?_) | (with_reducible refine SW.par ?_)
  | (with_reducible refine EW.gt ?_) | (with_reducible refine EW.lt ?_) | (with_reducible refine EW.le ?_) | (with_reducible refine EW.ge ?_) | (with_reducible refine EW.mod ?_) | (with_reducible refine EW.div ?_) | (with_reducible refine EW.sub ?_) | (with_reducible refine EW.add ?_) | (with_reducible refine EW.mul ?_) | (with_reducible refine EW.idx ?_) | (with_reducible refine EW.max2 ?_) | (with_reducible refine EW.min2 ?_) | (with_reducible refine EW.len ?_) | (with_reducible refine EW.call ?_) | (with_reducible refine EW.meth ?_) | (with_reducible refine EW.prop ?_) | (with_reducible refine EW.make ?_) | (with_reducible refine EW.fld ?_) | (with_reducible refine EW.ifx ?_) | (with_reducible refine EW.and ?_) | (with_reducible refine EW.or ?_) | (with_reducible refine EW.not ?_) | (with_reducible refine EW.tup ?_) | (with_reducible refine EW.lst ?_) | (with_reducible refine EW.comp ?_)
  | (with_reducible refine EW.mv ?_) | (with_reducible refine EW.fz ?_) | (with_reducible refine FzW.F ?_) | (with_reducible refine FzW.O ?_) | ((with_reducible refine FzW.Bx ?_ ?_); (focus (exact flat_int))) | ((with_reducible refine FzW.Bx ?_ ?_); (focus (exact flat_str))) | ((with_reducible apply FzW.loc); (focus (exact rfl)); (focus (walk_at "set")))
  | (with_reducible refine MvW.v ?_) | ((with_reducible apply MvW.loc); (focus (exact rfl)); (focus (walk_at "set")))
  | (with_reducible refine AW.nil ?_) | (with_reducible refine AW.cons ?_) | (with_reducible refine FzsW.nil ?_) | (with_reducible refine FzsW.F ?_) | (with_reducible refine FzsW.O ?_) | ((with_reducible refine FzsW.Bx ?_ ?_); (focus (exact flat_int))) | ((with_reducible refine FzsW.Bx ?_ ?_); (focus (exact flat_str)))
  | ((with_reducible apply IIW.go); (focus (walk_at "is")); (focus (walk_at "is"))) | ((with_reducible apply AddW.ii); (focus (walk_at "is")); (focus (walk_at "is"))) | ((with_reducible apply MulW.ii); (focus (walk_at "is")); (focus (walk_at "is")); (focus omega))
  | ((with_reducible apply FldW.ob); (focus (exact rfl)); (focus (exact rfl))) | ((with_reducible apply FldW.insB); (focus (exact rfl))) | ((with_reducible apply FldW.insF); (focus (exact rfl)))
  | ((with_reducible apply IdxW.lB); (focus (walk_at "is")); (focus (walk_at "is")); (focus (exact rfl))) | ((with_reducible apply IdxW.lF); (focus (walk_at "is")); (focus (walk_at "is")); (focus (exact rfl))) | ((with_reducible apply IdxW.lO); (focus (walk_at "is")); (focus (walk_at "is")); (focus (exact rfl))) | ((with_reducible apply IdxW.tB); (focus (walk_at "is")); (focus (walk_at "is")); (focus (exact rfl))) | ((with_reducible apply IdxW.tF); (focus (walk_at "is")); (focus (walk_at "is")); (focus (exact rfl)))
  | ((with_reducible apply TW.sub); (focus (exact rfl))) | ((with_reducible apply I1W.go); (focus (walk_at "is"))) | ((with_reducible apply sub5); (focus (exact rfl)); (focus (first | exact ix0 rfl | exact ix1 rfl)); (focus (walk_at "set")); (focus (walk_at "set")))
  | ((with_reducible apply EW.lm); (focus (exact rfl))) | ((with_reducible apply lm5); (focus (exact rfl)); (focus (exact rfl)); (focus (walk_at "sz")); (focus (walk_at "set")))
  | ((with_reducible apply fst4); (focus (exact rfl)); (focus (walk_at "lt")); (focus (repeat (first | exact setAt_z | exact setAt_n | apply setAt_s))); (focus (walk_at "set")))
  | ((with_reducible apply SW.faug); (focus (exact rfl)); (focus (exact rfl))) | ((with_reducible apply SW.aug); (focus (exact rfl)))
  | ((with_reducible apply len_lst); (focus (walk_at "is"))) | ((with_reducible apply len_tup); (focus (walk_at "is"))) | ((with_reducible apply len_scr); (focus (walk_at "is"))) | (with_reducible refine EW.abs ?_) | (with_reducible refine EW.pow ?_)
  | (with_reducible refine GiW.nil ?_) | ((with_reducible apply GiW.cons); (focus (exact rfl)); (focus (walk_at "set"))) | (with_reducible refine UnW.xF ?_) | (with_reducible refine UnW.xO ?_) | ((with_reducible refine UnW.xB ?_ ?_); (focus (exact flat_int))) | ((with_reducible refine UnW.xB ?_ ?_); (focus (exact flat_str))) | ((with_reducible refine UnW.xOb ?_ ?_); (focus (repeat (first | exact unBs_nilE | refine unBs_F ?_ | refine unBs_O ?_))))
  | (with_reducible refine CaW.go ?_) | (with_reducible refine PuW.nil ?_) | (with_reducible refine PuW.b ?_) | (with_reducible refine PuW.f ?_) | ((with_reducible apply PuW.io); (focus (exact rfl)); (focus (walk_at "set"))) | ((with_reducible refine PuW.ioT ?_ ?_); (focus (exact rfl)))
  | (with_reducible refine PaW.nil ?_) | (with_reducible refine PaW.io ?_) | ((with_reducible apply PaW.b); (focus (walk_at "is"))) | (with_reducible refine PaW.fF ?_)
  | (with_reducible refine PtW.nil ?_) | (with_reducible refine PtW.b ?_) | (with_reducible refine PtW.f ?_) | ((with_reducible apply PtW.io); (focus (walk_at "lt")); (focus (walk_at "set"))) | ((with_reducible refine PtW.ioT ?_ ?_); (focus (exact rfl)))
  | (with_reducible refine IW.seq ?_) | (with_reducible refine IW.r1 ?_) | (with_reducible refine IW.r2 ?_) | (with_reducible refine ItsW.lstF ?_) | (with_reducible refine ItsW.lstB ?_) | (with_reducible refine ItsW.lstO ?_) | (with_reducible refine ItsW.tupF ?_) | (with_reducible refine ItsW.tupB ?_) | ((with_reducible refine R1W.go ?_ ?_); (focus omega))
  | ((with_reducible apply TW.n); (focus (exact rfl)); (focus (walk_at "lt")); (focus (walk_at "set"))) | (with_reducible refine TsW.nil ?_) | (with_reducible refine TsW.cons ?_) | (with_reducible refine TW.tupF ?_) | (with_reducible refine TW.tupB ?_) | (with_reducible refine TW.tp ?_)
  | (with_reducible refine BoW.tt ?_) | (with_reducible refine BoW.ff ?_) | (with_reducible refine NotW.d ?_) | (with_reducible refine NotW.b ?_) | (with_reducible refine FzD.F ?_) | (with_reducible refine FzD.O ?_) | ((with_reducible refine FzD.Bx ?_ ?_); (focus (exact flat_int)))
  | ((with_reducible apply and3); (focus (exact rfl)); (focus (walk_at "lt")); (focus (walk_at "set")))
  | ((with_reducible apply And.intro); (focus (first | walk_at "sz" | exact rfl))) ))
local macro_rules | `(tactic| walk_at "wp") => `(tactic| repeat (walk_at "w1"))
def d_feed : Sm := (sSeq (sSet 2 (eIf (eLt (eVar 1) (eLen (eVar 0))) (eIdx (eVar 0) (eVar 1)) (eAdd (eMul (eC (.int 83)) (eVar 1)) (eC (.int 29)))))
    (sSeq (sSet 3 (eMax2 (eC (.int 0)) (eSub (eAbs (eVar 2)) (ePow (eC (.int 10)) (eC (.int 18))))))
    (sSeq (sSet 4 (eMod (eAdd (eAdd (eMul (eVar 2) (eC (.int 6364136223846793005))) (eMul (eC (.int 7919)) (eVar 1))) (eC (.int 1442695040888963407))) (eC (.int 2305843009213693951))))
    (sRet (eLst (gCons (eF (eVar 3)) (gCons (eF (eVar 4)) gNil)))))))
def den_feed : Fn := defn 5 [] d_feed
def d_take : Sm := (sSeq (sIf (eGt (eIdx (eVar 0) (eC (.int 0))) (eC (.int 0)))
    (sSeq (sSet 2 (eMod (eIdx (eVar 0) (eC (.int 0))) (eVar 1)))
    (sSeq (sAsg (tgSub 0 (eC (.int 0))) (eDiv (eIdx (eVar 0) (eC (.int 0))) (eVar 1)))
    (sRet (eM (eVar 2)))))
    sNil)
    (sSeq (sAsg (tgSub 0 (eC (.int 1))) (eMod (eAdd (eMul (eIdx (eVar 0) (eC (.int 1))) (eC (.int 6364136223846793005))) (eC (.int 1442695040888963407))) (eC (.int 2305843009213693951))))
    (sRet (eMod (eDiv (eIdx (eVar 0) (eC (.int 1))) (eC (.int 65536))) (eVar 1)))))
def den_take : Fn := defn 3 [0] d_take
def d_pick : Sm := (sRet (eIdx (eVar 1) (eCall den_take [.io, .b] (gCons (eVar 0) (gCons (eLen (eVar 1)) gNil)))))
def den_pick : Fn := defn 2 [0] d_pick
abbrev feedT (d s : Int) : Tm := .v .O (.lst [.int d, .int s])
theorem FW.take {d s m : Int} {P : Tm → List Tm → Prop} {X : Er → List Tm → Prop} (h : 0 < m) (h2 : m < 1073741824) (k : ∀ x d' s', 0 ≤ x → x < m → P (.v .F (.int x)) [feedT d' s']) : FW den_take [feedT d s, .v .B (.int m)] P X := by
  refine FW.def (ρ0 := [some (feedT d s), some (.v .B (.int m)), none]) rfl ?_
  unfold d_take
  walk_at "wp"
  refine BoW.d (fun h0 => ?_) fun h0 => ?_
  all_goals walk_at "wp"
  all_goals exact k _ _ _ (Int.emod_nonneg _ (by omega)) (Int.emod_lt_of_pos _ h)
end PV

namespace PV
open PySem L2
section
variable {ρ : Ss} {P P' : Tm → Ss → Prop} {X X' : PX} {g ga gb gc g0 test elt : Ev} {gs gk : Ss → OuL} {N N' : Ss → Prop} {R R' : Tm → Ss → Prop} {B C B' C' : Ss → Prop} {t u : Tm} {PL PL' : List Tm → Ss → Prop} {it : Iv} {v : Nat}
/-- a comprehension with one name that leaves the names as they are -/
def CpW (v : Nat) (test elt : Ev) (ts : List Tm) (ρ : Ss) (K : List D → Prop) : Prop := hideOk ρ v = true ∧ ∃ ds, compL (tgN v) test elt [v] ts ρ = some (ds, ρ.set v none) ∧ ds.length ≤ sizeLine ∧ K ds
theorem hide_at (h : hideOk ρ v = true) : ∃ o, ρ[v]? = some o := by
  unfold hideOk at h
  cases e : ρ[v]? with
  | none => rw [e] at h; cases h
  | some o => exact ⟨o, rfl⟩
theorem rest1 {o : Option Tm} (h : ρ[v]? = some o) : restS ρ (ρ.set v none) [v] = ρ := by
  simp only [restS, h, setset]
  have hl := (List.getElem?_eq_some_iff.mp h)
  obtain ⟨hl, e⟩ := hl
  rw [← e]
  exact List.set_getElem_self hl
theorem EW.comp1 (h : IW it ρ (fun ts ρ1 => CpW v test elt ts ρ1 fun ds => P (.v .O (.lst ds)) ρ1) X) : EW (eComp it [v] (tgN v) test elt) ρ P X := by
  with_unfolding_all
    refine EW.comp ?_
    unfold IW at h ⊢
    cases e : it ρ with
    | ok ts ρ1 =>
      rw [e] at h
      obtain ⟨h1, ds, h2, h3, h4⟩ := h
      obtain ⟨o, ho⟩ := hide_at h1
      exact ⟨by simpa using h1, ds, _, h2, h3, _, rest1 ho, h4⟩
    | ex e' ρ1 => rw [e] at h; exact h
    | no => rw [e] at h; exact h
theorem CpW.map {α : Type} {K : List D → Prop} {inj : α → Tm} (p : α → Bool) (f : α → D) (xs : List α) (hl : ∀ a, isLoc (inj a) = false) (hv : hideOk ρ v = true)
    (ht : ∀ a ∈ xs, ∃ ρ2, ρ.set v (some (inj a)) = ρ2 ∧ EW test ρ2 (fun t ρ1 => t = .v .F (.bl (p a)) ∧ ρ1 = ρ2) X0)
    (he : ∀ a ∈ xs, p a = true → ∃ ρ2, ρ.set v (some (inj a)) = ρ2 ∧ EW elt ρ2 (fun t ρ1 => FzD t fun d => d = f a ∧ ρ1 = ρ2) X0) (hz : ((xs.filter p).map f).length ≤ sizeLine) (h : K ((xs.filter p).map f)) : CpW v test elt (xs.map inj) ρ K := by
  with_unfolding_all
    have hvl : v < ρ.length := by obtain ⟨o, ho⟩ := hide_at hv; exact (List.getElem?_eq_some_iff.mp ho).1
    refine ⟨hv, _, ?_, hz, h⟩
    clear hz h
    have main : ∀ (ys : List α) (σ : Ss), (∀ a ∈ ys, a ∈ xs) → (∀ x, σ.set v x = ρ.set v x) → v < σ.length → compL (tgN v) test elt [v] (ys.map inj) σ = some ((ys.filter p).map f, ρ.set v none) := by
      intro ys
      induction ys with
      | nil => intro σ _ hs _; simp [compL, wipeS, hs]
      | cons a ys ih =>
        intro σ hm hs hlv
        have ha := hm a List.mem_cons_self
        have hm' : ∀ b ∈ ys, b ∈ xs := fun b hb => hm b (List.mem_cons_of_mem _ hb)
        obtain ⟨_, rfl, h1⟩ := ht a ha
        obtain ⟨_, _, e1, rfl, rfl⟩ := EW.get h1
        have ih' := ih (ρ.set v (some (inj a))) hm' (fun x => by simp) (by simpa using hvl)
        have c1 : tgN v (inj a) (wipeS σ [v]) = some (ρ.set v (some (inj a))) := by
          simp only [wipeS, tgN_eq, hl a, List.length_set, hlv, hvl, and_self, if_true, setset, hs]
        cases hp : p a with
        | true =>
          obtain ⟨_, rfl, h2⟩ := he a ha hp
          obtain ⟨x, _, e2, d, hd, rfl, rfl⟩ := EW.get h2
          rw [hp] at e1
          simp only [List.map_cons, compL, c1, e1, asB_v, e2, hd, ih', List.filter_cons, hp, if_true]
        | false =>
          rw [hp] at e1
          simp only [List.map_cons, compL, c1, e1, asB_v, ih', List.filter_cons, hp, Bool.false_eq_true, if_false]
    exact main xs ρ (fun _ h => h) (fun _ => rfl) hvl
theorem CpW.ints {K : List D → Prop} {k : Kd} (p : Int → Bool) (f : Int → D) (xs : List Int) (hv : hideOk ρ v = true)
    (ht : ∀ a ∈ xs, ∃ ρ2, ρ.set v (some (.v k (.int a))) = ρ2 ∧ EW test ρ2 (fun t ρ1 => t = .v .F (.bl (p a)) ∧ ρ1 = ρ2) X0)
    (he : ∀ a ∈ xs, p a = true → ∃ ρ2, ρ.set v (some (.v k (.int a))) = ρ2 ∧ EW elt ρ2 (fun t ρ1 => FzD t fun d => d = f a ∧ ρ1 = ρ2) X0) (hz : ((xs.filter p).map f).length ≤ sizeLine) (h : K ((xs.filter p).map f)) : CpW v test elt ((xs.map D.int).map (Tm.v k)) ρ K := by
  with_unfolding_all
    rw [List.map_map]
    exact CpW.map (inj := (Tm.v k) ∘ D.int) p f xs (fun _ => rfl) hv ht he hz h
/-- items of one list, by their data -/
theorem ForW.data {α : Type} {k : Kd} {f : α → D} {tg : Tg} {body : Sm} (I : List α → Ss → Prop) (xs : List α) {ρ : Ss} (h0 : I [] ρ)
    (hs : ∀ p x q ρ, xs = p ++ x :: q → I p ρ → TW tg (.v k (f x)) ρ fun ρ1 => SW body ρ1 (fun ρ2 => I (p ++ [x]) ρ2) R N (fun ρ2 => I (p ++ [x]) ρ2) X) (he : ∀ ρ, I xs ρ → N ρ) : ForW tg body ((xs.map f).map (Tm.v k)) ρ N R X := by
  with_unfolding_all
    rw [List.map_map]
    exact ForW.inv I xs [] h0 (fun a p x q ρ ha hp hI => hs p x q ρ (by rw [← hp, ha]; rfl) hI) (fun ρ h => he ρ h)
theorem TW.tup2B {tgs : Tgs} {x y : D} (h : TsW tgs [.v .B x, .v .B y] ρ N) : TW (tgTup tgs) (.v .B (.tup [x, y])) ρ N := h
theorem TW.tup2F {tgs : Tgs} {x y : D} (h : TsW tgs [.v .F x, .v .F y] ρ N) : TW (tgTup tgs) (.v .F (.tup [x, y])) ρ N := h
theorem st1 {i : Nat} {is : List Nat} {ts : List Tm} {ρ1 ρ2 : Ss} (hl : isLoc t = false) (hi : i < ρ.length) (hs : ρ.set i (some t) = ρ1) (h : stAll is ts ρ1 = some ρ2) : stAll (i :: is) (t :: ts) ρ = some ρ2 := by
  subst hs
  simp only [stAll, hl, hi, and_self, if_true, h]
theorem st0 : stAll [] [] ρ = some ρ := rfl
theorem par1 {is : List Nat} {ts : List Tm} {ρ2 : Ss} (h : stAll is ts ρ = some ρ2) (n : N ρ2) : ∃ ρ2, stAll is ts ρ = some ρ2 ∧ N ρ2 := ⟨_, h, n⟩
theorem AddW.ll {k l : Kd} {xs ys : List D} (h1 : Is ρ t k (.lst xs)) (h2 : Is ρ u l (.lst ys)) (e1 : elk k xs = some xs) (e2 : elk l ys = some ys) (hz : xs.length + ys.length ≤ sizeLine) (p : P (.v .O (.lst (xs ++ ys))) ρ) : AddW t u ρ P := by
  refine ⟨_, _, _, h1, h2, ?_, p⟩
  simp only [opAdd, addV, e1, e2]
  first | rw [if_pos hz] | rfl
theorem elkF {xs : List D} : elk .F xs = some xs := rfl
theorem elkO {xs : List D} : elk .O xs = some xs := rfl
theorem EW.list (h : EW g ρ (fun t ρ1 => ∃ k xs, (Is ρ1 t k (.lst xs) ∨ Is ρ1 t k (.tup xs)) ∧ elk k xs = some xs ∧ P (.v .O (.lst xs)) ρ1) X) : EW (eList g) ρ P X := by with_unfolding_all exact (EW.op1 (EW.imp h fun t ρ1 h => by
  obtain ⟨k, xs, h1 | h1, h2, h3⟩ := h
  · exact ⟨_, _, h1, by simp only [opList, h2, Option.map_some], h3⟩
  · exact ⟨_, _, h1, by simp only [opList, h2, Option.map_some], h3⟩))
theorem EW.tuple (h : EW g ρ (fun t ρ1 => ∃ k xs, (Is ρ1 t k (.lst xs) ∨ Is ρ1 t k (.tup xs)) ∧ elk k xs = some xs ∧ P (.v .F (.tup xs)) ρ1) X) : EW (eTuple g) ρ P X := by with_unfolding_all exact (EW.op1 (EW.imp h fun t ρ1 h => by
  obtain ⟨k, xs, h1 | h1, h2, h3⟩ := h
  · exact ⟨_, _, h1, by simp only [opTuple, h2, Option.map_some], h3⟩
  · exact ⟨_, _, h1, by simp only [opTuple, h2, Option.map_some], h3⟩))
theorem MulW.li {k l : Kd} {xs : List D} {n : Nat} (h1 : Is ρ t k (.lst xs)) (h2 : Is ρ u l (.int (n : Int))) (e1 : elk k xs = some xs) (hn : n < 9223372036854775808) (hz : xs.length * n ≤ sizeLine) (p : P (.v .O (.lst (List.replicate n xs).flatten)) ρ) : MulW t u ρ P := by
  refine ⟨_, _, _, h1, h2, ?_, p⟩
  simp only [opMul, mulV, e1, Int.toNat_natCast]
  rw [if_pos]
  refine ⟨?_, ?_, hz⟩
  · have : (0 : Int) ≤ n := by omega
    have h3 : -(2 ^ 63) ≤ (0 : Int) := by decide
    omega
  · have h3 : (2 : Int) ^ 63 = 9223372036854775808 := by decide
    omega
theorem EW.sum (h : EW g ρ (fun t ρ1 => ∃ k ns, Is ρ1 t k (lI ns) ∧ P (.v .F (.int ns.sum)) ρ1) X) : EW (eSum g) ρ P X := by with_unfolding_all exact (EW.op1 (EW.imp h fun t ρ1 h => by
  obtain ⟨k, ns, h1, h3⟩ := h
  exact rd1_is h1 (by simp only [dL1, intsD_lI, Option.bind_some, Option.map_some]) h3))
theorem EW.eq (h : EW ga ρ (fun t ρ1 => EW gb ρ1 (fun u ρ2 => ∃ k l x y r, Is ρ2 t k x ∧ Is ρ2 u l y ∧ eqD false x y = some r ∧ P (.v .F r) ρ2) X) X) : EW (eEq ga gb) ρ P X := by with_unfolding_all exact (EW.op2 (E2W.imp h fun t u ρ h => by
  obtain ⟨k, l, x, y, r, h1, h2, h3, h4⟩ := h
  exact rd2_is h1 h2 h3 h4))
theorem EW.ne (h : EW ga ρ (fun t ρ1 => EW gb ρ1 (fun u ρ2 => ∃ k l x y r, Is ρ2 t k x ∧ Is ρ2 u l y ∧ eqD true x y = some r ∧ P (.v .F r) ρ2) X) X) : EW (eNe ga gb) ρ P X := by with_unfolding_all exact (EW.op2 (E2W.imp h fun t u ρ h => by
  obtain ⟨k, l, x, y, r, h1, h2, h3, h4⟩ := h
  exact rd2_is h1 h2 h3 h4))
theorem eqD_int (i j : Int) : eqD false (.int i) (.int j) = some (.bl (decide (i = j))) := by
  simp [eqD, strD, eqP, toPy, SeqAt.shaped, PyData.canLay0, PyData.depth, PyData.eqv]
  first | done | rfl
theorem neD_int (i j : Int) : eqD true (.int i) (.int j) = some (.bl (decide (i ≠ j))) := by
  simp [eqD, strD, eqP, toPy, SeqAt.shaped, PyData.canLay0, PyData.depth, PyData.eqv]
  first | done | rfl
/-- a comprehension by what holds after each item -/
theorem CoW.inv {α : Type} {tg : Tg} {vs : List Nat} {inj : α → Tm} (I : List α → List D → Ss → Prop) : ∀ (xs pre : List α) (es : List D) (ρ : Ss), I pre es (wipeS ρ vs) →
    (∀ a p x q ds ρ, a = pre ++ xs → a = p ++ x :: q → I p ds ρ → TW tg (inj x) ρ fun ρ1 => EW test ρ1 (fun b ρ2 => BoW b (EW elt ρ2 (fun y ρ3 => FzD y fun d => ∃ ρ4, wipeS ρ3 vs = ρ4 ∧ I (p ++ [x]) (ds ++ [d]) ρ4) X0) (∃ ρ4, wipeS ρ2 vs = ρ4 ∧ I (p ++ [x]) ds ρ4)) X0) →
    ∃ ds ρ', compL tg test elt vs (xs.map inj) ρ = some (ds, ρ') ∧ I (pre ++ xs) (es ++ ds) ρ'
  | [], pre, es, ρ, h0, hs => by with_unfolding_all exact (⟨[], wipeS ρ vs, by simp only [List.map_nil, compL], by rw [List.append_nil, List.append_nil]; exact h0⟩)
  | x :: xs, pre, es, ρ, h0, hs => by
    with_unfolding_all
      obtain ⟨ρ1, e1, h1⟩ := hs _ pre x xs es _ rfl rfl h0
      obtain ⟨b, ρ2, e2, h2⟩ := EW.get h1
      obtain ⟨bb, eb, h2⟩ := h2.of
      have hs' : ∀ a p y q ds ρ, a = (pre ++ [x]) ++ xs → a = p ++ y :: q → I p ds ρ → TW tg (inj y) ρ fun ρ1 => EW test ρ1 (fun b ρ2 => BoW b (EW elt ρ2 (fun y' ρ3 => FzD y' fun d => ∃ ρ4, wipeS ρ3 vs = ρ4 ∧ I (p ++ [y]) (ds ++ [d]) ρ4) X0) (∃ ρ4, wipeS ρ2 vs = ρ4 ∧ I (p ++ [y]) ds ρ4)) X0 := fun a p y q ds ρ ha => hs a p y q ds ρ (by rw [ha, List.append_assoc]; rfl)
      cases bb with
      | true =>
        obtain ⟨y, ρ3, e3, d, e4, _, rfl, h3⟩ := EW.get (show EW elt ρ2 _ X0 from h2)
        obtain ⟨ds, ρ', e5, h4⟩ := CoW.inv I xs (pre ++ [x]) (es ++ [d]) ρ3 h3 hs'
        refine ⟨d :: ds, ρ', by simp only [List.map_cons, compL, e1, e2, eb, e3, e4, e5], ?_⟩
        rw [List.append_assoc, List.append_assoc] at h4
        exact h4
      | false =>
        obtain ⟨_, rfl, h3⟩ := h2
        obtain ⟨ds, ρ', e5, h4⟩ := CoW.inv I xs (pre ++ [x]) es ρ2 h3 hs'
        refine ⟨ds, ρ', by simp only [List.map_cons, compL, e1, e2, eb, e5], ?_⟩
        rw [List.append_assoc] at h4
        exact h4
theorem CoW.go {α : Type} {tg : Tg} {vs : List Nat} {inj : α → Tm} {K : List D → Ss → Prop} (I : List α → List D → Ss → Prop) (xs : List α) (h0 : ∃ ρ1, wipeS ρ vs = ρ1 ∧ I [] [] ρ1)
    (hs : ∀ p x q ds ρ, xs = p ++ x :: q → I p ds ρ → TW tg (inj x) ρ fun ρ1 => EW test ρ1 (fun b ρ2 => BoW b (EW elt ρ2 (fun y ρ3 => FzD y fun d => ∃ ρ4, wipeS ρ3 vs = ρ4 ∧ I (p ++ [x]) (ds ++ [d]) ρ4) X0) (∃ ρ4, wipeS ρ2 vs = ρ4 ∧ I (p ++ [x]) ds ρ4)) X0)
    (he : ∀ ds ρ, I xs ds ρ → K ds ρ) : CoW tg test elt vs (xs.map inj) ρ K := by
  with_unfolding_all
    obtain ⟨_, rfl, h0⟩ := h0
    obtain ⟨ds, ρ', e, h⟩ := CoW.inv I xs [] [] ρ h0 fun a p x q ds ρ ha hp => hs p x q ds ρ (by rw [← hp, ha]; rfl)
    exact ⟨ds, ρ', e, he ds ρ' h⟩
theorem wip1 {ρ1 : Ss} (h : ρ.set v none = ρ1) : wipeS ρ [v] = ρ1 := h
theorem rst1 {ρ1 ρ2 ρ3 : Ss} {o : Option Tm} (h : ρ1[v]? = some o) (hs : ρ2.set v o = ρ3) : restS ρ1 ρ2 [v] = ρ3 := by
  subst hs
  simp only [restS, h]
theorem CoW.data {α : Type} {tg : Tg} {vs : List Nat} {k : Kd} {f : α → D} {K : List D → Ss → Prop} (I : List α → List D → Ss → Prop) (xs : List α) (h0 : ∃ ρ1, wipeS ρ vs = ρ1 ∧ I [] [] ρ1)
    (hs : ∀ p x q ds ρ, xs = p ++ x :: q → I p ds ρ → TW tg (.v k (f x)) ρ fun ρ1 => EW test ρ1 (fun b ρ2 => BoW b (EW elt ρ2 (fun y ρ3 => FzD y fun d => ∃ ρ4, wipeS ρ3 vs = ρ4 ∧ I (p ++ [x]) (ds ++ [d]) ρ4) X0) (∃ ρ4, wipeS ρ2 vs = ρ4 ∧ I (p ++ [x]) ds ρ4)) X0)
    (he : ∀ ds ρ, I xs ds ρ → K ds ρ) : CoW tg test elt vs ((xs.map f).map (Tm.v k)) ρ K := by
  with_unfolding_all
    rw [List.map_map]
    exact CoW.go I xs h0 hs he
theorem wip2 {w : Nat} {ρ1 ρ2 : Ss} (h : ρ.set w none = ρ1) (h2 : ρ1.set v none = ρ2) : wipeS ρ [v, w] = ρ2 := by
  subst h
  exact h2
theorem rst2 {w : Nat} {ρ1 ρ2 ρ3 ρ4 : Ss} {o o2 : Option Tm} (h : ρ1[w]? = some o) (hs : ρ2.set w o = ρ3) (h2 : ρ1[v]? = some o2) (hs2 : ρ3.set v o2 = ρ4) : restS ρ1 ρ2 [v, w] = ρ4 := by
  subst hs hs2
  simp only [restS, h, h2]
/-- may be hidden by a comprehension -/
def Hid (o : Option Tm) : Prop := o = none ∨ ∃ d, o = some (.v .F d)
theorem Hid.ok {o : Option Tm} (h : Hid o) (e : ρ[v]? = some o) : hideOk ρ v = true := by
  unfold hideOk
  rw [e]
  rcases h with rfl | ⟨d, rfl⟩ <;> rfl
theorem Hid.all {o : Option Tm} (h : Hid o) (e : ρ[v]? = some o) : [v].all (hideOk ρ) = true := by simpa using h.ok e
/-- slices -/
def AsW (t : Tm) (ρ : Ss) (K : Option Int → Ss → Prop) : Prop := ∃ i, asI t = some i ∧ K (some i) ρ
@[irreducible] def OW (g : Option Ev) (ρ : Ss) (K : Option Int → Ss → Prop) (X : PX) : Prop := match g with
  | none => K none ρ
  | some g => EW g ρ (fun t ρ1 => ∃ i, asI t = some i ∧ K (some i) ρ1) X
theorem OW.go {go : Option Ev} {k : Option Int → Ss → Ou} (h : OW go ρ (fun i ρ1 => OuW (k i ρ1) P X) X) : OuW (evO go ρ k) P X := by
  with_unfolding_all
    cases go with
    | none => exact h
    | some g =>
      unfold evO
      refine OuW.bind (OuW.imp (show EW g ρ _ X from h) (fun t ρ1 h => ?_) fun _ _ h => h)
      obtain ⟨i, e, h⟩ := h
      rw [e]
      exact h
def SlW (t : Tm) (l h : Option Int) (ρ : Ss) (P : Tm → Ss → Prop) : Prop := ∃ x r, derT ρ t = some x ∧ opSl x l h = some r ∧ P r ρ
theorem OW.imp {go : Option Ev} {K K' : Option Int → Ss → Prop} (h : OW go ρ K X) (i : ∀ j ρ, K j ρ → K' j ρ) : OW go ρ K' X := by
  with_unfolding_all
    cases go with
    | none => exact i _ _ h
    | some g => exact EW.imp h fun t ρ1 h => by obtain ⟨j, e, h⟩ := h; exact ⟨j, e, i _ _ h⟩
theorem EW.sl {gl gh : Option Ev} (h : EW g ρ (fun t ρ1 => OW gl ρ1 (fun l ρ2 => OW gh ρ2 (fun h ρ3 => SlW t l h ρ3 P) X) X) X) : EW (eSl g gl gh) ρ P X := by
  with_unfolding_all
    unfold EW eSl
    refine OuW.bind (OuW.imp h (fun t ρ1 h => OW.go (OW.imp h fun l ρ2 h => OW.go (OW.imp h fun hh ρ3 h => ?_))) fun _ _ h => h)
    obtain ⟨x, r, h1, h2, h3⟩ := h
    simp only [h1, h2]
    exact h3
theorem OW.none {K : Option Int → Ss → Prop} (h : K none ρ) : OW none ρ K X := by with_unfolding_all exact (h)
theorem OW.someI {K : Option Int → Ss → Prop} (h : EW g ρ (fun t ρ1 => AsW t ρ1 K) X) : OW (some g) ρ K X := by with_unfolding_all exact (h)
theorem asI4 {k : Kd} {i : Int} {K : Option Int → Ss → Prop} (h : K (some i) ρ) : AsW (.v k (.int i)) ρ K := ⟨i, rfl, h⟩
theorem cut_from {α : Type} (xs : List α) (k : Nat) : cutD xs (some (k : Int)) none = xs.drop k := by
  unfold cutD
  rw [HT.sIx_nat, HT.sIx_none, List.take_of_length_le (by rw [List.length_drop]; exact Nat.le_refl _)]
  rcases Nat.le_total k xs.length with h | h
  · rw [Nat.min_eq_left h]
  · rw [Nat.min_eq_right h, List.drop_of_length_le h, List.drop_of_length_le (Nat.le_refl _)]
theorem SlW.lst {k : Kd} {xs ys : List D} {l h : Option Int} (h1 : Is ρ t k (.lst xs)) (e : elk k xs = some xs) (hc : cutD xs l h = ys) (p : P (.v .O (.lst ys)) ρ) : SlW t l h ρ P := ⟨_, _, h1, by simp only [opSl, slV, e, Option.map_some, hc], p⟩
theorem EW.rev (h : EW g ρ (fun t ρ1 => ∃ k xs, Is ρ1 t k (.lst xs) ∧ elk k xs = some xs ∧ P (.v .O (.lst xs.reverse)) ρ1) X) : EW (eRev g) ρ P X := by with_unfolding_all exact (EW.op1 (EW.imp h fun t ρ1 h => by
  obtain ⟨k, xs, h1, h2, h3⟩ := h
  exact ⟨_, _, h1, by simp only [opRev, h2, Option.map_some], h3⟩))
theorem O1W.of {f : Tm → Option Tm} {x r : Tm} (h1 : derT ρ t = some x) (h2 : f x = some r) (p : P r ρ) : O1W f t ρ P := ⟨x, r, h1, h2, p⟩
theorem EW.isN (h : EW ga ρ (fun t ρ1 => EW gb ρ1 (fun u ρ2 => ∃ k l x, Is ρ2 t k x ∧ Is ρ2 u l .non ∧ P (.v .F (.bl (isNon x))) ρ2) X) X) : EW (eIsN ga gb) ρ P X := by with_unfolding_all exact (EW.op2 (E2W.imp h fun t u ρ h => by
  obtain ⟨k, l, x, h1, h2, h3⟩ := h
  exact rd2_is h1 h2 rfl h3))
end
end PV

namespace PV
open PySem L2
section
variable {ρ : Ss} {P P' : Tm → Ss → Prop} {X X' : PX} {g ga gb gc g0 test elt gn : Ev} {gs gk : Ss → OuL} {N N' : Ss → Prop} {R R' : Tm → Ss → Prop} {B C B' C' : Ss → Prop} {t u : Tm} {PL PL' : List Tm → Ss → Prop} {it : Iv} {v : Nat}
/-- repr -/
def RpW (t : Tm) (ρ : Ss) (P : Tm → Ss → Prop) : Prop := O1W (rd1 reprD) t ρ P
theorem RpW.go {k : Kd} {d : D} {x : Str} (h1 : Is ρ t k d) (h2 : reprD d = some (.str x)) (p : P (.v .F (.str x)) ρ) : RpW t ρ P := rd1_is h1 h2 p
theorem neD_str (a b : Str) : eqD true (.str a) (.str b) = some (.bl (decide (a ≠ b))) := by
  simp only [eqD, strD, if_true, decide_not]
theorem shp_lints (ns : List Int) : SeqAt.shaped (.list (ns.map .int)) = true := by
  simp [SeqAt.shaped, PyData.canLay0, PyData.depth]
theorem neD_lints (ns ms : List Int) : eqD true (lI ns) (lI ms) = some (.bl (decide (ns ≠ ms))) := by
  simp only [eqD, strD, eqP, toPy, toPys_ints, Option.map_some, shp_lints, and_self, if_true, PyData.eqv, eqv_ints, decide_not]
theorem eqD_lints (ns ms : List Int) : eqD false (lI ns) (lI ms) = some (.bl (decide (ns = ms))) := by
  simp only [eqD, strD, eqP, toPy, toPys_ints, Option.map_some, shp_lints, and_self, if_true, PyData.eqv, eqv_ints, Bool.false_eq_true, if_false]
/-- xs += e -/
def ExtW (i : Nat) (t : Tm) (ρ : Ss) (N : Ss → Prop) : Prop := ∃ xs ys, ρ[i]? = some (some (.v .O (.lst xs))) ∧ ((t = .v .F (.tup ys) ∨ t = .v .F (.lst ys) ∨ t = .v .O (.lst ys)) ∨ ((t = .v .B (.tup ys) ∨ t = .v .B (.lst ys)) ∧ elk .B ys = some ys)) ∧ (xs ++ ys).length ≤ sizeLine ∧ ∃ ρ2, ρ.set i (some (.v .O (.lst (xs ++ ys)))) = ρ2 ∧ N ρ2
theorem SW.ext {i : Nat} {zs : List D} (h0 : ρ[i]? = some (some (.v .O (.lst zs)))) (h : EW g ρ (fun t ρ1 => ExtW i t ρ1 N) X) : SW (sExt i g) ρ N R B C X := by
  with_unfolding_all
    unfold SW sExt
    simp only [h0]
    refine OuW.toF (OuW.imp h (fun t ρ1 h => ?_) fun _ _ h => h)
    obtain ⟨xs, ys, h1, h2, h3, _, rfl, h⟩ := h
    rcases h2 with (rfl | rfl | rfl) | ⟨rfl | rfl, e⟩
    · simp only [h1, opExt, elk, Option.map_some]; rw [if_pos h3]; exact h
    · simp only [h1, opExt, elk, Option.map_some]; rw [if_pos h3]; exact h
    · simp only [h1, opExt, elk, Option.map_some]; rw [if_pos h3]; exact h
    · simp only [h1, opExt, e, Option.map_some]; rw [if_pos h3]; exact h
    · simp only [h1, opExt, e, Option.map_some]; rw [if_pos h3]; exact h
theorem ExtW.F {i : Nat} {xs ys : List D} {ρ2 : Ss} (h1 : ρ[i]? = some (some (.v .O (.lst xs)))) (hz : (xs ++ ys).length ≤ sizeLine) (hs : ρ.set i (some (.v .O (.lst (xs ++ ys)))) = ρ2) (h : N ρ2) : ExtW i (.v .F (.tup ys)) ρ N := ⟨xs, ys, h1, .inl (.inl rfl), hz, _, hs, h⟩
theorem IW.zip (h : EW ga ρ (fun t ρ1 => EW gb ρ1 (fun u ρ2 => ∃ ts, itemsZip t u = some ts ∧ PL ts ρ2) X) X) : IW (itZip ga gb) ρ PL X := by
  with_unfolding_all
    unfold IW itZip
    refine OuW.bindL (OuW.imp h (fun t ρ1 h => OuW.bindL (OuW.imp h (fun u ρ2 h => ?_) fun _ _ h => h)) fun _ _ h => h)
    obtain ⟨ts, e, h⟩ := h
    rw [e]
    exact h
theorem EW.neg (h : EW g ρ (fun t ρ1 => I1W t ρ1 fun i => P (.v .F (.int (-i))) ρ1) X) : EW (eNeg g) ρ P X := EW.op1 (EW.imp h fun t ρ1 h => by
  obtain ⟨i, k, h1, h2⟩ := h
  exact rd1_is h1 rfl h2)
/-- for x in A for u in range(n) -/
def CrW (tgt : Tg) (gn : Ev) (tgt1 : Tg) (elt : Ev) (vs vs1 : List Nat) (ts : List Tm) (ρ : Ss) (K : List D → Ss → Prop) : Prop := ∃ ds ρ', compR tgt gn tgt1 elt vs vs1 ts ρ = some (ds, ρ') ∧ K ds ρ'
theorem CrW.nil {tgt tgt1 : Tg} {vs vs1 : List Nat} {K : List D → Ss → Prop} {ρ1 : Ss} (hw : wipeS ρ vs = ρ1) (h : K [] ρ1) : CrW tgt gn tgt1 elt vs vs1 [] ρ K := ⟨[], ρ1, by simp only [PV.compR, hw], h⟩
theorem CrW.cons {tgt tgt1 : Tg} {vs vs1 : List Nat} {K : List D → Ss → Prop} {ρ1 : Ss} {ts : List Tm} (hw : wipeS ρ vs = ρ1)
    (h : TW tgt t ρ1 fun ρ2 => EW gn ρ2 (fun n ρ3 => R1W n fun j => CoW tgt1 eTrue elt vs1 (rngL 0 j.toNat) ρ3 fun ds1 ρ4 => CrW tgt gn tgt1 elt vs vs1 ts ρ4 fun ds ρ5 => K (ds1 ++ ds) ρ5) X0) : CrW tgt gn tgt1 elt vs vs1 (t :: ts) ρ K := by
  obtain ⟨ρ2, e2, h⟩ := h
  obtain ⟨n, ρ3, e3, j, e4, hb, ds1, ρ4, e5, ds, ρ5, e6, h⟩ := EW.get h
  subst hw
  refine ⟨_, _, ?_, h⟩
  simp only [PV.compR, e2, e3, e4]
  rw [if_pos hb, e5]
  simp only [e6]
theorem filt_true {α : Type} (xs : List α) : (xs.filter fun _ => true) = xs := by simp
theorem set_back {ρ : Ss} {v : Nat} (h : ρ[v]? = some none) : ρ.set v none = ρ := by
  obtain ⟨hl, e⟩ := List.getElem?_eq_some_iff.mp h
  rw [← e]
  exact List.set_getElem_self hl
/-- for a, b in pairs: the parts of each pair, no effects, the two names as they were -/
theorem EW.pairs {α : Type} {k : Kd} {f1 f2 : α → D} {v w : Nat} (r : α → D) (hvw : v ≠ w) (h : IW it ρ (fun ts ρ1 => ∃ xs : List α, ts = (xs.map fun x => D.tup [f1 x, f2 x]).map (subK k) ∧ [v, w].all (hideOk ρ1) = true ∧ ρ1[v]? = some none ∧ ρ1[w]? = some none ∧ xs.length ≤ sizeLine ∧
    (∀ x ∈ xs, ∃ ρ2 ρ3, ρ1.set v (some (subK k (f1 x))) = ρ2 ∧ ρ2.set w (some (subK k (f2 x))) = ρ3 ∧ EW elt ρ3 (fun t ρ4 => FzD t fun d => d = r x ∧ ρ4 = ρ3) X0) ∧ P (.v .O (.lst (xs.map r))) ρ1) X) : EW (eComp it [v, w] (tgTup (tgsCons (tgN v) (tgsCons (tgN w) tgsNil))) eTrue elt) ρ P X := by
  refine EW.comp ?_
  unfold IW at h ⊢
  cases e : it ρ with
  | no => rw [e] at h; exact h
  | ex a b => rw [e] at h; exact h
  | ok ts ρ1 =>
    rw [e] at h
    obtain ⟨xs, rfl, ha, h1, h2, hz, he, hp⟩ := h
    have l1 := (List.getElem?_eq_some_iff.mp h1).1
    have l2 := (List.getElem?_eq_some_iff.mp h2).1
    refine ⟨ha, ?_⟩
    have hw0 : wipeS ρ1 [v, w] = ρ1 := by
      show (ρ1.set w none).set v none = ρ1
      rw [set_back h2, set_back h1]
    rw [List.map_map]
    refine CoW.go (inj := subK k ∘ fun x => D.tup [f1 x, f2 x]) (fun p es ρ => ρ = ρ1 ∧ es = p.map r) xs ⟨_, hw0, rfl, rfl⟩ ?_ ?_
    · rintro p x q es ρ hpx ⟨rfl, rfl⟩
      obtain ⟨_, _, rfl, rfl, h3⟩ := he x (by rw [hpx]; simp)
      have hk : ∀ d : D, isLoc (subK k d) = false := fun d => by cases k <;> rfl
      have hback : wipeS ((ρ.set v (some (subK k (f1 x)))).set w (some (subK k (f2 x)))) [v, w] = ρ := by
        show ((((ρ.set v _).set w _).set w none).set v none) = ρ
        rw [List.set_set, List.set_comm _ _ hvw, List.set_set, set_back h2, set_back h1]
      refine ⟨(ρ.set v (some (subK k (f1 x)))).set w (some (subK k (f2 x))), ?_, ?_⟩
      · have e1 : tgTup (tgsCons (tgN v) (tgsCons (tgN w) tgsNil)) (subK k (D.tup [f1 x, f2 x])) ρ = tgsCons (tgN v) (tgsCons (tgN w) tgsNil) [subK k (f1 x), subK k (f2 x)] ρ := by cases k <;> rfl
        show tgTup _ (subK k (D.tup [f1 x, f2 x])) ρ = _
        rw [e1]
        simp only [tgsCons_eq, tgN_eq, hk, l1, l2, List.length_set, and_self, if_true, Option.bind_some, tgsNil_eq]
      · refine EW.tr (BoW.tt ?_)
        refine EW.imp h3 fun t ρ4 h4 => ?_
        obtain ⟨d, hd, rfl, rfl⟩ := h4
        exact ⟨_, hd, _, hback, rfl, by rw [List.map_append]; rfl⟩
    · rintro es ρ ⟨rfl, rfl⟩
      refine ⟨by rw [List.length_map]; exact hz, ρ, ?_, hp⟩
      exact rst2 h2 (set_back h2) h1 (set_back h1)
abbrev rgI (n : Nat) : List Int := (List.range n).map fun i : Nat => (i : Int)
theorem FzW.ob {c : Nat} {ts : List Tm} (h : FzsW ts fun ds => P (.v .F (.ins c ds)) ρ) : FzW (.ob c ts) ρ P := by
  with_unfolding_all
    obtain ⟨ds, e, h⟩ := h
    have e2 : frz (.ob c ts) = some (.ins c ds) := by rw [PV.frz, e]; rfl
    unfold FzW eF1
    simp only [e2]
    exact h
theorem cut_to {α : Type} (xs : List α) (k : Nat) : cutD xs none (some (k : Int)) = xs.take k := by
  unfold cutD
  rw [HT.sIx_nat, HT.sIx_none, List.drop_zero, Nat.sub_zero]
  rcases Nat.le_total k xs.length with h | h
  · rw [Nat.min_eq_left h]
  · rw [Nat.min_eq_right h, List.take_of_length_le h, List.take_of_length_le (Nat.le_refl _)]
end
end PV

namespace PV
open PySem L2
section
variable {ρ : Ss} {P P' : Tm → Ss → Prop} {X X' : PX} {g ga gb gc g0 test elt gn : Ev} {gs gk : Ss → OuL} {N N' : Ss → Prop} {R R' : Tm → Ss → Prop} {B C B' C' : Ss → Prop} {t u : Tm} {PL PL' : List Tm → Ss → Prop} {it : Iv} {v : Nat}
@[irreducible] def CaKW (f : Fn) (ms : List Md) (t0 : Tm) (ts us : List Tm) (dfl : List D) (ρ : Ss) (P : Tm → Ss → Prop) (X : PX) : Prop := CaW f ms (t0 :: (ts ++ us ++ dfl.map (Tm.v .F))) ρ P X
theorem EW.min1 (h : EW g ρ (fun t ρ1 => ∃ k ns m, Is ρ1 t k (lI ns) ∧ ns.min? = some m ∧ P (.v .F (.int m)) ρ1) X) : EW (eMin1 g) ρ P X := EW.op1 (EW.imp h fun t ρ1 h => by
  obtain ⟨k, ns, m, h1, h2, h3⟩ := h
  exact rd1_is h1 (by simp only [dL1, intsD_lI, Option.bind_some, h2, Option.map_some]) h3)
end
end PV

namespace PV
open PySem L2
section
variable {ρ : Ss} {P P' : Tm → Ss → Prop} {X X' : PX} {g ga gb gc g0 : Ev} {gs gk : Ss → OuL} {N N' : Ss → Prop} {R R' : Tm → Ss → Prop} {B C B' C' : Ss → Prop} {t u : Tm} {PL PL' : List Tm → Ss → Prop} {v : Nat} {it : Iv}
theorem EW.isi {T : Ty} (h : EW g ρ (fun t ρ1 => ∃ k d a, Is ρ1 t k d ∧ tyD d = some a ∧ P (.v .F (.bl (isiB a T))) ρ1) X) : EW (eIsi T g) ρ P X := EW.op1 (EW.imp h fun t ρ1 h => by
  obtain ⟨k, d, a, h1, h2, h3⟩ := h
  exact rd1_is h1 (by simp only [isiD, h2, Option.map_some]) h3)
theorem EW.all (h : EW g ρ (fun t ρ1 => ∃ (k : Kd) (bs : List Bool), Is ρ1 t k (.lst (bs.map .bl)) ∧ P (.v .F (.bl (bs.all id))) ρ1) X) : EW (eAll g) ρ P X := EW.op1 (EW.imp h fun t ρ1 h => by
  obtain ⟨k, bs, h1, h3⟩ := h
  exact rd1_is h1 (by simp only [allD, bsD_map, Option.map_some]) h3)
def SoW (t : Tm) (ρ : Ss) (P : Tm → Ss → Prop) : Prop := O1W opSort2 t ρ P
theorem EW.sort2 (h : EW g ρ (fun t ρ1 => SoW t ρ1 P) X) : EW (eSort2 g) ρ P X := EW.op1 h
theorem SoW.ints {k : Kd} {ns : List Int} {d : D} (h1 : Is ρ t k d) (h2 : d = lI ns ∨ d = .tup (ns.map .int)) (p : P (.v .O (lI (isort ns))) ρ) : SoW t ρ P := by
  refine ⟨_, _, h1, ?_, p⟩
  rcases h2 with rfl | rfl <;> simp only [opSort2, opSort, toD_v, intsD_map, Option.map_some]
theorem SoW.prs {k : Kd} {ps : List (Int × Int)} (h1 : Is ρ t k (.lst (ps.map pI))) (p : P (.v .O (.lst ((psort ps).map pI))) ρ) : SoW t ρ P := by
  cases ps with
  | nil =>
    rw [show psort [] = [] by simp [psort]] at p
    exact SoW.ints (ns := []) h1 (.inl rfl) (by rw [show isort [] = [] by simp [isort]]; exact p)
  | cons q ps =>
    refine ⟨_, _, h1, ?_, p⟩
    have e1 : opSort (.v k (.lst (List.map pI (q :: ps)))) = none := by
      simp only [opSort, toD_v, List.map_cons, pI, intsD, Option.map_none]
    simp only [opSort2, e1, opSortP, toD_v, pairsD_map, Option.map_some]
theorem EW.join (h : EW ga ρ (fun t ρ1 => ∃ z, (derT ρ1 t).bind asS = some z ∧ EW gb ρ1 (fun u ρ2 => ∃ (k : Kd) (ys : List PySem.Str), Is ρ2 u k (.lst (ys.map .str)) ∧ (ys.map (·.length)).sum + ys.length * z.length ≤ 16777216 ∧ P (.v .F (.str (Txt.join z ys))) ρ2) X) X) : EW (eJoin ga gb) ρ P X := by
  with_unfolding_all
    unfold EW eJoin
    refine OuW.bind (OuW.imp h (fun t ρ1 h => ?_) fun _ _ h => h)
    obtain ⟨z, e, h⟩ := h
    rw [e]
    refine OuW.bind (OuW.imp h (fun u ρ2 h => ?_) fun _ _ h => h)
    obtain ⟨k, ys, h1, h2, h3⟩ := h
    have e2 : (derT ρ2 u).bind (joinO z) = some (.v .F (.str (Txt.join z ys))) := by
      rw [show derT ρ2 u = _ from h1, Option.bind_some]
      simp only [joinO, toD_v, strsD_map, Option.bind_some, if_pos h2]
    rw [e2]
    exact h3
end
end PV

namespace PV
open PySem L2
section
variable {ρ : Ss} {P P' : Tm → Ss → Prop} {X X' : PX} {g ga gb gc g0 : Ev} {gs gk : Ss → OuL} {N N' : Ss → Prop} {R R' : Tm → Ss → Prop} {B C B' C' : Ss → Prop} {t u : Tm} {PL PL' : List Tm → Ss → Prop} {v : Nat} {it : Iv}
/-! while -/
/-! == of encoded data -/
structure Enc {α : Type} [DecidableEq α] (f : α → D) (g : α → PyData) (n : Nat) : Prop where
  py : ∀ a, toPy (f a) = some (g a)
  eq : ∀ a b, PyData.eqv (g a) (g b) = decide (a = b)
  lay : ∀ a, (g a).canLay0 = true
  dep : ∀ a, (g a).depth ≤ n
  ns : ∀ a, strD (f a) = none
section
variable {α β : Type} [DecidableEq α] [DecidableEq β] {f : α → D} {gp : α → PyData} {n : Nat} {f' : β → D} {gp' : β → PyData} {m : Nat}
theorem Enc.int : Enc D.int PyData.int 0 := ⟨fun _ => rfl, fun a b => by simp [PyData.eqv]; first | done | rfl, fun _ => by simp [PyData.canLay0], fun _ => by simp [PyData.depth], fun _ => rfl⟩
theorem toPys_map (e : Enc f gp n) : ∀ as : List α, toPys (as.map f) = some (as.map gp)
  | [] => rfl
  | a :: as => by simp only [List.map_cons, toPys, e.py, toPys_map e as]
theorem eqvAll_map (e : Enc f gp n) : ∀ as bs : List α, PyData.eqvAll (as.map gp) (bs.map gp) = decide (as = bs)
  | [], [] => by simp [PyData.eqvAll]
  | [], b :: bs => by simp [PyData.eqvAll]
  | a :: as, [] => by simp [PyData.eqvAll]
  | a :: as, b :: bs => by
    simp only [List.map_cons, PyData.eqvAll, e.eq, eqvAll_map e as bs]
    by_cases h1 : a = b <;> by_cases h2 : as = bs <;> simp [h1, h2]
theorem layAll_map (e : Enc f gp n) : ∀ as : List α, PyData.canLayAll0 (as.map gp) = true
  | [] => by simp [PyData.canLayAll0]
  | a :: as => by simp only [List.map_cons, PyData.canLayAll0, e.lay, layAll_map e as, Bool.and_self]
theorem depAll_map (e : Enc f gp n) : ∀ as : List α, PyData.depthAll (as.map gp) ≤ n
  | [] => by simp [PyData.depthAll]
  | a :: as => by
    have := e.dep a
    have := depAll_map e as
    simp only [List.map_cons, PyData.depthAll]
    omega
theorem Enc.lst (e : Enc f gp n) : Enc (fun as : List α => D.lst (as.map f)) (fun as => PyData.list (as.map gp)) (n + 1) :=
  ⟨fun as => by simp only [toPy, toPys_map e, Option.map_some], fun a b => by rw [PyData.eqv, eqvAll_map e], fun as => by rw [PyData.canLay0, layAll_map e], fun as => by rw [PyData.depth]; have := depAll_map e as; omega, fun _ => rfl⟩
theorem Enc.tup (e : Enc f gp n) : Enc (fun as : List α => D.tup (as.map f)) (fun as => PyData.tuple (as.map gp)) (n + 1) :=
  ⟨fun as => by simp only [toPy, toPys_map e, Option.map_some], fun a b => by rw [PyData.eqv, eqvAll_map e], fun as => by rw [PyData.canLay0, layAll_map e], fun as => by rw [PyData.depth]; have := depAll_map e as; omega, fun _ => rfl⟩
end
end
end PV

namespace PV
open PySem L2
section
variable {ρ : Ss} {P P' : Tm → Ss → Prop} {X X' : PX} {g ga gb gc gd g0 : Ev} {gs gk : Ss → OuL} {N N' : Ss → Prop} {R R' : Tm → Ss → Prop} {B C B' C' : Ss → Prop} {t u w : Tm} {PL PL' : List Tm → Ss → Prop} {v : Nat} {it : Iv}
theorem IW.enA (h : EW g ρ (fun t ρ1 => ∃ ts, itemsEnA t = some ts ∧ PL ts ρ1) X) : IW (itEnA g) ρ PL X := by
  with_unfolding_all
    unfold IW itEnA
    refine OuW.bindL (OuW.imp h (fun t ρ1 h => ?_) fun _ _ h => h)
    obtain ⟨ts, e, h⟩ := h
    rw [e]
    exact h
/-! chains of ≤ over ints -/
abbrev leF : Tm → Tm → Option Tm := rd2 (dC2 fun i j => decide (i ≤ j))
/-! in over data -/
def Rp2W (t : Tm) (ρ : Ss) (P : Tm → Ss → Prop) : Prop := O1W (rd1 reprD2) t ρ P
theorem EW.repr2 (h : EW g ρ (fun t ρ1 => Rp2W t ρ1 P) X) : EW (eRepr2 g) ρ P X := EW.op1 h
theorem Rp2W.bl {k : Kd} {b : Bool} (h1 : Is ρ t k (.bl b)) (p : P (.v .F (.str (boS b))) ρ) : Rp2W t ρ P := rd1_is h1 rfl p
theorem Rp2W.int {k : Kd} {i : Int} (h1 : Is ρ t k (.int i)) (h2 : i.natAbs.log2 < 1920) (p : P (.v .F (.str (toString i))) ρ) : Rp2W t ρ P := rd1_is h1 (by simp only [reprD2, reprD, toPy, if_pos h2]) p
theorem Rp2W.go {k : Kd} {d : D} {x : Str} (h1 : Is ρ t k d) (h2 : reprD2 d = some (.str x)) (p : P (.v .F (.str x)) ρ) : Rp2W t ρ P := rd1_is h1 h2 p
theorem EW.nm {op : List D → List D → Option (D × List D)} (h : EW g ρ (fun t ρ1 => ∃ xs, t = .v .O (.lst xs) ∧ AW gs ρ1 (fun ts ρ2 => FzsW ts fun ds => ∃ x xs', op xs ds = some (x, xs') ∧ xs'.length ≤ sizeLine ∧ P (.v .F x) ρ2) X) X) : EW (eNm op g gs) ρ P X := by
  with_unfolding_all
    unfold EW eNm
    refine OuW.bind (OuW.imp h (fun t ρ1 h => ?_) fun _ _ h => h)
    obtain ⟨xs, rfl, h⟩ := h
    dsimp only
    refine OlW.bind (OlW.imp h fun ts ρ1 h => ?_)
    obtain ⟨ds, e1, x, xs', e2, e3, h⟩ := h
    simp only [e1, e2]
    rw [if_pos e3]
    exact h
theorem EW.notN (h : EW ga ρ (fun t ρ1 => EW gb ρ1 (fun u ρ2 => ∃ k l x, Is ρ2 t k x ∧ Is ρ2 u l .non ∧ P (.v .F (.bl (!isNon x))) ρ2) X) X) : EW (eNotN ga gb) ρ P X := by with_unfolding_all exact (EW.op2 (E2W.imp h fun t u ρ h => by
  obtain ⟨k, l, x, h1, h2, h3⟩ := h
  exact rd2_is h1 h2 rfl h3))
end
end PV

namespace PV
open PySem L2
section
variable {ρ ρ1 : Ss} {P P' : Tm → Ss → Prop} {X X' : PX} {g ga gb gc gi : Ev} {gs gk : Ss → OuL} {N N' : Ss → Prop} {R R' : Tm → Ss → Prop} {B C B' C' : Ss → Prop} {t u w : Tm} {i j c : Nat}
theorem OuW.ok {o : Ou} {P : Tm → Ss → Prop} (h : OuW o P X0) : ∃ t ρ, o = .ok t ρ ∧ P t ρ := by
  cases o with
  | ok t ρ => exact ⟨t, ρ, rfl, h⟩
  | ex e ρ => exact h.elim
  | no => exact h.elim
theorem OlW.ok {o : OuL} {P : List Tm → Ss → Prop} (h : OlW o P X0) : ∃ t ρ, o = .ok t ρ ∧ P t ρ := by
  cases o with
  | ok t ρ => exact ⟨t, ρ, rfl, h⟩
  | ex e ρ => exact h.elim
  | no => exact h.elim
end
end PV

namespace PV
open PySem PySem.Spec L2
section
variable {ρ : Ss} {P P' : Tm → Ss → Prop} {X X' : PX} {g ga gb gc : Ev} {gs : Ss → OuL} {N N' : Ss → Prop} {R R' : Tm → Ss → Prop} {B C B' C' : Ss → Prop} {t u : Tm}
end
end PV

namespace PV
open PySem L2
section
variable {ρ : Ss} {P P' : Tm → Ss → Prop} {X X' : PX} {g ga gb gc g0 test elt gn : Ev} {v : Nat}
end
end PV

namespace PV
open PySem PySem.Spec L2
section
variable {ρ : Ss} {P : Tm → Ss → Prop} {X : PX} {g ga gb : Ev} {gs : Ss → OuL} {N : Ss → Prop} {R : Tm → Ss → Prop} {B C : Ss → Prop}
theorem SW.raise {c : Nat} (h : EW ga ρ (fun t ρ1 => ∃ d, t = .v .F d ∧ X ⟨c, [d]⟩ ρ1) X) : SW (sRaise c ga) ρ N R B C X := by
  with_unfolding_all
    unfold SW sRaise
    refine OuW.toF (OuW.imp h (fun t ρ1 h => ?_) fun _ _ h => h)
    obtain ⟨d, rfl, h⟩ := h
    exact h
/-- what is asked of an error of the body -/
def TryW (kn : List Nat) (hs : List Hd) (N : Ss → Prop) (R : Tm → Ss → Prop) (B C : Ss → Prop) (X : PX) : PX := fun e ρ1 => e.c ∈ kn ∧ match hs.find? (fun h => e.c == h.c) with
  | some h => h.j < ρ1.length ∧ FlW (h.k e.ds (ρ1.set h.j none)) N R B C X
  | none => X e ρ1
end
end PV

namespace PV
open PySem PySem.Spec L2
section
variable {ρ : Ss} {P : Tm → Ss → Prop} {X : PX} {g ga gb : Ev} {gs : Ss → OuL} {N : Ss → Prop} {R : Tm → Ss → Prop} {B C : Ss → Prop} {t : Tm}
theorem EW.isB (h : EW ga ρ (fun t ρ1 => EW gb ρ1 (fun u ρ2 => ∃ k l a b, Is ρ2 t k (.bl a) ∧ Is ρ2 u l (.bl b) ∧ P (.v .F (.bl (decide (a = b)))) ρ2) X) X) : EW (eIsB ga gb) ρ P X := by with_unfolding_all exact (EW.op2 (E2W.imp h fun t u ρ h => by
  obtain ⟨k, l, a, b, h1, h2, h3⟩ := h
  exact rd2_is h1 h2 rfl h3))
def Rp3W (t : Tm) (ρ : Ss) (P : Tm → Ss → Prop) : Prop := O1W (rd1 reprD3) t ρ P
theorem Rp3W.bl {k : Kd} {b : Bool} (h1 : Is ρ t k (.bl b)) (p : P (.v .F (.str (boS b))) ρ) : Rp3W t ρ P := rd1_is h1 rfl p
theorem Rp3W.int {k : Kd} {i : Int} (h1 : Is ρ t k (.int i)) (h2 : i.natAbs.log2 < 1920) (p : P (.v .F (.str (toString i))) ρ) : Rp3W t ρ P := rd1_is h1 (by simp only [reprD3, if_pos h2]) p
theorem Rp3W.go {k : Kd} {d : D} {x : Str} (h1 : Is ρ t k d) (h2 : reprD3 d = some (.str x)) (p : P (.v .F (.str x)) ρ) : Rp3W t ρ P := rd1_is h1 h2 p
end
/-! data that can be shown -/
/-- data with a text: all ints short, not deep, not too many -/
structure ShD (n m : Nat) (d : D) (p : PyData) : Prop where
  py : toPyE d = some p
  sh : PyData.showable p = true
  lf : PyData.leavesShort 13 p = true
  dp : PyData.depth p ≤ n
  wt : PyData.weight p ≤ m
structure ShDs (n m : Nat) (ds : List D) (ps : List PyData) : Prop where
  py : toPyEs ds = some ps
  sh : PyData.showableAll ps = true
  lf : PyData.leavesShortAll 13 ps = true
  dp : PyData.depthAll ps ≤ n
  wt : PyData.weightAll ps ≤ m
theorem ShDs.nil : ShDs 0 0 [] [] := ⟨by simp [toPyEs], by simp [PyData.showableAll], by simp [PyData.leavesShortAll], by simp [PyData.depthAll], by simp [PyData.weightAll]⟩
theorem ShDs.cons {n n2 m m2 : Nat} {d : D} {ds : List D} {p : PyData} {ps : List PyData} (h : ShD n m d p) (hs : ShDs n2 m2 ds ps) : ShDs (max n n2) (m + 1 + m2) (d :: ds) (p :: ps) :=
  ⟨by simp only [toPyEs, h.py, hs.py], by simp only [PyData.showableAll, h.sh, hs.sh, Bool.and_self], by simp only [PyData.leavesShortAll, h.lf, hs.lf, Bool.and_self],
   by simp only [PyData.depthAll]; have := h.dp; have := hs.dp; omega, by simp only [PyData.weightAll]; have := h.wt; have := hs.wt; omega⟩
theorem ShD.mono {n n2 m m2 : Nat} {d : D} {p : PyData} (h : ShD n m d p) (h1 : n ≤ n2) (h2 : m ≤ m2) : ShD n2 m2 d p := ⟨h.py, h.sh, h.lf, Nat.le_trans h.dp h1, Nat.le_trans h.wt h2⟩
theorem ShDs.mono {n n2 m m2 : Nat} {d : List D} {p : List PyData} (h : ShDs n m d p) (h1 : n ≤ n2) (h2 : m ≤ m2) : ShDs n2 m2 d p := ⟨h.py, h.sh, h.lf, Nat.le_trans h.dp h1, Nat.le_trans h.wt h2⟩
theorem ShDs.lst {n m : Nat} {ds : List D} {ps : List PyData} (h : ShDs n m ds ps) : ShD (n + 1) m (.lst ds) (.list ps) :=
  ⟨by simp only [toPyE, h.py, Option.map_some], by simp only [PyData.showable]; exact h.sh, by simp only [PyData.leavesShort]; exact h.lf, by simp only [PyData.depth]; have := h.dp; omega, by simp only [PyData.weight]; have := h.wt; omega⟩
theorem ShDs.tup {n m : Nat} {ds : List D} {ps : List PyData} (h : ShDs n m ds ps) : ShD (n + 1) m (.tup ds) (.tuple ps) :=
  ⟨by simp only [toPyE, h.py, Option.map_some], by simp only [PyData.showable]; exact h.sh, by simp only [PyData.leavesShort]; exact h.lf, by simp only [PyData.depth]; have := h.dp; omega, by simp only [PyData.weight]; have := h.wt; omega⟩
theorem ShDs.app {n n2 m m2 : Nat} : ∀ {ds es : List D} {ps qs : List PyData}, ShDs n m ds ps → ShDs n2 m2 es qs → ShDs (max n n2) (m + m2) (ds ++ es) (ps ++ qs) := by
  intro ds
  induction ds generalizing m with
  | nil =>
    intro es ps qs h hs
    have e := h.py
    simp only [toPyEs, Option.some.injEq] at e
    subst e
    exact hs.mono (Nat.le_max_right _ _) (Nat.le_add_left _ _)
  | cons d ds ih =>
    intro es ps qs h hs
    have e := h.py
    simp only [toPyEs] at e
    split at e
    · rename_i p ps' e1 e2
      cases e
      have h1 := h.sh; have h2 := h.lf; have h3 := h.dp; have h4 := h.wt
      simp only [PyData.showableAll, Bool.and_eq_true] at h1
      simp only [PyData.leavesShortAll, Bool.and_eq_true] at h2
      simp only [PyData.depthAll] at h3
      simp only [PyData.weightAll] at h4
      have hd : ShD n (PyData.weight p) d p := ⟨e1, h1.1, h2.1, by omega, Nat.le_refl _⟩
      have hr : ShDs n (PyData.weightAll ps') ds ps' := ⟨e2, h1.2, h2.2, by omega, Nat.le_refl _⟩
      have := ShDs.cons hd (ih hr hs)
      exact this.mono (by omega) (by omega)
    · cases e
end PV

namespace PV
open PySem PySem.Spec L2
section
variable {ρ : Ss} {P : Tm → Ss → Prop} {X : PX} {g ga gb : Ev} {t : Tm}
end
end PV

namespace PV
open PySem PySem.Spec L2
section
variable {ρ : Ss} {P P' : Tm → Ss → Prop} {X X' : PX} {g ga gb gc gn elt : Ev} {gs : Ss → OuL} {N N' : Ss → Prop} {R R' : Tm → Ss → Prop} {B C B' C' : Ss → Prop} {t u : Tm} {it : Iv}
theorem EW.sortSet3 (h : EW g ρ (fun t ρ1 => ∃ k ns d, Is ρ1 t k d ∧ (d = lI ns ∨ d = .tup (ns.map .int)) ∧ ns.length < 4000 ∧ P (.v .O (lI (usort ns))) ρ1) X) : EW (eSortSet3 g) ρ P X := by with_unfolding_all exact (EW.op1 (EW.imp h fun t ρ1 h => by
  obtain ⟨k, ns, d, h1, h2, h4, h3⟩ := h
  have e0 : ssD3 (ns.map D.int) = some (.v .O (lI (usort ns))) := by
    simp only [ssD3, intsD_map]
    rw [if_pos (by unfold scanBound; omega)]
  rcases h2 with rfl | rfl
  · exact ⟨_, _, h1, by simp only [opSS3, toD, lI]; exact e0, h3⟩
  · exact ⟨_, _, h1, by simp only [opSS3, toD]; exact e0, h3⟩))
/-- for x in A for u in a tuple -/
def CsW (tgt : Tg) (gn : Ev) (tgt1 : Tg) (elt : Ev) (vs vs1 : List Nat) (ts : List Tm) (ρ : Ss) (K : List D → Ss → Prop) : Prop := ∃ ds ρ', compS tgt gn tgt1 elt vs vs1 ts ρ = some (ds, ρ') ∧ K ds ρ'
theorem CsW.nil {tgt tgt1 : Tg} {vs vs1 : List Nat} {K : List D → Ss → Prop} {ρ1 : Ss} (hw : wipeS ρ vs = ρ1) (h : K [] ρ1) : CsW tgt gn tgt1 elt vs vs1 [] ρ K := ⟨[], ρ1, by simp only [PV.compS, hw], h⟩
theorem CsW.cons {tgt tgt1 : Tg} {vs vs1 : List Nat} {K : List D → Ss → Prop} {ρ1 : Ss} {ts : List Tm} (hw : wipeS ρ vs = ρ1)
    (h : TW tgt t ρ1 fun ρ2 => EW gn ρ2 (fun n ρ3 => ∃ us, itF n = some us ∧ CoW tgt1 eTrue elt vs1 us ρ3 fun ds1 ρ4 => CsW tgt gn tgt1 elt vs vs1 ts ρ4 fun ds ρ5 => K (ds1 ++ ds) ρ5) X0) : CsW tgt gn tgt1 elt vs vs1 (t :: ts) ρ K := by
  obtain ⟨ρ2, e2, h⟩ := h
  obtain ⟨n, ρ3, e3, us, e4, ds1, ρ4, e5, ds, ρ5, e6, h⟩ := EW.get h
  subst hw
  refine ⟨_, _, ?_, h⟩
  simp only [PV.compS, e2, e3, e4, e5, e6]
end
end PV

namespace PV
open PySem PySem.Spec L2
section
variable {ρ : Ss} {P P' : Tm → Ss → Prop} {X X' : PX} {g ga gb : Ev} {t u : Tm} {c : Nat} {fn : Fn} {ms : List Md} {neg : Bool}
theorem EW.own (h : EW ga ρ (fun t ρ1 => EW gb ρ1 (fun u ρ2 => isOb c (derT ρ2 t) = true ∧ ∃ u', derT ρ2 u = some u' ∧ tyC c (toD u') = true ∧ CaW fn ms [t, u] ρ2 (fun r ρ3 => ∃ b, r = .v .F (.bl b) ∧ P (.v .F (.bl (if neg = true then !b else b))) ρ3) X0) X) X) : EW (eOwn c fn ms neg ga gb) ρ P X := by
  with_unfolding_all
    unfold EW eOwn
    refine OuW.bind (OuW.imp h (fun t ρ1 h => OuW.bind (OuW.imp h (fun u ρ2 h => ?_) fun _ _ h => h)) fun _ _ h => h)
    obtain ⟨h1, u', h2, h3, h4⟩ := h
    rw [if_pos h1, h2]
    dsimp only
    rw [if_pos h3]
    unfold CaW at h4
    cases ec : callF fn ms [t, u] ρ2 with
    | ok r ρ3 =>
      rw [ec] at h4
      obtain ⟨b, rfl, h5⟩ := h4
      exact h5
    | ex e ρ3 => rw [ec] at h4; exact h4.elim
    | no => rw [ec] at h4; exact h4.elim
end
end PV

namespace PV
open PySem PySem.Spec L2
section
variable {ρ : Ss} {P P' : Tm → Ss → Prop} {X X' : PX} {g ga gb : Ev} {t u : Tm} {N : Ss → Prop} {R : Tm → Ss → Prop} {B C : Ss → Prop}
def TryKW (kn : List Nat) (sub : Nat → Bool) (j y : Nat) (N : Ss → Prop) (X : PX) : PX := fun e ρ1 => e.c ∈ kn ∧ (if sub e.c = true then j < ρ1.length ∧ y < ρ1.length ∧ ∃ ρ2, (ρ1.set j none).set y (some (.v .F (.err e.c e.ds))) = ρ2 ∧ N ρ2 else X e ρ1)
theorem SW.tryK {kn : List Nat} {sub : Nat → Bool} {j y : Nat} {g : Sm} (h : SW g ρ N R B C (TryKW kn sub j y N X)) : SW (sTryK kn sub j y g) ρ N R B C X := by
  with_unfolding_all
    unfold SW at h ⊢
    unfold sTryK
    cases eg : g ρ with
    | nx ρ' => rw [eg] at h; exact h
    | bk ρ' => rw [eg] at h; exact h
    | ct ρ' => rw [eg] at h; exact h
    | rt t ρ' => rw [eg] at h; exact h
    | no => rw [eg] at h; exact h
    | ex e ρ1 =>
      rw [eg] at h
      obtain ⟨h1, h2⟩ : TryKW kn sub j y N X e ρ1 := h
      dsimp only
      rw [if_pos h1]
      by_cases hs : sub e.c = true
      · rw [if_pos hs] at h2 ⊢
        obtain ⟨h3, h4, ρ2, rfl, h5⟩ := h2
        rw [if_pos ⟨h3, h4⟩]
        exact h5
      · rw [if_neg hs] at h2 ⊢
        exact h2
theorem EW.dictZip (h : EW ga ρ (fun t ρ1 => EW gb ρ1 (fun u ρ2 => ∃ k l xs ys ks, derT ρ2 t = some (.v k (.lst xs)) ∧ derT ρ2 u = some (.v l (.lst ys)) ∧ keysKD xs = some ks ∧ ks.length ≤ ys.length ∧ ks.Nodup ∧ PV.frz (.v l (.lst ys)) = some (.lst ys) ∧ P (.v .O (.dK ks (ys.take ks.length))) ρ2) X) X) : EW (eDZip ga gb) ρ P X := by
  with_unfolding_all exact (EW.op2 (E2W.imp h fun t u ρ h => by
    obtain ⟨k, l, xs, ys, ks, h1, h2, h3, h4, h5, h6, h7⟩ := h
    refine ⟨_, _, _, h1, h2, ?_, h7⟩
    simp only [opDZip, h3]
    rw [if_pos ⟨h4, h5⟩]
    simp only [h6]))
theorem EW.lenSet (h : EW g ρ (fun t ρ1 => ∃ k ns, Is ρ1 t k (lI ns) ∧ ns.length ≤ 4000 ∧ ns.Nodup ∧ P (.v .F (.int ns.length)) ρ1) X) : EW (eLenSet g) ρ P X := by
  with_unfolding_all exact (EW.op1 (EW.imp h fun t ρ1 h => by
    obtain ⟨k, ns, h1, h2, h3, h4⟩ := h
    exact rd1_is h1 (by simp only [lenSetD, lI, intsD_map]; rw [if_pos ⟨h2, h3⟩]) h4))
theorem EW.err {c : Nat} (h : EW g ρ (fun t ρ1 => ∃ d, derT ρ1 t = some (.v .F (.err c [d])) ∧ P (.v .F d) ρ1) X) : EW (eErr c g) ρ P X := by
  with_unfolding_all exact (EW.op1 (EW.imp h fun t ρ1 h => by
    obtain ⟨d, h1, h2⟩ := h
    exact ⟨_, _, h1, by simp [errF], h2⟩))
theorem EW.isE {kn : List Nat} {sub : Nat → Bool} (h : EW g ρ (fun t ρ1 => ∃ k c xs, Is ρ1 t k (.err c xs) ∧ c ∈ kn ∧ P (.v .F (.bl (sub c))) ρ1) X) : EW (eIsE kn sub g) ρ P X := by
  with_unfolding_all exact (EW.op1 (EW.imp h fun t ρ1 h => by
    obtain ⟨k, c, xs, h1, h2, h3⟩ := h
    exact rd1_is h1 (by simp only [PV.isE]; rw [if_pos h2]) h3))
theorem EW.idxD (h : EW ga ρ (fun t ρ1 => EW gb ρ1 (fun u ρ2 => ∃ k l ks xs d kk z, Is ρ2 t k (.dK ks xs) ∧ Is ρ2 u l d ∧ keyK d = some kk ∧ lookD ks xs kk = some z ∧ flat z = true ∧ P (.v .F z) ρ2) X) X) : EW (eIdxD ga gb) ρ P X := by
  with_unfolding_all exact (EW.op2 (E2W.imp h fun t u ρ h => by
    obtain ⟨k, l, ks, xs, d, kk, z, h1, h2, h3, h4, h5, h6⟩ := h
    exact ⟨_, _, _, h1, h2, by simp only [opIdxD, h3, h4]; rw [if_pos h5], h6⟩))
end
end PV

namespace PySem
namespace LowX_Worse
open PySem.W PySem.Calls PyProof.Rows PySem.HandSPX
/-! ### the text of __init__ -/
def iA (p1 p2 : Pos) : Arguments := { posonlyargs := [], args := [{ arg := "self", annotation := none, pos := p1 }, { arg := "future", annotation := none, pos := p2 }], vararg := none, kwonlyargs := [], kw_defaults := [], kwarg := none, defaults := [] }
def iB (q1 q2 q3 q4 : Pos) : List Stmt := [.Assign [.Attribute (.Name "self" q1) "future" q2] (.Name "future" q3) q4]
def iS : Scope := { kind := .function, names := [(PySem.Str.ofString "self", .local), (PySem.Str.ofString "future", .local)], isGenerator := false, isCoroutine := false, more := [] }
/-- what the written part says of Low, at C, and of its __init__, at fI -/
structure LowTxt (K : Frag) (mg : Str → Option Value) (C fI : Addr) : Prop where
  gC : mg "Worse" = some (.ref C)
  cls : ∃ nm q N bs bm sn sub ab col dd k0 k1 k2 k3 k5, K.lookup C = some (excClassObj nm q C N bs bm true sn sub ab col dd k0 k1 k2 k3 k5 "ValueError.__new__") ∧ refsVE bm = true
  sa : findIn K (.ref C) "__setattr__" = some (some (.builtin "object.__setattr__"))
  ga : findIn K (.ref C) "__getattribute__" = some (some (.builtin "BaseException.__getattribute__"))
  gg : findIn K (.ref C) "__getattr__" = some none
  noN : findIn K (.ref C) "future" = some none
  iC : findIn K (.ref C) "__init__" = some (some (.ref fI))
  tC : typeIn K (.ref fI) = some (.type "function")
  kC : keepIn K (.ref C) = true
  exC : subIn K (.ref C) (.type "BaseException") = some true
  tyC : typeIn K (.ref C) = some (.type "type")
  hdC : hasDictIn K C = true
  te : exmOne K (.ref C) (.ref C) = some true
  fn : ∃ (oc : Value) (od : Option Addr) (doc pm : Value) (an : Option Addr) (cdv ct : Value) (osl : Array (Option Value)) (p1 p2 q1 q2 q3 q4 : Pos),
    K.lookup fI = some ⟨oc, od, .func (fnOf "__init__" "Worse.__init__" (iA p1 p2) (iB q1 q2 q3 q4) iS .none .none doc pm an cdv ct), osl⟩ ∧ codeIn K cdv "Worse.__init__" = true
theorem one_size (v : Value) : [v].length ≤ sizeLine := by
  rw [sizeLine_eq]
  exact (by decide : 1 ≤ 16777216)
theorem ldC {M : Model} {s : Shared} {name : Str} {scope : Scope} {L a : Addr} {cd : Value} {m : Str → Option Value} {x : Str} {pos : Pos} {v : Value} {Q : Value → Shared → Prop} {A : Around} {E : Value → Shared → Prop} (hn : s.heap.Ns L m) (hv : m x = some v) (h : Q v s)
    (hk : scope.kind = .function := by rfl) (hl : (envOfC name scope L a cd).kindOf x = some .local := by rfl) (hd : (x == ("__debug__" : Str)) = false := by decide) :
    wpAny M A (eval (.Name x pos) (envOfC name scope L a cd)) Q E s := wpAny_Name (wpAny_loadName_local hk hl hn hv h) hd
/-- what __init__ leaves of a fresh exception at x -/
structure InitEnd (h h' : Heap) (x C dx t1 : Addr) (v : Value) : Prop where
  keep : ∀ b o, b ≠ x → h.get? b = some o → h'.get? b = some o
  obj : h'.get? x = some { cls := .ref C, dict := some dx, data := .fields #[.ref t1, .none, .none, .none, .bool false, .none] }
  dbig : h.objs.size ≤ dx
  dne : dx ≠ x
  ns : h'.Ns1 dx (fun y => if y = "future" then some v else none)
/-- a made Low -/
structure OwnMade (h h' : Heap) (e C d : Addr) (v : Value) : Prop where
  keep : ∀ b o, h.get? b = some o → h'.get? b = some o
  new : h.objs.size ≤ e
  obj : ∃ oe vs, h'.get? e = some oe ∧ oe.cls = .ref C ∧ oe.dict = some d ∧ oe.data = .fields vs ∧ vs[1]? = some .none ∧ vs[2]? = some .none
  dbig : h.objs.size ≤ d
  dne : d ≠ e
  ns : h'.Ns1 d (fun y => if y = "future" then some v else none)
section
variable {prog : Program} {w : World} {A : Around} {E : Value → Shared → Prop} {R : Result → Shared → Prop} {s : Shared} {K : Frag} {mg : Str → Option Value} {C fI : Addr}
theorem low_init (T : LowTxt K mg C fI) {x t0 : Addr} {v : Value} (X : K.In s.heap) (hlim : s.heap.NoLimit) (hx : s.heap.get? x = some (excO C t0)) (hnx : K.lookup x = none) (hroom : A.depth < recursionLimit)
    (hq : ∀ h' tk dx, InitEnd s.heap h' x C dx t0 v → R (.ok (.ret .none)) { s with heap := h', toks := tk }) :
    codeAny (model prog w) A (.call (.ref fI) ⟨[.ref x, v], []⟩) R s := by
  obtain ⟨oc, od, doc, pm, an, cdv, ct, osl, p1, p2, q1, q2, q3, q4, ho, hcd⟩ := T.fn
  obtain ⟨nm, q, N, bs, bm, sn, sub, ab, col, dd, k0, k1, k2, k3, k5, hC, hbm⟩ := T.cls
  have hcl : clsIn K C = some { name := nm, bases := bs, mro := .ref C :: bm, ns := N, qualname := q, hasDict := true, slotNames := sn, subclasses := sub, abstract := ab, collection := col, hasDel := false } := by unfold clsIn; rw [hC] <;> rfl
  refine Att.call_fn (binds := [("self", .ref x), ("future", v)]) X hlim ho hcd hroom (BindsTo.of_eq (by first | rfl | with_unfolding_all rfl)) (by first | rfl | decide | with_unfolding_all rfl) (fun s₁ IC => ?_) rfl rfl rfl
  obtain ⟨h₁, tk₁, rfl⟩ := IC.toInCall.same
  have k : ∀ b o, s.heap.get? b = some o → h₁.get? b = some o := IC.toInCall.keep
  have hn := IC.toInCall.ns
  have hxL : s.heap.objs.size ≠ x := Nat.ne_of_gt (Heap.lt_size hx)
  have X₁ : K.In h₁ := X.keeps k
  have hx₁ := k _ _ hx
  -- self.by = by
  show wpAny _ _ (execs _ _) _ _ _
  refine wpAny_execs_cons (plainObj_wpAny_Assign_Attribute ?_)
  refine ldC (v := v) hn (by first | rfl | with_unfolding_all rfl | kernel_rfl) (ldC (v := .ref x) hn (by first | rfl | with_unfolding_all rfl | kernel_rfl) ?_)
  refine set_plain X₁ (ox := excO C t0) (od := none) ⟨hx₁, rfl, rfl, trivial⟩ T.sa ?_
  refine exc_osa X₁ hx₁ hcl (show refsVE (.ref C :: bm) = true from hbm) rfl T.noN (fun h₃ tk₃ dx k₃ dn dne hx₃ hn₃ => ?_)
  show wpAny _ _ (execs _ _) _ _ _
  have z : s.heap.objs.size < h₁.objs.size := hn.lt
  exact wpAny_execs_nil (hq h₃ tk₃ dx ⟨fun b o hb e => k₃ b o hb (k b o e), hx₃, Nat.le_of_lt (Nat.lt_of_lt_of_le z dn), dne, hn₃⟩)
theorem low_made (T : LowTxt K mg C fI) {v : Value} (X : K.In s.heap) (hlim : s.heap.NoLimit) (hroom : A.depth + 1 < recursionLimit)
    (hq : ∀ h' tk e d, OwnMade s.heap h' e C d v → R (.ok (.ret (.ref e))) { s with heap := h', toks := tk }) :
    codeAny (model prog w) A (.call (.ref C) ⟨[v], []⟩) R s := by
  obtain ⟨nm, q, N, bs, bm, sn, sub, ab, col, dd, k0, k1, k2, k3, k5, hC, hbm⟩ := T.cls
  obtain ⟨hp, g, dr, tk, os⟩ := s
  have k : ∀ b o, hp.get? b = some o → ((hp.push (kdv_tup [v])).push (excO C hp.objs.size)).get? b = some o := fun b o e => Heap.get?_push_of_some _ (Heap.get?_push_of_some _ e)
  have hget : ((hp.push (kdv_tup [v])).push (excO C hp.objs.size)).get? (hp.objs.size + 1) = some (excO C hp.objs.size) := by heap_get
  have hnx : K.lookup (hp.objs.size + 1) = none := by
    cases e : K.lookup (hp.objs.size + 1) with
    | none => rfl
    | some o =>
      have z : hp.get? (hp.objs.size + 1) = some o := X _ _ e
      exact absurd (Nat.lt_of_succ_lt (Heap.lt_size z)) (Nat.lt_irrefl _)
  refine call_own F.excBase_ValueError (fun X => refsVE_contains X bm hbm) (X _ _ hC) (looks_findIn X T.iC) (fun self => bind_fn X self T.tC) (one_size v) ?_
  refine low_init (s := ⟨(hp.push (kdv_tup [v])).push (excO C hp.objs.size), g, dr, tk, os⟩) T (X.keeps k) (hlim.keeps k) hget hnx ?_ fun h' tk' dx ⟨k', hx, dn, dne, hns⟩ => ?_
  · show A.depth + 1 < recursionLimit
    exact hroom
  · have old : ∀ b o, hp.get? b = some o → h'.get? b = some o := fun b o e => k' b o (Nat.ne_of_lt (Nat.lt_succ_of_lt (Heap.lt_size e))) (k b o e)
    have z : hp.objs.size + 1 + 1 ≤ dx := by
      first
        | (simpa only [Heap.size_push] using dn)
        | exact dn
        | (have q := dn; rw [Heap.size_push, Heap.size_push] at q; exact q)
    exact ⟨rfl, hq h' tk' (hp.objs.size + 1) dx ⟨old, Nat.le_succ _, ⟨_, _, hx, rfl, rfl, rfl, rfl, rfl⟩, Nat.le_trans (Nat.le_trans (Nat.le_succ _) (Nat.le_succ _)) z, dne, hns⟩⟩
end
end LowX_Worse
end PySem
namespace L2N
open L2 PySem PySem.Spec PyProof.Rows
theorem relO_low_Worse {v : V} {v' : Value} (r : RelV v v') (f : Str) : RelO (List.lookup f [(("future" : Str), v)]) (if f = "future" then some v' else none) := by
  by_cases hw : f = "future"
  · subst hw
    rw [if_pos rfl]
    have q : List.lookup ("future" : Str) [(("future" : Str), v)] = some v := by simp [List.lookup]
    rw [q]
    exact r
  · rw [if_neg hw]
    have qw : (f == ("future" : Str)) = false := by simpa using hw
    have q2 : List.lookup f [(("future" : Str), v)] = none := by simp [List.lookup, qw]
    rw [q2]
    trivial
section
variable {X : Cx} {C fI : Addr}
/-- Low(e) -/
def tMkLow_Worse (C : Addr) (ta : TA) : St → Hp → XK → Prop := fun σ H Q => ta σ H fun vs H1 => ∃ v, vs = [v] ∧ ∀ d, H1 d = none → Q (.ref C) (some d) (upd H1 d (.xd [(("future" : Str), v)]))
theorem pmk_low_Worse {a : Expr} {ta : TA} {p pos : Pos} {k : Nat} (T : PySem.LowX_Worse.LowTxt X.K X.mg C fI) (hr : Room k X.A) (ha : PA X [a] ta) (hg : Gl X "Worse" := by rfl)
    (he : starEach (a :: []) X.env = (false, eval a X.env) :: starEach [] X.env := by rfl) (hpl : (backTo pos (starEach [] X.env)).any (·.1) = false := by rfl) :
    PMk X (.Call (.Name "Worse" p) [a] [] pos) (tMkLow_Worse C ta) := by
  intro pins s σ H Q I h
  refine wpAny_Call_Name_kw (ld_glob I hg T.gC ?_)
  refine PySem.W.callWith_K (h₀ := X.base) I.ok.mod.kin T.kC (thn (ha.run pos pins s σ H _ I h) fun us s1 hh => ?_) he hpl
  obtain ⟨vs, H1, I1, r1, v, ev, q1⟩ := hh
  subst ev
  refine ⟨I1.kIn, ?_⟩
  cases r1 with
  | cons rv rn =>
    rename_i v' us'
    cases rn
    show wpAny _ _ (call (.ref C) [v']) _ _ _
    have hlim := I1.nolimit
    obtain ⟨hp, g, dr, tk, os⟩ := s1
    refine wpAny_call (PySem.LowX_Worse.low_made T I1.kIn hlim (by have := hr.dp; omega) fun h' tk' e d M => ?_)
    show MkP X pins σ Q (.ref e) ⟨h', g, dr, tk', os⟩
    obtain ⟨oe, fv, hoe, hc, hd, hdat, h1, h2⟩ := M.obj
    have hns := M.ns
    obtain ⟨G', g1, g2⟩ := restrict h' fun b => decide (b ≠ e)
    have gk : ∀ b, b ≠ e → G'.get? b = h'.get? b := fun b hb => g1 b (decide_eq_true hb)
    have ge : G'.get? e = none := g2 e (by simp)
    have old : ∀ b o, hp.get? b = some o → G'.get? b = some o := fun b o q => (gk b (Nat.ne_of_lt (Nat.lt_of_lt_of_le (Heap.lt_size q) M.new))).trans (M.keep b o q)
    have ob : ObjOk X.prog X.w (upd H1 d (.xd [(("future" : Str), v)])) G' d (.xd [(("future" : Str), v)]) :=
      ⟨_, hns.at (fun o q => (gk d M.dne).trans q), fun f => relO_low_Worse rv f⟩
    have J : Inv X pins σ (upd H1 d (.xd [(("future" : Str), v)])) ⟨G', g, dr, tk', os⟩ := I1.laid (t' := tk') old M.dbig ob
    refine ⟨e, oe, fv, ⟨G', g, dr, tk', os⟩, _, .ref C, some d, rfl, J, fun b o q => ?_, ge, hoe, ⟨hc, hd, fun vs0 e0 => by rw [hdat] at e0; cases e0; exact h2⟩, hdat, h1, ?_, rfl, I1.bare, raises_own T.exC T.tyC, q1 d (I1.hok.fresh M.dbig)⟩
    · by_cases hb : b = e
      · have q' : G'.get? b = some o := q
        rw [hb, ge] at q'; cases q'
      · exact (gk b hb).symm.trans q
    · rw [upd_ne (Ne.symm M.dne)]
      exact I1.hok.fresh M.new
/-- raise Low(e) -/
def tRaiseLow_Worse (C : Addr) (W : WX) (ta : TA) : TS := fun _ σ H => tMkLow_Worse C ta σ H fun cls d H' => W cls d σ H'
theorem ps_raiseLow_Worse {a : Expr} {ta : TA} {W : WX} {p pos pos2 : Pos} {k : Nat} (hc : X.calm = true) (T : PySem.LowX_Worse.LowTxt X.K X.mg C fI) (hr : Room k X.A) (tk : Takes X W) (ha : PA X [a] ta) (hg : Gl X "Worse" := by rfl)
    (he : starEach (a :: []) X.env = (false, eval a X.env) :: starEach [] X.env := by rfl) (hpl : (backTo pos (starEach [] X.env)).any (·.1) = false := by rfl) :
    PS X (.Raise (some (.Call (.Name "Worse" p) [a] [] pos)) none pos2) (tRaiseLow_Worse C W ta) := ps_raise hc tk (pmk_low_Worse T hr ha hg he hpl)
/-- low.by, low the exception that the suite holds (at a; its class cls, its dict d) -/
def tByLow_Worse (C : Addr) (a : Addr) (cls : Value) (d : Option Addr) (te : TE) : TE := fun σ H Q => te σ H fun x H1 => x = .ref a ∧ cls = .ref C ∧ ∃ (dd : Addr) (v : V), d = some dd ∧ H1 dd = some (.xd [(("future" : Str), v)]) ∧ Q v H1
end
end L2N


namespace PV
open PySem PySem.Spec L2
section
variable {G : Gx} {W : WX} {ios : List Nat} {X : Cx} {ga : Ev} {g : Sm}
theorem s_raise_Worse {c : Nat} {C fI : Addr} {a : Expr} {p pos pos2 : Pos} {k : Nat} (hc : X.calm = true) (T : PySem.LowX_Worse.LowTxt X.K X.mg C fI) (hr : Room k X.A) (tk : L2N.Takes X W) (hC : G.ca c = C) (hn : G.cn c = [("future" : Str)]) (ha : PEv X G W ios a ga) (hg : Gl X "Worse" := by rfl)
    (hpa : starEach [a] X.env = (false, eval a X.env) :: starEach [] X.env := by rfl) (hpl : (backTo pos (starEach [] X.env)).any (·.1) = false := by rfl) : PSv X G W ios (.Raise (some (.Call (.Name "Worse" p) [a] [] pos)) none pos2) (sRaise c ga) :=
  ps_imp (L2N.ps_raiseLow_Worse hc T hr tk (pa_cons ha pa_nil hpa) hg hpa hpl) fun D σ H q => raise_end hC hn q
end
end PV

namespace LW
open PySem PySem.Spec L2 PV
/-! the text -/
def topS (i : Nat) : Stmt := PySem.Challenge.pw_soldages_k75_stocks_that_are_never_worse.main.body.getD i (.Pass ⟨0, 0, 0, 0⟩)
abbrev s__law_feed : Stmt := topS 9
abbrev N__law_feed : List Str := ["script", "k", "cell", "digits", "state"]
theorem sc__law_feed : FnScope N__law_feed ["script", "k"] (defScope s__law_feed) := ⟨rfl, rfl, rfl, by decide +kernel, rfl, by decide +kernel, by decide +kernel⟩
abbrev s__law_served : Stmt := topS 12
abbrev N__law_served : List Str := ["stock", "future", "there", "done", "found", "demanded", "some", "one"]
theorem sc__law_served : FnScope N__law_served ["stock", "future"] (defScope s__law_served) := ⟨rfl, rfl, rfl, by decide +kernel, rfl, by decide +kernel, by decide +kernel⟩
abbrev s__law_never : Stmt := topS 13
abbrev N__law_never : List Str := ["first", "second", "futures", "day", "longer", "future", "one", "other", "number"]
theorem sc__law_never : FnScope N__law_never ["first", "second"] (defScope s__law_never) := ⟨rfl, rfl, rfl, by decide +kernel, rfl, by decide +kernel, by decide +kernel⟩
abbrev s__law_take : Stmt := topS 10
abbrev N__law_take : List Str := ["feed", "many", "digit"]
theorem sc__law_take : FnScope N__law_take ["feed", "many"] (defScope s__law_take) := ⟨rfl, rfl, rfl, by decide +kernel, rfl, by decide +kernel, by decide +kernel⟩
abbrev s__law_dominates : Stmt := topS 16
abbrev N__law_dominates : List Str := ["first", "second", "one", "other", "at"]
theorem sc__law_dominates : FnScope N__law_dominates ["first", "second"] (defScope s__law_dominates) := ⟨rfl, rfl, rfl, by decide +kernel, rfl, by decide +kernel, by decide +kernel⟩
abbrev s_short_life : Stmt := topS 5
abbrev N_short_life : List Str := ["first", "second", "life", "one"]
theorem sc_short_life : FnScope N_short_life ["first", "second"] (defScope s_short_life) := ⟨rfl, rfl, rfl, by decide +kernel, rfl, by decide +kernel, by decide +kernel⟩
abbrev s_places_by_life : Stmt := topS 4
abbrev N_places_by_life : List Str := ["stock", "life", "place"]
theorem sc_places_by_life : FnScope N_places_by_life ["stock"] (defScope s_places_by_life) := ⟨rfl, rfl, rfl, by decide +kernel, rfl, by decide +kernel, by decide +kernel⟩
abbrev s_matching : Stmt := topS 7
abbrev N_matching : List Str := ["first", "second", "life", "found", "place"]
theorem sc_matching : FnScope N_matching ["first", "second"] (defScope s_matching) := ⟨rfl, rfl, rfl, by decide +kernel, rfl, by decide +kernel, by decide +kernel⟩
abbrev s_never_worse : Stmt := topS 6
abbrev N_never_worse : List Str := ["first", "second"]
theorem sc_never_worse : FnScope N_never_worse ["first", "second"] (defScope s_never_worse) := ⟨rfl, rfl, rfl, by decide +kernel, rfl, by decide +kernel, by decide +kernel⟩
abbrev s__law_is_number : Stmt := topS 14
abbrev N__law_is_number : List Str := ["thing"]
theorem sc__law_is_number : FnScope N__law_is_number ["thing"] (defScope s__law_is_number) := ⟨rfl, rfl, rfl, by decide +kernel, rfl, by decide +kernel, by decide +kernel⟩
abbrev s__law_right : Stmt := topS 15
abbrev N__law_right : List Str := ["first", "second", "due", "seen", "caught", "found", "error", "future", "one", "place", "at"]
theorem sc__law_right : FnScope N__law_right ["first", "second", "due"] (defScope s__law_right) := ⟨rfl, rfl, rfl, by decide +kernel, rfl, by decide +kernel, by decide +kernel⟩
abbrev s_law : Stmt := topS 17
abbrev N_law : List Str := ["script", "k", "feed", "first", "second", "due", "some", "one", "other", "turn"]
theorem sc_law : FnScope N_law ["script"] (defScope s_law) := ⟨rfl, rfl, rfl, by decide +kernel, rfl, by decide +kernel, by decide +kernel⟩
/-! the denotations -/
def d__law_feed : Sm := (sSeq (sSet 2 (eIf (eLt (eVar 1) (eLen (eVar 0))) (eIdx (eVar 0) (eVar 1)) (eAdd (eMul (eC (.int 83)) (eVar 1)) (eC (.int 29)))))
    (sSeq (sSet 3 (eMax2 (eC (.int 0)) (eSub (eAbs (eVar 2)) (ePow (eC (.int 10)) (eC (.int 18))))))
    (sSeq (sSet 4 (eMod (eAdd (eAdd (eMul (eVar 2) (eC (.int 6364136223846793005))) (eMul (eC (.int 7919)) (eVar 1))) (eC (.int 1442695040888963407))) (eC (.int 2305843009213693951))))
    (sRet (eLst (gCons (eF (eVar 3)) (gCons (eF (eVar 4)) gNil)))))))
def den__law_feed : Fn := defn 5 [] d__law_feed
def d__law_served : Sm := (sSeq (sPar [2, 3, 4] (gCons (eSort2 (eVar 0)) (gCons (eC (.int 0)) (gCons (eLst gNil) gNil))))
    (sSeq (sFor (itSeq (eVar 1)) (tgN 5)
    (sSeq (sSet 6 (eMin2 (eVar 5) (eLen (eVar 2))))
    (sSeq (sSet 3 (eAdd (eVar 3) (eVar 6)))
    (sSeq (sExpr (eLm opApp 4 (gCons (eF (eVar 3)) gNil)))
    (sSet 2 (eComp (itSeq (eSl (eVar 2) (some (eVar 6)) none)) [7] (tgN 7) (eGt (eVar 7) (eC (.int 1))) (eSub (eVar 7) (eC (.int 1)))))))))
    (sRet (eM (eVar 4)))))
def den__law_served : Fn := defn 8 [] d__law_served
def d__law_never : Sm := (sSeq (sSet 2 (eLst (gCons (eLst gNil) gNil)))
    (sSeq (sFor (itR1 (eC (.int 4))) (tgN 3)
    (sSeq (sSet 4 (eLst gNil))
    (sSeq (sFor (itSeq (eF (eVar 2))) (tgN 5)
    (sSet 4 (eAdd (eVar 4) (eComp (itR1 (eAdd (eLen (eVar 1)) (eC (.int 1)))) [8] (tgN 8) eTrue (eAdd (eVar 5) (eLst (gCons (eF (eVar 8)) gNil)))))))
    (sSet 2 (eF (eVar 4))))))
    (sSeq (sFor (itSeq (eF (eVar 2))) (tgN 5)
    (sSeq (sAsg (tgTup (tgsCons (tgN 6) (tgsCons (tgN 7) tgsNil))) (eTup (gCons (eCall den__law_served [.b, .b] (gCons (eVar 0) (gCons (eVar 5) gNil))) (gCons (eCall den__law_served [.b, .b] (gCons (eVar 1) (gCons (eVar 5) gNil))) gNil))))
    (sIf (eNe (eComp (itR1 (eC (.int 4))) [3] (tgN 3) (eLt (eIdx (eVar 6) (eVar 3)) (eIdx (eVar 7) (eVar 3))) (eF (eVar 3))) (eLst gNil))
    (sRet (eC (.bl false)))
    sNil)))
    (sRet (eC (.bl true))))))
def den__law_never : Fn := defn 9 [] d__law_never
def d__law_take : Sm := (sSeq (sIf (eGt (eIdx (eVar 0) (eC (.int 0))) (eC (.int 0)))
    (sSeq (sSet 2 (eMod (eIdx (eVar 0) (eC (.int 0))) (eVar 1)))
    (sSeq (sAsg (tgSub 0 (eC (.int 0))) (eDiv (eIdx (eVar 0) (eC (.int 0))) (eVar 1)))
    (sRet (eM (eVar 2)))))
    sNil)
    (sSeq (sAsg (tgSub 0 (eC (.int 1))) (eMod (eAdd (eMul (eIdx (eVar 0) (eC (.int 1))) (eC (.int 6364136223846793005))) (eC (.int 1442695040888963407))) (eC (.int 2305843009213693951))))
    (sRet (eMod (eDiv (eIdx (eVar 0) (eC (.int 1))) (eC (.int 65536))) (eVar 1)))))
def den__law_take : Fn := defn 3 [0] d__law_take
def d__law_dominates : Sm := (sSeq (sAsg (tgTup (tgsCons (tgN 2) (tgsCons (tgN 3) tgsNil))) (eTup (gCons (eRev (eSort2 (eVar 0))) (gCons (eRev (eSort2 (eVar 1))) gNil))))
    (sSeq (sIf (eLt (eLen (eVar 2)) (eLen (eVar 3)))
    (sRet (eC (.bl false)))
    sNil)
    (sRet (eEq (eComp (itR1 (eLen (eVar 3))) [4] (tgN 4) (eLt (eIdx (eVar 2) (eVar 4)) (eIdx (eVar 3) (eVar 4))) (eF (eVar 4))) (eLst gNil)))))
def den__law_dominates : Fn := defn 5 [] d__law_dominates
def d_short_life : Sm := (sSeq (sFor (itSeq (eSortSet3 (eVar 1))) (tgN 2)
    (sIf (eLt (eLen (eComp (itSeq (eVar 0)) [3] (tgN 3) (eGe (eVar 3) (eVar 2)) (eF (eVar 3)))) (eLen (eComp (itSeq (eVar 1)) [3] (tgN 3) (eGe (eVar 3) (eVar 2)) (eF (eVar 3)))))
    (sRet (eM (eVar 2)))
    sNil))
    (sRet eN))
def den_short_life : Fn := defn 4 [] d_short_life
def d_places_by_life : Sm := (sRet (eComp (itSeq (eSort2 (eComp (itEnA (eVar 0)) [2, 1] (tgTup (tgsCons (tgN 2) (tgsCons (tgN 1) tgsNil))) eTrue (eTup (gCons (eNeg (eVar 1)) (gCons (eF (eVar 2)) gNil)))))) [1, 2] (tgTup (tgsCons (tgN 1) (tgsCons (tgN 2) tgsNil))) eTrue (eF (eVar 2))))
def den_places_by_life : Fn := defn 3 [] d_places_by_life
def d_matching : Sm := (sSeq (sSet 2 (eCall den_short_life [.b, .b] (gCons (eVar 0) (gCons (eVar 1) gNil))))
    (sSeq (sIf (eNotN (eVar 2) eN)
    (sRaise 1 (eF (eAdd (eMul (eLst (gCons (eC (.int 0)) gNil)) (eSub (eVar 2) (eC (.int 1)))) (eLst (gCons (eLen (eVar 1)) gNil)))))
    sNil)
    (sSeq (sSet 3 (eDZip (eCall den_places_by_life [.b] (gCons (eVar 1) gNil)) (eCall den_places_by_life [.b] (gCons (eVar 0) gNil))))
    (sRet (eComp (itR1 (eLen (eVar 1))) [4] (tgN 4) eTrue (eIdxD (eVar 3) (eVar 4)))))))
def den_matching : Fn := defn 5 [] d_matching
def d_never_worse : Sm := (sRet (eIsN (eCall den_short_life [.b, .b] (gCons (eVar 0) (gCons (eVar 1) gNil))) eN))
def den_never_worse : Fn := defn 2 [] d_never_worse
def d__law_is_number : Sm := (sRet (eAnd (eIsi .int (eVar 0)) (eAnd (eNot (eIsi .bl (eVar 0))) (eGe (eVar 0) (eC (.int 0))))))
def den__law_is_number : Fn := defn 1 [] d__law_is_number
def d__law_right : Sm := (sSeq (sSet 3 (eRepr2 (eTup (gCons (eF (eVar 0)) (gCons (eF (eVar 1)) gNil)))))
    (sSeq (sIf (eNe (eRepr2 (eCall den_never_worse [.b, .b] (gCons (eVar 0) (gCons (eVar 1) gNil)))) (eRepr2 (eVar 2)))
    (sRet (eC (.bl false)))
    sNil)
    (sSeq (sAsg (tgTup (tgsCons (tgN 4) (tgsCons (tgN 5) tgsNil))) (eTup (gCons eN (gCons eN gNil))))
    (sSeq (sTryK [1] (fun c => decide (c ∈ ([1] : List Nat))) 6 4
    (sSet 5 (eCall den_matching [.b, .b] (gCons (eVar 0) (gCons (eVar 1) gNil)))))
    (sSeq (sIf (eOr (eNe (eRepr2 (eTup (gCons (eF (eVar 0)) (gCons (eF (eVar 1)) gNil)))) (eVar 3)) (eNe (eIsN (eVar 4) eN) (eVar 2)))
    (sRet (eC (.bl false)))
    sNil)
    (sSeq (sIf (eNotN (eVar 4) eN)
    (sSeq (sSet 7 (eIf (eIsE [1] (fun c => decide (c ∈ ([1] : List Nat))) (eVar 4)) (eErr 1 (eVar 4)) eN))
    (sSeq (sIf (eOr (eNot (eIsi .lst (eVar 7))) (eNe (eComp (itSeq (eF (eVar 7))) [8] (tgN 8) (eNot (eCall den__law_is_number [.b] (gCons (eVar 8) gNil))) (eF (eVar 8))) (eLst gNil)))
    (sRet (eC (.bl false)))
    sNil)
    (sSeq (sIf (eLt (eMin1 (eAdd (eLst (gCons (eC (.int 0)) gNil)) (eVar 7))) (eC (.int 0)))
    (sRet (eC (.bl false)))
    sNil)
    (sRet (eAnd (eNe (eVar 7) (eLst gNil)) (eLt (eIdx (eCall den__law_served [.b, .b] (gCons (eVar 0) (gCons (eVar 7) gNil))) (eNeg (eC (.int 1)))) (eIdx (eCall den__law_served [.b, .b] (gCons (eVar 1) (gCons (eVar 7) gNil))) (eNeg (eC (.int 1))))))))))
    sNil)
    (sSeq (sIf (eOr (eNot (eIsi .lst (eVar 5))) (eOr (eNe (eLen (eVar 5)) (eLen (eVar 1))) (eNe (eLenSet (eVar 5)) (eLen (eVar 5)))))
    (sRet (eC (.bl false)))
    sNil)
    (sSeq (sIf (eNe (eComp (itSeq (eF (eVar 5))) [9] (tgN 9) (eOr (eNot (eCall den__law_is_number [.b] (gCons (eVar 9) gNil))) (eGe (eVar 9) (eLen (eVar 0)))) (eF (eVar 9))) (eLst gNil))
    (sRet (eC (.bl false)))
    sNil)
    (sRet (eEq (eComp (itR1 (eLen (eVar 1))) [10] (tgN 10) (eLt (eIdx (eVar 0) (eIdx (eVar 5) (eVar 10))) (eIdx (eVar 1) (eVar 10))) (eF (eVar 10))) (eLst gNil)))))))))))
def den__law_right : Fn := defn 11 [] d__law_right
def d_law : Sm := (sSeq (sFor (itR1 (eMax2 (eC (.int 1)) (eMin2 (eC (.int 3)) (eLen (eVar 0))))) (tgN 1)
    (sSeq (sSet 2 (eCall den__law_feed [.b, .b] (gCons (eVar 0) (gCons (eVar 1) gNil))))
    (sSeq (sSet 3 (eComp (itR1 (eCall den__law_take [.io, .b] (gCons (eVar 2) (gCons (eC (.int 5)) gNil)))) [9] (tgN 9) eTrue (eAdd (eC (.int 1)) (eCall den__law_take [.io, .b] (gCons (eVar 2) (gCons (eC (.int 4)) gNil))))))
    (sSeq (sSet 4 (eComp (itR1 (eCall den__law_take [.io, .b] (gCons (eVar 2) (gCons (eC (.int 4)) gNil)))) [9] (tgN 9) eTrue (eAdd (eC (.int 1)) (eCall den__law_take [.io, .b] (gCons (eVar 2) (gCons (eC (.int 4)) gNil))))))
    (sSeq (sIf (eEq (eCall den__law_take [.io, .b] (gCons (eVar 2) (gCons (eC (.int 2)) gNil))) (eC (.int 0)))
    (sSet 4 (eSl (eComp (itSeq (eRev (eVar 3))) [7] (tgN 7) eTrue (eMax2 (eC (.int 1)) (eSub (eVar 7) (eCall den__law_take [.io, .b] (gCons (eVar 2) (gCons (eC (.int 3)) gNil)))))) none (some (eC (.int 3)))))
    sNil)
    (sSeq (sSet 5 (eCall den__law_never [.b, .b] (gCons (eVar 3) (gCons (eVar 4) gNil))))
    (sSeq (sIf (eOr (eNe (eVar 5) (eCall den__law_dominates [.b, .b] (gCons (eVar 3) (gCons (eVar 4) gNil)))) (eNot (eCall den__law_right [.f, .f, .b] (gCons (eF (eVar 3)) (gCons (eF (eVar 4)) (gCons (eVar 5) gNil))))))
    (sRet (eC (.bl false)))
    sNil)
    (sSeq (sIf (eOr (eNot (eCall den__law_right [.f, .f, .b] (gCons (eF (eTuple (eVar 3))) (gCons (eF (eVar 4)) (gCons (eVar 5) gNil))))) (eNot (eCall den__law_right [.f, .f, .b] (gCons (eF (eVar 3)) (gCons (eF (eTuple (eVar 4))) (gCons (eVar 5) gNil))))))
    (sRet (eC (.bl false)))
    sNil)
    (sSeq (sSet 3 (eComp (itR1 (eCall den__law_take [.io, .b] (gCons (eVar 2) (gCons (eC (.int 61)) gNil)))) [9] (tgN 9) eTrue (eAdd (eC (.int 1)) (eCall den__law_take [.io, .b] (gCons (eVar 2) (gCons (eC (.int 100)) gNil))))))
    (sSeq (sSet 4 (eComp (itSeq (eRev (eVar 3))) [7] (tgN 7) eTrue (eMax2 (eC (.int 1)) (eSub (eVar 7) (eCall den__law_take [.io, .b] (gCons (eVar 2) (gCons (eC (.int 9)) gNil)))))))
    (sSeq (sIf (eAnd (eNe (eVar 4) (eLst gNil)) (eEq (eCall den__law_take [.io, .b] (gCons (eVar 2) (gCons (eC (.int 2)) gNil))) (eC (.int 0))))
    (sAsg (tgSub 4 (eCall den__law_take [.io, .b] (gCons (eVar 2) (gCons (eLen (eVar 4)) gNil)))) (eC (.int 100)))
    sNil)
    (sSeq (sSet 6 (eLst (gCons (eTup (gCons (eF (eVar 3)) (gCons (eF (eVar 4)) gNil))) (gCons (eTup (gCons (eF (eVar 4)) (gCons (eF (eVar 3)) gNil))) (gCons (eTup (gCons (eF (eVar 3)) (gCons (eF (eVar 3)) gNil))) gNil)))))
    (sFor (itSeq (eAdd (eVar 6) (eLst (gCons (eTup (gCons (eF (eVar 3)) (gCons (eLst gNil) gNil))) (gCons (eTup (gCons (eLst gNil) (gCons (eF (eVar 3)) gNil))) gNil))))) (tgTup (tgsCons (tgN 7) (tgsCons (tgN 8) tgsNil)))
    (sIf (eNot (eCall den__law_right [.f, .f, .b] (gCons (eF (eVar 7)) (gCons (eF (eVar 8)) (gCons (eCall den__law_dominates [.b, .b] (gCons (eVar 7) (gCons (eVar 8) gNil))) gNil)))))
    (sRet (eC (.bl false)))
    sNil))))))))))))))
    (sRet (eC (.bl true))))
def den_law : Fn := defn 10 [] d_law
/-! what the top has written -/
def cnL : Nat → List Str
  | 0 => []
  | 1 => ["future"]
  | _ => []
def caL (C_StoreError C_Worse : Addr) : Nat → Addr
  | 0 => C_StoreError
  | 1 => C_Worse
  | _ => 0
abbrev gx (K : PySem.W.Frag) (C_StoreError C_Worse : Addr) (w : World) : Gx := ⟨K, caL C_StoreError C_Worse, cnL, w⟩
structure Tx (K : PySem.W.Frag) (mg : Str → Option Value) (C_StoreError C_Worse : Addr) (f__law_feed f__law_served f__law_never f__law_take f__law_dominates f_short_life f_places_by_life f_matching f_never_worse f__law_is_number f__law_right f_law : Addr) (fX_Worse : Addr) (fd__law_feed fd__law_served fd__law_never fd__law_take fd__law_dominates fd_short_life fd_places_by_life fd_matching fd_never_worse fd__law_is_number fd__law_right fd_law : FuncData) : Prop where
  F__law_feed : FunX K "_law_feed" "_law_feed" s__law_feed f__law_feed fd__law_feed
  m__law_feed : mg "_law_feed" = some (.ref f__law_feed)
  k__law_feed : PySem.W.keepIn K (.ref f__law_feed) = true
  b__law_feed : Binds K fd__law_feed ["script", "k"] []
  F__law_served : FunX K "_law_served" "_law_served" s__law_served f__law_served fd__law_served
  m__law_served : mg "_law_served" = some (.ref f__law_served)
  k__law_served : PySem.W.keepIn K (.ref f__law_served) = true
  b__law_served : Binds K fd__law_served ["stock", "future"] []
  F__law_never : FunX K "_law_never" "_law_never" s__law_never f__law_never fd__law_never
  m__law_never : mg "_law_never" = some (.ref f__law_never)
  k__law_never : PySem.W.keepIn K (.ref f__law_never) = true
  b__law_never : Binds K fd__law_never ["first", "second"] []
  F__law_take : FunX K "_law_take" "_law_take" s__law_take f__law_take fd__law_take
  m__law_take : mg "_law_take" = some (.ref f__law_take)
  k__law_take : PySem.W.keepIn K (.ref f__law_take) = true
  b__law_take : Binds K fd__law_take ["feed", "many"] []
  F__law_dominates : FunX K "_law_dominates" "_law_dominates" s__law_dominates f__law_dominates fd__law_dominates
  m__law_dominates : mg "_law_dominates" = some (.ref f__law_dominates)
  k__law_dominates : PySem.W.keepIn K (.ref f__law_dominates) = true
  b__law_dominates : Binds K fd__law_dominates ["first", "second"] []
  F_short_life : FunX K "short_life" "short_life" s_short_life f_short_life fd_short_life
  m_short_life : mg "short_life" = some (.ref f_short_life)
  k_short_life : PySem.W.keepIn K (.ref f_short_life) = true
  b_short_life : Binds K fd_short_life ["first", "second"] []
  F_places_by_life : FunX K "places_by_life" "places_by_life" s_places_by_life f_places_by_life fd_places_by_life
  m_places_by_life : mg "places_by_life" = some (.ref f_places_by_life)
  k_places_by_life : PySem.W.keepIn K (.ref f_places_by_life) = true
  b_places_by_life : Binds K fd_places_by_life ["stock"] []
  F_matching : FunX K "matching" "matching" s_matching f_matching fd_matching
  m_matching : mg "matching" = some (.ref f_matching)
  k_matching : PySem.W.keepIn K (.ref f_matching) = true
  b_matching : Binds K fd_matching ["first", "second"] []
  F_never_worse : FunX K "never_worse" "never_worse" s_never_worse f_never_worse fd_never_worse
  m_never_worse : mg "never_worse" = some (.ref f_never_worse)
  k_never_worse : PySem.W.keepIn K (.ref f_never_worse) = true
  b_never_worse : Binds K fd_never_worse ["first", "second"] []
  F__law_is_number : FunX K "_law_is_number" "_law_is_number" s__law_is_number f__law_is_number fd__law_is_number
  m__law_is_number : mg "_law_is_number" = some (.ref f__law_is_number)
  k__law_is_number : PySem.W.keepIn K (.ref f__law_is_number) = true
  b__law_is_number : Binds K fd__law_is_number ["thing"] []
  F__law_right : FunX K "_law_right" "_law_right" s__law_right f__law_right fd__law_right
  m__law_right : mg "_law_right" = some (.ref f__law_right)
  k__law_right : PySem.W.keepIn K (.ref f__law_right) = true
  b__law_right : Binds K fd__law_right ["first", "second", "due"] []
  F_law : FunX K "law" "law" s_law f_law fd_law
  m_law : mg "law" = some (.ref f_law)
  k_law : PySem.W.keepIn K (.ref f_law) = true
  b_law : Binds K fd_law ["script"] []
  xq_StoreError : PySem.W.excIn K C_StoreError [.type "ValueError", .type "Exception", .type "BaseException", .type "object"] "ValueError.__new__" = true
  xg_StoreError : mg "StoreError" = some (.ref C_StoreError)
  xk_StoreError : PySem.W.keepIn K (.ref C_StoreError) = true
  xe_StoreError : PySem.W.subIn K (.ref C_StoreError) (.type "BaseException") = some true
  xy_StoreError : PySem.W.typeIn K (.ref C_StoreError) = some (.type "type")
  xt_StoreError_StoreError : PySem.W.exmOne K (.ref C_StoreError) (.ref C_StoreError) = some true
  xt_StoreError_Worse : PySem.W.exmOne K (.ref C_StoreError) (.ref C_Worse) = some false
  x_Worse : PySem.LowX_Worse.LowTxt K mg C_Worse fX_Worse
  xt_Worse_StoreError : PySem.W.exmOne K (.ref C_Worse) (.ref C_StoreError) = some true
  xt_Worse_Worse : PySem.W.exmOne K (.ref C_Worse) (.ref C_Worse) = some true
  xc_Worse : L2.ExcC K C_Worse
  kx_Worse_Worse : PySem.W.kitOne K (.ref C_Worse) (.ref C_Worse) = some true
  z_abs : mg "abs" = none
  z_bool : mg "bool" = none
  z_dict : mg "dict" = none
  z_enumerate : mg "enumerate" = none
  z_int : mg "int" = none
  z_isinstance : mg "isinstance" = none
  z_len : mg "len" = none
  z_list : mg "list" = none
  z_max : mg "max" = none
  z_min : mg "min" = none
  z_range : mg "range" = none
  z_repr : mg "repr" = none
  z_set : mg "set" = none
  z_sorted : mg "sorted" = none
  z_tuple : mg "tuple" = none
  z_zip : mg "zip" = none
section
variable {P : Program} {w : World} {K : PySem.W.Frag} {mg : Str → Option Value} {base : Heap} {C_StoreError C_Worse : Addr} {f__law_feed f__law_served f__law_never f__law_take f__law_dominates f_short_life f_places_by_life f_matching f_never_worse f__law_is_number f__law_right f_law : Addr} {fX_Worse : Addr} {fd__law_feed fd__law_served fd__law_never fd__law_take fd__law_dominates fd_short_life fd_places_by_life fd_matching fd_never_worse fd__law_is_number fd__law_right fd_law : FuncData}
theorem ok__law_feed (T : Tx K mg C_StoreError C_Worse f__law_feed f__law_served f__law_never f__law_take f__law_dominates f_short_life f_places_by_life f_matching f_never_worse f__law_is_number f__law_right f_law fX_Worse fd__law_feed fd__law_served fd__law_never fd__law_take fd__law_dominates fd_short_life fd_places_by_life fd_matching fd_never_worse fd__law_is_number fd__law_right fd_law) : FnG P w K mg base 1 f__law_feed fd__law_feed ["script", "k"] (spV (gx K C_StoreError C_Worse w) 2 [] den__law_feed) :=
  fn_v (k := 0) (G := gx K C_StoreError C_Worse w) (N := N__law_feed) (ps := ["script", "k"]) T.F__law_feed sc__law_feed (by decide) [] fun cdv A outer s0 H E m =>
    (b_cons (s_set (i := 2) sc__law_feed.nd (by decide) (v_ifx (t_lt (v_var 1) (v_len rfl T.z_len (v_var 0))) (v_idx rfl (v_var 0) (v_var 1)) (v_add (v_mul v_int (v_var 1)) v_int)))
    (b_cons (s_set (i := 3) sc__law_feed.nd (by decide) (v_max2 rfl T.z_max v_int (v_sub (v_abs T.z_abs (v_var 2)) (v_pow v_int v_int))))
    (b_cons (s_set (i := 4) sc__law_feed.nd (by decide) (v_mod (v_add (v_add (v_mul (v_var 2) v_int) (v_mul v_int (v_var 1))) v_int) v_int))
    (b_one (s_ret (v_lst (va_cons (v_fz (v_var 3)) (va_cons (v_fz (v_var 4)) va_nil))))))))
theorem ok__law_served (T : Tx K mg C_StoreError C_Worse f__law_feed f__law_served f__law_never f__law_take f__law_dominates f_short_life f_places_by_life f_matching f_never_worse f__law_is_number f__law_right f_law fX_Worse fd__law_feed fd__law_served fd__law_never fd__law_take fd__law_dominates fd_short_life fd_places_by_life fd_matching fd_never_worse fd__law_is_number fd__law_right fd_law) : FnG P w K mg base 1 f__law_served fd__law_served ["stock", "future"] (spV (gx K C_StoreError C_Worse w) 2 [] den__law_served) :=
  fn_v (k := 0) (G := gx K C_StoreError C_Worse w) (N := N__law_served) (ps := ["stock", "future"]) T.F__law_served sc__law_served (by decide) [] fun cdv A outer s0 H E m =>
    (b_cons (s_par3 (i := 2) (j := 3) (l := 4) rfl sc__law_served.nd (by decide) (by decide) (by decide) (by decide) (va_cons (v_sort2 rfl T.z_sorted (v_var 0)) (va_cons v_int (va_cons (v_lst va_nil) va_nil))))
    (b_cons (s_for m.po rfl (i_seq (v_var 1) rfl) (g_name 5 sc__law_served.nd (by decide))
    (b_cons (s_set (i := 6) sc__law_served.nd (by decide) (v_min2 rfl T.z_min (v_var 5) (v_len rfl T.z_len (v_var 2))))
    (b_cons (s_set (i := 3) sc__law_served.nd (by decide) (v_add (v_var 3) (v_var 6)))
    (b_cons (s_expr (v_lm (i := 4) lm_app PySem.F.slot_list_append PySem.F.type_list_append mt_append rfl (by first | exact Or.inl rfl | exact Or.inr (Or.inl rfl) | exact Or.inr (Or.inr rfl)) (by decide) (by decide) (va_cons (v_fz (v_var 3)) va_nil)))
    (b_one (s_setLc (i := 2) (own := [("one", 7)]) rfl sc__law_served.nd rfl rfl (by decide) rfl (i_seq (v_sl (v_var 2) (vo_some (v_var 6)) vo_none) rfl) (by show BlkOk N__law_served (defScope s__law_served) _ _; exact ⟨rfl, by decide +kernel, by decide +kernel, by decide +kernel, by decide +kernel⟩) (fun _ _ _ _ _ => (g_name 7 sc__law_served.nd (by decide))) (fun _ _ _ _ _ => (t_one (t_gt (v_var 7) v_int))) (fun _ _ _ _ _ => (v_sub (v_var 7) v_int)) (by decide) (by decide)))))))
    (b_one (s_ret (v_mv (v_var 4))))))
theorem ok__law_never (T : Tx K mg C_StoreError C_Worse f__law_feed f__law_served f__law_never f__law_take f__law_dominates f_short_life f_places_by_life f_matching f_never_worse f__law_is_number f__law_right f_law fX_Worse fd__law_feed fd__law_served fd__law_never fd__law_take fd__law_dominates fd_short_life fd_places_by_life fd_matching fd_never_worse fd__law_is_number fd__law_right fd_law) : FnG P w K mg base 2 f__law_never fd__law_never ["first", "second"] (spV (gx K C_StoreError C_Worse w) 2 [] den__law_never) :=
  fn_v (k := 1) (G := gx K C_StoreError C_Worse w) (N := N__law_never) (ps := ["first", "second"]) T.F__law_never sc__law_never (by decide) [] fun cdv A outer s0 H E m =>
    (b_cons (s_set (i := 2) sc__law_never.nd (by decide) (v_lst (va_cons (v_lst va_nil) va_nil)))
    (b_cons (s_for m.po rfl (i_r1 T.z_range v_int) (g_name 3 sc__law_never.nd (by decide))
    (b_cons (s_set (i := 4) sc__law_never.nd (by decide) (v_lst va_nil))
    (b_cons (s_for m.po rfl (i_seq (v_fz (v_var 2)) rfl) (g_name 5 sc__law_never.nd (by decide))
    (b_one (s_set (i := 4) sc__law_never.nd (by decide) (v_add (v_var 4) (v_comp (own := [("number", 8)]) rfl sc__law_never.nd (i_r1 T.z_range (v_add (v_len rfl T.z_len (v_var 1)) v_int)) (by show BlkOk N__law_never (defScope s__law_never) _ _; exact ⟨rfl, by decide +kernel, by decide +kernel, by decide +kernel, by decide +kernel⟩) (fun _ _ _ _ _ => (g_name 8 sc__law_never.nd (by decide))) (fun _ _ _ _ _ => t_yes) (fun _ _ _ _ _ => (v_add (v_var 5) (v_lst (va_cons (v_fz (v_var 8)) va_nil)))) (by decide) (by decide))))))
    (b_one (s_set (i := 2) sc__law_never.nd (by decide) (v_fz (v_var 4)))))))
    (b_cons (s_for m.po rfl (i_seq (v_fz (v_var 2)) rfl) (g_name 5 sc__law_never.nd (by decide))
    (b_cons (s_asg (v_tup (va_cons (v_call (k := 1) ((ok__law_served (P := P) (w := w) (base := base) T).mono (by decide)) (m.rm.mono (by decide)) m.tk T.m__law_served T.k__law_served T.b__law_served (va_cons (v_var 0) (va_cons (v_var 5) va_nil))) (va_cons (v_call (k := 1) ((ok__law_served (P := P) (w := w) (base := base) T).mono (by decide)) (m.rm.mono (by decide)) m.tk T.m__law_served T.k__law_served T.b__law_served (va_cons (v_var 1) (va_cons (v_var 5) va_nil))) va_nil))) (g_tup rfl (gs_cons (g_name 6 sc__law_never.nd (by decide)) (gs_cons (g_name 7 sc__law_never.nd (by decide)) gs_nil)) (len_cons (len_cons len_nil))))
    (b_one (s_if (t_ne m.rm.r (v_comp (own := [("day", 3)]) rfl sc__law_never.nd (i_r1 T.z_range v_int) (by show BlkOk N__law_never (defScope s__law_never) _ _; exact ⟨rfl, by decide +kernel, by decide +kernel, by decide +kernel, by decide +kernel⟩) (fun _ _ _ _ _ => (g_name 3 sc__law_never.nd (by decide))) (fun _ _ _ _ _ => (t_one (t_lt (v_idx rfl (v_var 6) (v_var 3)) (v_idx rfl (v_var 7) (v_var 3))))) (fun _ _ _ _ _ => (v_fz (v_var 3))) (by decide) (by decide)) (v_lst va_nil))
    (b_one (s_ret v_bl))
    b_nil))))
    (b_one (s_ret v_bl)))))
theorem ok__law_take (T : Tx K mg C_StoreError C_Worse f__law_feed f__law_served f__law_never f__law_take f__law_dominates f_short_life f_places_by_life f_matching f_never_worse f__law_is_number f__law_right f_law fX_Worse fd__law_feed fd__law_served fd__law_never fd__law_take fd__law_dominates fd_short_life fd_places_by_life fd_matching fd_never_worse fd__law_is_number fd__law_right fd_law) : FnG P w K mg base 1 f__law_take fd__law_take ["feed", "many"] (spV (gx K C_StoreError C_Worse w) 2 [0] den__law_take) :=
  fn_v (k := 0) (G := gx K C_StoreError C_Worse w) (N := N__law_take) (ps := ["feed", "many"]) T.F__law_take sc__law_take (by decide) [0] fun cdv A outer s0 H E m =>
    (b_cons (s_if (t_gt (v_idx rfl (v_var 0) v_int) v_int)
    (b_cons (s_set (i := 2) sc__law_take.nd (by decide) (v_mod (v_idx rfl (v_var 0) v_int) (v_var 1)))
    (b_cons (s_asg (v_div (v_idx rfl (v_var 0) v_int) (v_var 1)) (g_sub (W := fun cls d _ H => E cls d H) (i := 0) rfl (by first | exact Or.inl rfl | exact Or.inr (Or.inl rfl) | exact Or.inr (Or.inr rfl)) (by decide) (by decide) v_int))
    (b_one (s_ret (v_mv (v_var 2))))))
    b_nil)
    (b_cons (s_asg (v_mod (v_add (v_mul (v_idx rfl (v_var 0) v_int) v_int) v_int) v_int) (g_sub (W := fun cls d _ H => E cls d H) (i := 0) rfl (by first | exact Or.inl rfl | exact Or.inr (Or.inl rfl) | exact Or.inr (Or.inr rfl)) (by decide) (by decide) v_int))
    (b_one (s_ret (v_mod (v_div (v_idx rfl (v_var 0) v_int) v_int) (v_var 1))))))
theorem ok__law_dominates (T : Tx K mg C_StoreError C_Worse f__law_feed f__law_served f__law_never f__law_take f__law_dominates f_short_life f_places_by_life f_matching f_never_worse f__law_is_number f__law_right f_law fX_Worse fd__law_feed fd__law_served fd__law_never fd__law_take fd__law_dominates fd_short_life fd_places_by_life fd_matching fd_never_worse fd__law_is_number fd__law_right fd_law) : FnG P w K mg base 1 f__law_dominates fd__law_dominates ["first", "second"] (spV (gx K C_StoreError C_Worse w) 2 [] den__law_dominates) :=
  fn_v (k := 0) (G := gx K C_StoreError C_Worse w) (N := N__law_dominates) (ps := ["first", "second"]) T.F__law_dominates sc__law_dominates (by decide) [] fun cdv A outer s0 H E m =>
    (b_cons (s_asg (v_tup (va_cons (v_rev (v_sort2 rfl T.z_sorted (v_var 0))) (va_cons (v_rev (v_sort2 rfl T.z_sorted (v_var 1))) va_nil))) (g_tup rfl (gs_cons (g_name 2 sc__law_dominates.nd (by decide)) (gs_cons (g_name 3 sc__law_dominates.nd (by decide)) gs_nil)) (len_cons (len_cons len_nil))))
    (b_cons (s_if (t_lt (v_len rfl T.z_len (v_var 2)) (v_len rfl T.z_len (v_var 3)))
    (b_one (s_ret v_bl))
    b_nil)
    (b_one (s_ret (v_eq m.rm.r (v_comp (own := [("at", 4)]) rfl sc__law_dominates.nd (i_r1 T.z_range (v_len rfl T.z_len (v_var 3))) (by show BlkOk N__law_dominates (defScope s__law_dominates) _ _; exact ⟨rfl, by decide +kernel, by decide +kernel, by decide +kernel, by decide +kernel⟩) (fun _ _ _ _ _ => (g_name 4 sc__law_dominates.nd (by decide))) (fun _ _ _ _ _ => (t_one (t_lt (v_idx rfl (v_var 2) (v_var 4)) (v_idx rfl (v_var 3) (v_var 4))))) (fun _ _ _ _ _ => (v_fz (v_var 4))) (by decide) (by decide)) (v_lst va_nil))))))
theorem ok_short_life (T : Tx K mg C_StoreError C_Worse f__law_feed f__law_served f__law_never f__law_take f__law_dominates f_short_life f_places_by_life f_matching f_never_worse f__law_is_number f__law_right f_law fX_Worse fd__law_feed fd__law_served fd__law_never fd__law_take fd__law_dominates fd_short_life fd_places_by_life fd_matching fd_never_worse fd__law_is_number fd__law_right fd_law) : FnG P w K mg base 1 f_short_life fd_short_life ["first", "second"] (spV (gx K C_StoreError C_Worse w) 2 [] den_short_life) :=
  fn_v (k := 0) (G := gx K C_StoreError C_Worse w) (N := N_short_life) (ps := ["first", "second"]) T.F_short_life sc_short_life (by decide) [] fun cdv A outer s0 H E m =>
    (b_cons (s_for m.po rfl (i_seq (v_sortSet3 rfl rfl T.z_sorted T.z_set (v_var 1)) rfl) (g_name 2 sc_short_life.nd (by decide))
    (b_one (s_if (t_lt (v_len rfl T.z_len (v_comp (own := [("one", 3)]) rfl sc_short_life.nd (i_seq (v_var 0) rfl) (by show BlkOk N_short_life (defScope s_short_life) _ _; exact ⟨rfl, by decide +kernel, by decide +kernel, by decide +kernel, by decide +kernel⟩) (fun _ _ _ _ _ => (g_name 3 sc_short_life.nd (by decide))) (fun _ _ _ _ _ => (t_one (t_ge (v_var 3) (v_var 2)))) (fun _ _ _ _ _ => (v_fz (v_var 3))) (by decide) (by decide))) (v_len rfl T.z_len (v_comp (own := [("one", 3)]) rfl sc_short_life.nd (i_seq (v_var 1) rfl) (by show BlkOk N_short_life (defScope s_short_life) _ _; exact ⟨rfl, by decide +kernel, by decide +kernel, by decide +kernel, by decide +kernel⟩) (fun _ _ _ _ _ => (g_name 3 sc_short_life.nd (by decide))) (fun _ _ _ _ _ => (t_one (t_ge (v_var 3) (v_var 2)))) (fun _ _ _ _ _ => (v_fz (v_var 3))) (by decide) (by decide))))
    (b_one (s_ret (v_mv (v_var 2))))
    b_nil)))
    (b_one (s_ret v_non)))
theorem ok_places_by_life (T : Tx K mg C_StoreError C_Worse f__law_feed f__law_served f__law_never f__law_take f__law_dominates f_short_life f_places_by_life f_matching f_never_worse f__law_is_number f__law_right f_law fX_Worse fd__law_feed fd__law_served fd__law_never fd__law_take fd__law_dominates fd_short_life fd_places_by_life fd_matching fd_never_worse fd__law_is_number fd__law_right fd_law) : FnG P w K mg base 1 f_places_by_life fd_places_by_life ["stock"] (spV (gx K C_StoreError C_Worse w) 1 [] den_places_by_life) :=
  fn_v (k := 0) (G := gx K C_StoreError C_Worse w) (N := N_places_by_life) (ps := ["stock"]) T.F_places_by_life sc_places_by_life (by decide) [] fun cdv A outer s0 H E m =>
    (b_one (s_ret (v_comp (own := [("life", 1), ("place", 2)]) rfl sc_places_by_life.nd (i_seq (v_sort2 rfl T.z_sorted (v_comp (own := [("place", 2), ("life", 1)]) rfl sc_places_by_life.nd (i_enA T.z_enumerate (v_var 0)) (by show BlkOk N_places_by_life (defScope s_places_by_life) _ _; exact ⟨rfl, by decide +kernel, by decide +kernel, by decide +kernel, by decide +kernel⟩) (fun _ _ _ _ _ => (g_tup rfl (gs_cons (g_name 2 sc_places_by_life.nd (by decide)) (gs_cons (g_name 1 sc_places_by_life.nd (by decide)) gs_nil)) (len_cons (len_cons len_nil)))) (fun _ _ _ _ _ => t_yes) (fun _ _ _ _ _ => (v_tup (va_cons (v_neg (v_var 1)) (va_cons (v_fz (v_var 2)) va_nil)))) (by decide) (by decide))) rfl) (by show BlkOk N_places_by_life (defScope s_places_by_life) _ _; exact ⟨rfl, by decide +kernel, by decide +kernel, by decide +kernel, by decide +kernel⟩) (fun _ _ _ _ _ => (g_tup rfl (gs_cons (g_name 1 sc_places_by_life.nd (by decide)) (gs_cons (g_name 2 sc_places_by_life.nd (by decide)) gs_nil)) (len_cons (len_cons len_nil)))) (fun _ _ _ _ _ => t_yes) (fun _ _ _ _ _ => (v_fz (v_var 2))) (by decide) (by decide))))
theorem ok_matching (T : Tx K mg C_StoreError C_Worse f__law_feed f__law_served f__law_never f__law_take f__law_dominates f_short_life f_places_by_life f_matching f_never_worse f__law_is_number f__law_right f_law fX_Worse fd__law_feed fd__law_served fd__law_never fd__law_take fd__law_dominates fd_short_life fd_places_by_life fd_matching fd_never_worse fd__law_is_number fd__law_right fd_law) : FnG P w K mg base 2 f_matching fd_matching ["first", "second"] (spV (gx K C_StoreError C_Worse w) 2 [] den_matching) :=
  fn_v (k := 1) (G := gx K C_StoreError C_Worse w) (N := N_matching) (ps := ["first", "second"]) T.F_matching sc_matching (by decide) [] fun cdv A outer s0 H E m =>
    (b_cons (s_set (i := 2) sc_matching.nd (by decide) (v_call (k := 1) ((ok_short_life (P := P) (w := w) (base := base) T).mono (by decide)) (m.rm.mono (by decide)) m.tk T.m_short_life T.k_short_life T.b_short_life (va_cons (v_var 0) (va_cons (v_var 1) va_nil))))
    (b_cons (s_if (t_notN (v_var 2) v_non)
    (b_one (s_raise_Worse (c := 1) rfl T.x_Worse m.rm.r m.tk rfl rfl (v_fz (v_add (v_mul (v_lst (va_cons v_int va_nil)) (v_sub (v_var 2) v_int)) (v_lst (va_cons (v_len rfl T.z_len (v_var 1)) va_nil))))))
    b_nil)
    (b_cons (s_set (i := 3) sc_matching.nd (by decide) (v_dictZip rfl T.z_dict T.z_zip (v_call (k := 1) ((ok_places_by_life (P := P) (w := w) (base := base) T).mono (by decide)) (m.rm.mono (by decide)) m.tk T.m_places_by_life T.k_places_by_life T.b_places_by_life (va_cons (v_var 1) va_nil)) (v_call (k := 1) ((ok_places_by_life (P := P) (w := w) (base := base) T).mono (by decide)) (m.rm.mono (by decide)) m.tk T.m_places_by_life T.k_places_by_life T.b_places_by_life (va_cons (v_var 0) va_nil))))
    (b_one (s_ret (v_comp (own := [("place", 4)]) rfl sc_matching.nd (i_r1 T.z_range (v_len rfl T.z_len (v_var 1))) (by show BlkOk N_matching (defScope s_matching) _ _; exact ⟨rfl, by decide +kernel, by decide +kernel, by decide +kernel, by decide +kernel⟩) (fun _ _ _ _ _ => (g_name 4 sc_matching.nd (by decide))) (fun _ _ _ _ _ => t_yes) (fun _ _ _ _ _ => (v_idxD m.rm.r (v_var 3) (v_var 4) (fun _ _ => rfl))) (by decide) (by decide)))))))
theorem ok_never_worse (T : Tx K mg C_StoreError C_Worse f__law_feed f__law_served f__law_never f__law_take f__law_dominates f_short_life f_places_by_life f_matching f_never_worse f__law_is_number f__law_right f_law fX_Worse fd__law_feed fd__law_served fd__law_never fd__law_take fd__law_dominates fd_short_life fd_places_by_life fd_matching fd_never_worse fd__law_is_number fd__law_right fd_law) : FnG P w K mg base 2 f_never_worse fd_never_worse ["first", "second"] (spV (gx K C_StoreError C_Worse w) 2 [] den_never_worse) :=
  fn_v (k := 1) (G := gx K C_StoreError C_Worse w) (N := N_never_worse) (ps := ["first", "second"]) T.F_never_worse sc_never_worse (by decide) [] fun cdv A outer s0 H E m =>
    (b_one (s_ret (v_isN (v_call (k := 1) ((ok_short_life (P := P) (w := w) (base := base) T).mono (by decide)) (m.rm.mono (by decide)) m.tk T.m_short_life T.k_short_life T.b_short_life (va_cons (v_var 0) (va_cons (v_var 1) va_nil))) v_non)))
theorem ok__law_is_number (T : Tx K mg C_StoreError C_Worse f__law_feed f__law_served f__law_never f__law_take f__law_dominates f_short_life f_places_by_life f_matching f_never_worse f__law_is_number f__law_right f_law fX_Worse fd__law_feed fd__law_served fd__law_never fd__law_take fd__law_dominates fd_short_life fd_places_by_life fd_matching fd_never_worse fd__law_is_number fd__law_right fd_law) : FnG P w K mg base 1 f__law_is_number fd__law_is_number ["thing"] (spV (gx K C_StoreError C_Worse w) 1 [] den__law_is_number) :=
  fn_v (k := 0) (G := gx K C_StoreError C_Worse w) (N := N__law_is_number) (ps := ["thing"]) T.F__law_is_number sc__law_is_number (by decide) [] fun cdv A outer s0 H E m =>
    (b_one (s_ret (v_and (v_isi (T := .int) (by decide) T.z_isinstance T.z_int (by decide +kernel) (v_var 0)) (v_and (v_not (v_isi (T := .bl) (by decide) T.z_isinstance T.z_bool (by decide +kernel) (v_var 0))) (v_bop1 (v_ge (v_var 0) v_int))))))
theorem ok__law_right (T : Tx K mg C_StoreError C_Worse f__law_feed f__law_served f__law_never f__law_take f__law_dominates f_short_life f_places_by_life f_matching f_never_worse f__law_is_number f__law_right f_law fX_Worse fd__law_feed fd__law_served fd__law_never fd__law_take fd__law_dominates fd_short_life fd_places_by_life fd_matching fd_never_worse fd__law_is_number fd__law_right fd_law) : FnG P w K mg base 3 f__law_right fd__law_right ["first", "second", "due"] (spV (gx K C_StoreError C_Worse w) 3 [] den__law_right) :=
  fn_v (k := 2) (G := gx K C_StoreError C_Worse w) (N := N__law_right) (ps := ["first", "second", "due"]) T.F__law_right sc__law_right (by decide) [] fun cdv A outer s0 H E m =>
    (b_cons (s_set (i := 3) sc__law_right.nd (by decide) (v_repr2 m.rm T.z_repr (v_tup (va_cons (v_fz (v_var 0)) (va_cons (v_fz (v_var 1)) va_nil)))))
    (b_cons (s_if (t_ne m.rm.r (v_repr2 m.rm T.z_repr (v_call (k := 2) ((ok_never_worse (P := P) (w := w) (base := base) T).mono (by decide)) (m.rm.mono (by decide)) m.tk T.m_never_worse T.k_never_worse T.b_never_worse (va_cons (v_var 0) (va_cons (v_var 1) va_nil)))) (v_repr2 m.rm T.z_repr (v_var 2)))
    (b_one (s_ret v_bl))
    b_nil)
    (b_cons (s_asg (v_tup (va_cons v_non (va_cons v_non va_nil))) (g_tup rfl (gs_cons (g_name 4 sc__law_right.nd (by decide)) (gs_cons (g_name 5 sc__law_right.nd (by decide)) gs_nil)) (len_cons (len_cons len_nil))))
    (b_cons (s_tryK (c := 0) (j := 6) (y := 4) m.stk m.frm rfl sc__law_right.nd m.tk (fun W' pn xe tk po => (fun m =>
    (b_one (s_set (i := 5) sc__law_right.nd (by decide) (v_call (k := 2) ((ok_matching (P := P) (w := w) (base := base) T).mono (by decide)) (m.rm.mono (by decide)) m.tk T.m_matching T.k_matching T.b_matching (va_cons (v_var 0) (va_cons (v_var 1) va_nil)))))) (m.tr tk po)) (by
      intro c hc
      simp only [List.mem_cons, List.not_mem_nil, or_false] at hc
      rcases hc with rfl
      exact T.xt_Worse_StoreError) ⟨rfl, by decide +kernel, .inl T.xg_StoreError⟩ rfl rfl rfl (Or.inl rfl) (Or.inl rfl) (by decide) (by decide) (by decide) (by show 6 < N__law_right.length; decide) (by decide) (by decide))
    (b_cons (s_if (PW.pt (t_or (t_ne m.rm.r (v_repr2 m.rm T.z_repr (v_tup (va_cons (v_fz (v_var 0)) (va_cons (v_fz (v_var 1)) va_nil)))) (v_var 3)) (t_or1 (t_ne m.rm.r (v_isN (v_var 4) v_non) (v_var 2)))))
    (b_one (s_ret v_bl))
    b_nil)
    (b_cons (s_if (t_notN (v_var 4) v_non)
    (b_cons (s_set (i := 7) sc__law_right.nd (by decide) (v_ifx (t_val (v_isE (c := 1) (by
      intro c hc
      simp only [List.mem_cons, List.not_mem_nil, or_false] at hc
      rcases hc with rfl
      exact T.xc_Worse) (by
      intro c hc
      simp only [List.mem_cons, List.not_mem_nil, or_false] at hc
      rcases hc with rfl
      exact T.kx_Worse_Worse) T.z_isinstance T.x_Worse.gC (v_var 4))) (v_err (c := 1) ⟨T.x_Worse.ga, T.x_Worse.gg, T.x_Worse.exC, T.x_Worse.hdC, T.x_Worse.noN⟩ rfl (v_var 4)) v_non))
    (b_cons (s_if (PW.pt (t_or (t_not (t_val (v_isi (T := .lst) (by decide) T.z_isinstance T.z_list (by decide +kernel) (v_var 7)))) (t_or1 (t_ne m.rm.r (v_comp (own := [("one", 8)]) rfl sc__law_right.nd (i_seq (v_fz (v_var 7)) rfl) (by show BlkOk N__law_right (defScope s__law_right) _ _; exact ⟨rfl, by decide +kernel, by decide +kernel, by decide +kernel, by decide +kernel⟩) (fun _ _ _ _ _ => (g_name 8 sc__law_right.nd (by decide))) (fun _ _ _ _ _ => (t_one (t_not (t_val (v_call (k := 1) ((ok__law_is_number (P := P) (w := w) (base := base) T).mono (by decide)) (m.rm.mono (by decide)) takesW0 T.m__law_is_number T.k__law_is_number T.b__law_is_number (va_cons (v_var 8) va_nil)))))) (fun _ _ _ _ _ => (v_fz (v_var 8))) (by decide) (by decide)) (v_lst va_nil)))))
    (b_one (s_ret v_bl))
    b_nil)
    (b_cons (s_if (t_lt (v_min1 rfl T.z_min (v_add (v_lst (va_cons v_int va_nil)) (v_var 7))) v_int)
    (b_one (s_ret v_bl))
    b_nil)
    (b_one (s_ret (v_and (v_ne m.rm.r (v_var 7) (v_lst va_nil)) (v_bop1 (v_lt (v_idx rfl (v_call (k := 1) ((ok__law_served (P := P) (w := w) (base := base) T).mono (by decide)) (m.rm.mono (by decide)) m.tk T.m__law_served T.k__law_served T.b__law_served (va_cons (v_var 0) (va_cons (v_var 7) va_nil))) (v_neg v_int)) (v_idx rfl (v_call (k := 1) ((ok__law_served (P := P) (w := w) (base := base) T).mono (by decide)) (m.rm.mono (by decide)) m.tk T.m__law_served T.k__law_served T.b__law_served (va_cons (v_var 1) (va_cons (v_var 7) va_nil))) (v_neg v_int))))))))))
    b_nil)
    (b_cons (s_if (PW.pt (t_or (t_not (t_val (v_isi (T := .lst) (by decide) T.z_isinstance T.z_list (by decide +kernel) (v_var 5)))) (t_or (t_ne m.rm.r (v_len rfl T.z_len (v_var 5)) (v_len rfl T.z_len (v_var 1))) (t_or1 (t_ne m.rm.r (v_lenSet rfl T.z_len T.z_set (v_var 5)) (v_len rfl T.z_len (v_var 5)))))))
    (b_one (s_ret v_bl))
    b_nil)
    (b_cons (s_if (t_ne m.rm.r (v_comp (own := [("place", 9)]) rfl sc__law_right.nd (i_seq (v_fz (v_var 5)) rfl) (by show BlkOk N__law_right (defScope s__law_right) _ _; exact ⟨rfl, by decide +kernel, by decide +kernel, by decide +kernel, by decide +kernel⟩) (fun _ _ _ _ _ => (g_name 9 sc__law_right.nd (by decide))) (fun _ _ _ _ _ => (t_one (PW.pt (t_or (t_not (t_val (v_call (k := 1) ((ok__law_is_number (P := P) (w := w) (base := base) T).mono (by decide)) (m.rm.mono (by decide)) takesW0 T.m__law_is_number T.k__law_is_number T.b__law_is_number (va_cons (v_var 9) va_nil)))) (t_or1 (t_ge (v_var 9) (v_len rfl T.z_len (v_var 0)))))))) (fun _ _ _ _ _ => (v_fz (v_var 9))) (by decide) (by decide)) (v_lst va_nil))
    (b_one (s_ret v_bl))
    b_nil)
    (b_one (s_ret (v_eq m.rm.r (v_comp (own := [("at", 10)]) rfl sc__law_right.nd (i_r1 T.z_range (v_len rfl T.z_len (v_var 1))) (by show BlkOk N__law_right (defScope s__law_right) _ _; exact ⟨rfl, by decide +kernel, by decide +kernel, by decide +kernel, by decide +kernel⟩) (fun _ _ _ _ _ => (g_name 10 sc__law_right.nd (by decide))) (fun _ _ _ _ _ => (t_one (t_lt (v_idx rfl (v_var 0) (v_idx rfl (v_var 5) (v_var 10))) (v_idx rfl (v_var 1) (v_var 10))))) (fun _ _ _ _ _ => (v_fz (v_var 10))) (by decide) (by decide)) (v_lst va_nil))))))))))))
theorem ok_law (T : Tx K mg C_StoreError C_Worse f__law_feed f__law_served f__law_never f__law_take f__law_dominates f_short_life f_places_by_life f_matching f_never_worse f__law_is_number f__law_right f_law fX_Worse fd__law_feed fd__law_served fd__law_never fd__law_take fd__law_dominates fd_short_life fd_places_by_life fd_matching fd_never_worse fd__law_is_number fd__law_right fd_law) : FnG P w K mg base 4 f_law fd_law ["script"] (spV (gx K C_StoreError C_Worse w) 1 [] den_law) :=
  fn_v (k := 3) (G := gx K C_StoreError C_Worse w) (N := N_law) (ps := ["script"]) T.F_law sc_law (by decide) [] fun cdv A outer s0 H E m =>
    (b_cons (s_for m.po rfl (i_r1 T.z_range (v_max2 rfl T.z_max v_int (v_min2 rfl T.z_min v_int (v_len rfl T.z_len (v_var 0))))) (g_name 1 sc_law.nd (by decide))
    (b_cons (s_set (i := 2) sc_law.nd (by decide) (v_call (k := 1) ((ok__law_feed (P := P) (w := w) (base := base) T).mono (by decide)) (m.rm.mono (by decide)) m.tk T.m__law_feed T.k__law_feed T.b__law_feed (va_cons (v_var 0) (va_cons (v_var 1) va_nil))))
    (b_cons (s_setLc (i := 3) (own := [("turn", 9)]) rfl sc_law.nd rfl rfl (by decide) rfl (i_r1 T.z_range (v_call (k := 1) ((ok__law_take (P := P) (w := w) (base := base) T).mono (by decide)) (m.rm.mono (by decide)) m.tk T.m__law_take T.k__law_take T.b__law_take (va_cons (v_var 2) (va_cons v_int va_nil)))) (by show BlkOk N_law (defScope s_law) _ _; exact ⟨rfl, by decide +kernel, by decide +kernel, by decide +kernel, by decide +kernel⟩) (fun _ _ _ _ _ => (g_name 9 sc_law.nd (by decide))) (fun _ _ _ _ _ => t_yes) (fun _ _ _ _ _ => (v_add v_int (v_call (k := 1) ((ok__law_take (P := P) (w := w) (base := base) T).mono (by decide)) (m.rm.mono (by decide)) takesW0 T.m__law_take T.k__law_take T.b__law_take (va_cons (v_var 2) (va_cons v_int va_nil))))) (by decide) (by decide))
    (b_cons (s_setLc (i := 4) (own := [("turn", 9)]) rfl sc_law.nd rfl rfl (by decide) rfl (i_r1 T.z_range (v_call (k := 1) ((ok__law_take (P := P) (w := w) (base := base) T).mono (by decide)) (m.rm.mono (by decide)) m.tk T.m__law_take T.k__law_take T.b__law_take (va_cons (v_var 2) (va_cons v_int va_nil)))) (by show BlkOk N_law (defScope s_law) _ _; exact ⟨rfl, by decide +kernel, by decide +kernel, by decide +kernel, by decide +kernel⟩) (fun _ _ _ _ _ => (g_name 9 sc_law.nd (by decide))) (fun _ _ _ _ _ => t_yes) (fun _ _ _ _ _ => (v_add v_int (v_call (k := 1) ((ok__law_take (P := P) (w := w) (base := base) T).mono (by decide)) (m.rm.mono (by decide)) takesW0 T.m__law_take T.k__law_take T.b__law_take (va_cons (v_var 2) (va_cons v_int va_nil))))) (by decide) (by decide))
    (b_cons (s_if (t_eq m.rm.r (v_call (k := 1) ((ok__law_take (P := P) (w := w) (base := base) T).mono (by decide)) (m.rm.mono (by decide)) m.tk T.m__law_take T.k__law_take T.b__law_take (va_cons (v_var 2) (va_cons v_int va_nil))) v_int)
    (b_one (s_set (i := 4) sc_law.nd (by decide) (v_sl (v_comp (own := [("one", 7)]) rfl sc_law.nd (i_seq (v_rev (v_var 3)) rfl) (by show BlkOk N_law (defScope s_law) _ _; exact ⟨rfl, by decide +kernel, by decide +kernel, by decide +kernel, by decide +kernel⟩) (fun _ _ _ _ _ => (g_name 7 sc_law.nd (by decide))) (fun _ _ _ _ _ => t_yes) (fun _ _ _ _ _ => (v_max2 rfl T.z_max v_int (v_sub (v_var 7) (v_call (k := 1) ((ok__law_take (P := P) (w := w) (base := base) T).mono (by decide)) (m.rm.mono (by decide)) takesW0 T.m__law_take T.k__law_take T.b__law_take (va_cons (v_var 2) (va_cons v_int va_nil)))))) (by decide) (by decide)) vo_none (vo_some v_int))))
    b_nil)
    (b_cons (s_set (i := 5) sc_law.nd (by decide) (v_call (k := 2) ((ok__law_never (P := P) (w := w) (base := base) T).mono (by decide)) (m.rm.mono (by decide)) m.tk T.m__law_never T.k__law_never T.b__law_never (va_cons (v_var 3) (va_cons (v_var 4) va_nil))))
    (b_cons (s_if (PW.pt (t_or (t_ne m.rm.r (v_var 5) (v_call (k := 1) ((ok__law_dominates (P := P) (w := w) (base := base) T).mono (by decide)) (m.rm.mono (by decide)) m.tk T.m__law_dominates T.k__law_dominates T.b__law_dominates (va_cons (v_var 3) (va_cons (v_var 4) va_nil)))) (t_or1 (t_not (t_val (v_call (k := 3) ((ok__law_right (P := P) (w := w) (base := base) T).mono (by decide)) (m.rm.mono (by decide)) m.tk T.m__law_right T.k__law_right T.b__law_right (va_cons (v_fz (v_var 3)) (va_cons (v_fz (v_var 4)) (va_cons (v_var 5) va_nil)))))))))
    (b_one (s_ret v_bl))
    b_nil)
    (b_cons (s_if (PW.pt (t_or (t_not (t_val (v_call (k := 3) ((ok__law_right (P := P) (w := w) (base := base) T).mono (by decide)) (m.rm.mono (by decide)) m.tk T.m__law_right T.k__law_right T.b__law_right (va_cons (v_fz (v_tuple T.z_tuple (v_var 3))) (va_cons (v_fz (v_var 4)) (va_cons (v_var 5) va_nil)))))) (t_or1 (t_not (t_val (v_call (k := 3) ((ok__law_right (P := P) (w := w) (base := base) T).mono (by decide)) (m.rm.mono (by decide)) m.tk T.m__law_right T.k__law_right T.b__law_right (va_cons (v_fz (v_var 3)) (va_cons (v_fz (v_tuple T.z_tuple (v_var 4))) (va_cons (v_var 5) va_nil)))))))))
    (b_one (s_ret v_bl))
    b_nil)
    (b_cons (s_setLc (i := 3) (own := [("turn", 9)]) rfl sc_law.nd rfl rfl (by decide) rfl (i_r1 T.z_range (v_call (k := 1) ((ok__law_take (P := P) (w := w) (base := base) T).mono (by decide)) (m.rm.mono (by decide)) m.tk T.m__law_take T.k__law_take T.b__law_take (va_cons (v_var 2) (va_cons v_int va_nil)))) (by show BlkOk N_law (defScope s_law) _ _; exact ⟨rfl, by decide +kernel, by decide +kernel, by decide +kernel, by decide +kernel⟩) (fun _ _ _ _ _ => (g_name 9 sc_law.nd (by decide))) (fun _ _ _ _ _ => t_yes) (fun _ _ _ _ _ => (v_add v_int (v_call (k := 1) ((ok__law_take (P := P) (w := w) (base := base) T).mono (by decide)) (m.rm.mono (by decide)) takesW0 T.m__law_take T.k__law_take T.b__law_take (va_cons (v_var 2) (va_cons v_int va_nil))))) (by decide) (by decide))
    (b_cons (s_setLc (i := 4) (own := [("one", 7)]) rfl sc_law.nd rfl rfl (by decide) rfl (i_seq (v_rev (v_var 3)) rfl) (by show BlkOk N_law (defScope s_law) _ _; exact ⟨rfl, by decide +kernel, by decide +kernel, by decide +kernel, by decide +kernel⟩) (fun _ _ _ _ _ => (g_name 7 sc_law.nd (by decide))) (fun _ _ _ _ _ => t_yes) (fun _ _ _ _ _ => (v_max2 rfl T.z_max v_int (v_sub (v_var 7) (v_call (k := 1) ((ok__law_take (P := P) (w := w) (base := base) T).mono (by decide)) (m.rm.mono (by decide)) takesW0 T.m__law_take T.k__law_take T.b__law_take (va_cons (v_var 2) (va_cons v_int va_nil)))))) (by decide) (by decide))
    (b_cons (s_if (PW.pt (t_and (t_ne m.rm.r (v_var 4) (v_lst va_nil)) (t_and1 (t_eq m.rm.r (v_call (k := 1) ((ok__law_take (P := P) (w := w) (base := base) T).mono (by decide)) (m.rm.mono (by decide)) m.tk T.m__law_take T.k__law_take T.b__law_take (va_cons (v_var 2) (va_cons v_int va_nil))) v_int))))
    (b_one (s_asg v_int (g_sub (W := fun cls d _ H => E cls d H) (i := 4) rfl (by first | exact Or.inl rfl | exact Or.inr (Or.inl rfl) | exact Or.inr (Or.inr rfl)) (by decide) (by decide) (v_call (k := 1) ((ok__law_take (P := P) (w := w) (base := base) T).mono (by decide)) (m.rm.mono (by decide)) m.tk T.m__law_take T.k__law_take T.b__law_take (va_cons (v_var 2) (va_cons (v_len rfl T.z_len (v_var 4)) va_nil))))))
    b_nil)
    (b_cons (s_set (i := 6) sc_law.nd (by decide) (v_lst (va_cons (v_tup (va_cons (v_fz (v_var 3)) (va_cons (v_fz (v_var 4)) va_nil))) (va_cons (v_tup (va_cons (v_fz (v_var 4)) (va_cons (v_fz (v_var 3)) va_nil))) (va_cons (v_tup (va_cons (v_fz (v_var 3)) (va_cons (v_fz (v_var 3)) va_nil))) va_nil)))))
    (b_one (s_for m.po rfl (i_seq (v_add (v_var 6) (v_lst (va_cons (v_tup (va_cons (v_fz (v_var 3)) (va_cons (v_lst va_nil) va_nil))) (va_cons (v_tup (va_cons (v_lst va_nil) (va_cons (v_fz (v_var 3)) va_nil))) va_nil)))) rfl) (g_tup rfl (gs_cons (g_name 7 sc_law.nd (by decide)) (gs_cons (g_name 8 sc_law.nd (by decide)) gs_nil)) (len_cons (len_cons len_nil)))
    (b_one (s_if (t_not (t_val (v_call (k := 3) ((ok__law_right (P := P) (w := w) (base := base) T).mono (by decide)) (m.rm.mono (by decide)) m.tk T.m__law_right T.k__law_right T.b__law_right (va_cons (v_fz (v_var 7)) (va_cons (v_fz (v_var 8)) (va_cons (v_call (k := 1) ((ok__law_dominates (P := P) (w := w) (base := base) T).mono (by decide)) (m.rm.mono (by decide)) m.tk T.m__law_dominates T.k__law_dominates T.b__law_dominates (va_cons (v_var 7) (va_cons (v_var 8) va_nil))) va_nil))))))
    (b_one (s_ret v_bl))
    b_nil))))))))))))))))
    (b_one (s_ret v_bl)))
end
section
variable {K : PySem.W.Frag} {mg : Str → Option Value} {h : Heap} {fa : Addr} {C_StoreError C_Worse : Addr} {f__law_feed f__law_served f__law_never f__law_take f__law_dominates f_short_life f_places_by_life f_matching f_never_worse f__law_is_number f__law_right f_law : Addr} {fX_Worse : Addr}
  {oc__law_feed dc__law_feed pm__law_feed cd__law_feed ct__law_feed kV__law_feed : Value} {od__law_feed an__law_feed : Option Addr} {sl__law_feed : Array (Option Value)}
  {oc__law_served dc__law_served pm__law_served cd__law_served ct__law_served kV__law_served : Value} {od__law_served an__law_served : Option Addr} {sl__law_served : Array (Option Value)}
  {oc__law_never dc__law_never pm__law_never cd__law_never ct__law_never kV__law_never : Value} {od__law_never an__law_never : Option Addr} {sl__law_never : Array (Option Value)}
  {oc__law_take dc__law_take pm__law_take cd__law_take ct__law_take kV__law_take : Value} {od__law_take an__law_take : Option Addr} {sl__law_take : Array (Option Value)}
  {oc__law_dominates dc__law_dominates pm__law_dominates cd__law_dominates ct__law_dominates kV__law_dominates : Value} {od__law_dominates an__law_dominates : Option Addr} {sl__law_dominates : Array (Option Value)}
  {oc_short_life dc_short_life pm_short_life cd_short_life ct_short_life kV_short_life : Value} {od_short_life an_short_life : Option Addr} {sl_short_life : Array (Option Value)}
  {oc_places_by_life dc_places_by_life pm_places_by_life cd_places_by_life ct_places_by_life kV_places_by_life : Value} {od_places_by_life an_places_by_life : Option Addr} {sl_places_by_life : Array (Option Value)}
  {oc_matching dc_matching pm_matching cd_matching ct_matching kV_matching : Value} {od_matching an_matching : Option Addr} {sl_matching : Array (Option Value)}
  {oc_never_worse dc_never_worse pm_never_worse cd_never_worse ct_never_worse kV_never_worse : Value} {od_never_worse an_never_worse : Option Addr} {sl_never_worse : Array (Option Value)}
  {oc__law_is_number dc__law_is_number pm__law_is_number cd__law_is_number ct__law_is_number kV__law_is_number : Value} {od__law_is_number an__law_is_number : Option Addr} {sl__law_is_number : Array (Option Value)}
  {oc__law_right dc__law_right pm__law_right cd__law_right ct__law_right kV__law_right : Value} {od__law_right an__law_right : Option Addr} {sl__law_right : Array (Option Value)}
  {oc_law dc_law pm_law cd_law ct_law kV_law : Value} {od_law an_law : Option Addr} {sl_law : Array (Option Value)}
  {xnm_Worse xqn_Worse : Str} {xN_Worse fX0_Worse : Addr} {xbs_Worse xsub_Worse : List Value} {xsn_Worse : List Str} {xab_Worse : Bool} {xcol_Worse : Option Bool} {xdd_Worse xod_Worse xan_Worse : Option Addr} {xm0_Worse xm1_Worse xm2_Worse xm3_Worse xm5_Worse : Option Value} {xoc_Worse xdc_Worse xpm_Worse xcd_Worse xct_Worse : Value} {xsl_Worse : Array (Option Value)}
theorem all_mk {P : Program} {w : World} (X : K.In h) (Gn : h.Ns mainGlobals mg) (hfa : mg "law" = some (.ref fa))
    (a__law_feed : PySem.W.nsIn K mainGlobals "_law_feed" = some (some (.ref f__law_feed)))
    (l__law_feed : K.lookup f__law_feed = some ⟨oc__law_feed, od__law_feed, .func (PySem.W.fnOf "_law_feed" "_law_feed" (defArgs s__law_feed) (defBody s__law_feed) (defScope s__law_feed) .none kV__law_feed dc__law_feed pm__law_feed an__law_feed cd__law_feed ct__law_feed), sl__law_feed⟩)
    (c__law_feed : PySem.W.codeIn K cd__law_feed "_law_feed" = true)
    (k__law_feed : PySem.W.keepIn K (.ref f__law_feed) = true)
    (a__law_served : PySem.W.nsIn K mainGlobals "_law_served" = some (some (.ref f__law_served)))
    (l__law_served : K.lookup f__law_served = some ⟨oc__law_served, od__law_served, .func (PySem.W.fnOf "_law_served" "_law_served" (defArgs s__law_served) (defBody s__law_served) (defScope s__law_served) .none kV__law_served dc__law_served pm__law_served an__law_served cd__law_served ct__law_served), sl__law_served⟩)
    (c__law_served : PySem.W.codeIn K cd__law_served "_law_served" = true)
    (k__law_served : PySem.W.keepIn K (.ref f__law_served) = true)
    (a__law_never : PySem.W.nsIn K mainGlobals "_law_never" = some (some (.ref f__law_never)))
    (l__law_never : K.lookup f__law_never = some ⟨oc__law_never, od__law_never, .func (PySem.W.fnOf "_law_never" "_law_never" (defArgs s__law_never) (defBody s__law_never) (defScope s__law_never) .none kV__law_never dc__law_never pm__law_never an__law_never cd__law_never ct__law_never), sl__law_never⟩)
    (c__law_never : PySem.W.codeIn K cd__law_never "_law_never" = true)
    (k__law_never : PySem.W.keepIn K (.ref f__law_never) = true)
    (a__law_take : PySem.W.nsIn K mainGlobals "_law_take" = some (some (.ref f__law_take)))
    (l__law_take : K.lookup f__law_take = some ⟨oc__law_take, od__law_take, .func (PySem.W.fnOf "_law_take" "_law_take" (defArgs s__law_take) (defBody s__law_take) (defScope s__law_take) .none kV__law_take dc__law_take pm__law_take an__law_take cd__law_take ct__law_take), sl__law_take⟩)
    (c__law_take : PySem.W.codeIn K cd__law_take "_law_take" = true)
    (k__law_take : PySem.W.keepIn K (.ref f__law_take) = true)
    (a__law_dominates : PySem.W.nsIn K mainGlobals "_law_dominates" = some (some (.ref f__law_dominates)))
    (l__law_dominates : K.lookup f__law_dominates = some ⟨oc__law_dominates, od__law_dominates, .func (PySem.W.fnOf "_law_dominates" "_law_dominates" (defArgs s__law_dominates) (defBody s__law_dominates) (defScope s__law_dominates) .none kV__law_dominates dc__law_dominates pm__law_dominates an__law_dominates cd__law_dominates ct__law_dominates), sl__law_dominates⟩)
    (c__law_dominates : PySem.W.codeIn K cd__law_dominates "_law_dominates" = true)
    (k__law_dominates : PySem.W.keepIn K (.ref f__law_dominates) = true)
    (a_short_life : PySem.W.nsIn K mainGlobals "short_life" = some (some (.ref f_short_life)))
    (l_short_life : K.lookup f_short_life = some ⟨oc_short_life, od_short_life, .func (PySem.W.fnOf "short_life" "short_life" (defArgs s_short_life) (defBody s_short_life) (defScope s_short_life) .none kV_short_life dc_short_life pm_short_life an_short_life cd_short_life ct_short_life), sl_short_life⟩)
    (c_short_life : PySem.W.codeIn K cd_short_life "short_life" = true)
    (k_short_life : PySem.W.keepIn K (.ref f_short_life) = true)
    (a_places_by_life : PySem.W.nsIn K mainGlobals "places_by_life" = some (some (.ref f_places_by_life)))
    (l_places_by_life : K.lookup f_places_by_life = some ⟨oc_places_by_life, od_places_by_life, .func (PySem.W.fnOf "places_by_life" "places_by_life" (defArgs s_places_by_life) (defBody s_places_by_life) (defScope s_places_by_life) .none kV_places_by_life dc_places_by_life pm_places_by_life an_places_by_life cd_places_by_life ct_places_by_life), sl_places_by_life⟩)
    (c_places_by_life : PySem.W.codeIn K cd_places_by_life "places_by_life" = true)
    (k_places_by_life : PySem.W.keepIn K (.ref f_places_by_life) = true)
    (a_matching : PySem.W.nsIn K mainGlobals "matching" = some (some (.ref f_matching)))
    (l_matching : K.lookup f_matching = some ⟨oc_matching, od_matching, .func (PySem.W.fnOf "matching" "matching" (defArgs s_matching) (defBody s_matching) (defScope s_matching) .none kV_matching dc_matching pm_matching an_matching cd_matching ct_matching), sl_matching⟩)
    (c_matching : PySem.W.codeIn K cd_matching "matching" = true)
    (k_matching : PySem.W.keepIn K (.ref f_matching) = true)
    (a_never_worse : PySem.W.nsIn K mainGlobals "never_worse" = some (some (.ref f_never_worse)))
    (l_never_worse : K.lookup f_never_worse = some ⟨oc_never_worse, od_never_worse, .func (PySem.W.fnOf "never_worse" "never_worse" (defArgs s_never_worse) (defBody s_never_worse) (defScope s_never_worse) .none kV_never_worse dc_never_worse pm_never_worse an_never_worse cd_never_worse ct_never_worse), sl_never_worse⟩)
    (c_never_worse : PySem.W.codeIn K cd_never_worse "never_worse" = true)
    (k_never_worse : PySem.W.keepIn K (.ref f_never_worse) = true)
    (a__law_is_number : PySem.W.nsIn K mainGlobals "_law_is_number" = some (some (.ref f__law_is_number)))
    (l__law_is_number : K.lookup f__law_is_number = some ⟨oc__law_is_number, od__law_is_number, .func (PySem.W.fnOf "_law_is_number" "_law_is_number" (defArgs s__law_is_number) (defBody s__law_is_number) (defScope s__law_is_number) .none kV__law_is_number dc__law_is_number pm__law_is_number an__law_is_number cd__law_is_number ct__law_is_number), sl__law_is_number⟩)
    (c__law_is_number : PySem.W.codeIn K cd__law_is_number "_law_is_number" = true)
    (k__law_is_number : PySem.W.keepIn K (.ref f__law_is_number) = true)
    (a__law_right : PySem.W.nsIn K mainGlobals "_law_right" = some (some (.ref f__law_right)))
    (l__law_right : K.lookup f__law_right = some ⟨oc__law_right, od__law_right, .func (PySem.W.fnOf "_law_right" "_law_right" (defArgs s__law_right) (defBody s__law_right) (defScope s__law_right) .none kV__law_right dc__law_right pm__law_right an__law_right cd__law_right ct__law_right), sl__law_right⟩)
    (c__law_right : PySem.W.codeIn K cd__law_right "_law_right" = true)
    (k__law_right : PySem.W.keepIn K (.ref f__law_right) = true)
    (a_law : PySem.W.nsIn K mainGlobals "law" = some (some (.ref f_law)))
    (l_law : K.lookup f_law = some ⟨oc_law, od_law, .func (PySem.W.fnOf "law" "law" (defArgs s_law) (defBody s_law) (defScope s_law) .none kV_law dc_law pm_law an_law cd_law ct_law), sl_law⟩)
    (c_law : PySem.W.codeIn K cd_law "law" = true)
    (k_law : PySem.W.keepIn K (.ref f_law) = true)
    (aC_StoreError : PySem.W.nsIn K mainGlobals "StoreError" = some (some (.ref C_StoreError)))
    (xk_StoreError : PySem.W.keepIn K (.ref C_StoreError) = true)
    (xe_StoreError : PySem.W.subIn K (.ref C_StoreError) (.type "BaseException") = some true)
    (xy_StoreError : PySem.W.typeIn K (.ref C_StoreError) = some (.type "type"))
    (xs_StoreError : PySem.W.isClsIn K C_StoreError = true)
    (xq_StoreError : PySem.W.excIn K C_StoreError [.type "ValueError", .type "Exception", .type "BaseException", .type "object"] "ValueError.__new__" = true)
    (aC_Worse : PySem.W.nsIn K mainGlobals "Worse" = some (some (.ref C_Worse)))
    (xk_Worse : PySem.W.keepIn K (.ref C_Worse) = true)
    (xe_Worse : PySem.W.subIn K (.ref C_Worse) (.type "BaseException") = some true)
    (xy_Worse : PySem.W.typeIn K (.ref C_Worse) = some (.type "type"))
    (xs_Worse : PySem.W.isClsIn K C_Worse = true)
    (xL_Worse : K.lookup C_Worse = some (excClassObj xnm_Worse xqn_Worse C_Worse xN_Worse xbs_Worse [.ref C_StoreError, .type "ValueError", .type "Exception", .type "BaseException", .type "object"] true xsn_Worse xsub_Worse xab_Worse xcol_Worse xdd_Worse xm0_Worse xm1_Worse xm2_Worse xm3_Worse xm5_Worse "ValueError.__new__"))
    (xsa_Worse : PySem.W.findIn K (.ref C_Worse) "__setattr__" = some (some (.builtin "object.__setattr__")))
    (xga_Worse : PySem.W.findIn K (.ref C_Worse) "__getattribute__" = some (some (.builtin "BaseException.__getattribute__")))
    (xgg_Worse : PySem.W.findIn K (.ref C_Worse) "__getattr__" = some none)
    (xnb_Worse : PySem.W.findIn K (.ref C_Worse) "future" = some none)
    (xi_Worse : PySem.W.findIn K (.ref C_Worse) "__init__" = some (some (.ref fX_Worse)))
    (xt_Worse : PySem.W.typeIn K (.ref fX_Worse) = some (.type "function"))
    (xl_Worse : K.lookup fX_Worse = some ⟨xoc_Worse, xod_Worse, .func (PySem.W.fnOf "__init__" "Worse.__init__" (PySem.LowX_Worse.iA ⟨6, 17, 6, 21⟩ ⟨6, 23, 6, 29⟩) (PySem.LowX_Worse.iB ⟨7, 8, 7, 12⟩ ⟨7, 8, 7, 19⟩ ⟨7, 22, 7, 28⟩ ⟨7, 8, 7, 28⟩) PySem.LowX_Worse.iS .none .none xdc_Worse xpm_Worse xan_Worse xcd_Worse xct_Worse), xsl_Worse⟩)
    (xc_Worse : PySem.W.codeIn K xcd_Worse "Worse.__init__" = true)
    (xh_Worse : PySem.W.hasDictIn K C_Worse = true)
    (xp_StoreError_StoreError : PySem.W.subIn K (.ref C_StoreError) (.ref C_StoreError) = some true)
    (xp_StoreError_Worse : PySem.W.subIn K (.ref C_StoreError) (.ref C_Worse) = some false)
    (xp_Worse_StoreError : PySem.W.subIn K (.ref C_Worse) (.ref C_StoreError) = some true)
    (xp_Worse_Worse : PySem.W.subIn K (.ref C_Worse) (.ref C_Worse) = some true)
    (xca_Worse : PySem.W.findIn K (.ref C_Worse) "__class__" = some (some (.builtin "object.__class__")))
    (xcn_Worse : PySem.W.specialIn K (.builtin "object.__class__") "__get__" = some (some (.builtin "getset_descriptor.__get__")))
    (xcv_Worse : PySem.W.takesIn K (.builtin "object.__class__") = some true)
    (xcm_Worse : PySem.W.mroIn K C_Worse (.type "object") = some true)
    (kx_Worse_Worse : PySem.W.kitOne K (.ref C_Worse) (.ref C_Worse) = some true)
    (z_abs : PySem.W.nsIn K mainGlobals "abs" = some none)
    (z_bool : PySem.W.nsIn K mainGlobals "bool" = some none)
    (z_dict : PySem.W.nsIn K mainGlobals "dict" = some none)
    (z_enumerate : PySem.W.nsIn K mainGlobals "enumerate" = some none)
    (z_int : PySem.W.nsIn K mainGlobals "int" = some none)
    (z_isinstance : PySem.W.nsIn K mainGlobals "isinstance" = some none)
    (z_len : PySem.W.nsIn K mainGlobals "len" = some none)
    (z_list : PySem.W.nsIn K mainGlobals "list" = some none)
    (z_max : PySem.W.nsIn K mainGlobals "max" = some none)
    (z_min : PySem.W.nsIn K mainGlobals "min" = some none)
    (z_range : PySem.W.nsIn K mainGlobals "range" = some none)
    (z_repr : PySem.W.nsIn K mainGlobals "repr" = some none)
    (z_set : PySem.W.nsIn K mainGlobals "set" = some none)
    (z_sorted : PySem.W.nsIn K mainGlobals "sorted" = some none)
    (z_tuple : PySem.W.nsIn K mainGlobals "tuple" = some none)
    (z_zip : PySem.W.nsIn K mainGlobals "zip" = some none)
    : ∃ (fd : FuncData) (G : Gx), G.K = K ∧ (∀ (s : Shared) (u : Value), BindsTo s fd ⟨[u], []⟩ [("script", u)]) ∧ ∀ base : Heap, K.In base → base.Ns mainGlobals mg → FnG P w K mg base 4 fa fd ["script"] (spV G 1 [] den_law) := by
  have e := hfa.symm.trans (PySem.W.mg_of X Gn a_law)
  cases e
  have F__law_feed := fun_mk (st := s__law_feed) l__law_feed c__law_feed k__law_feed
  have F__law_served := fun_mk (st := s__law_served) l__law_served c__law_served k__law_served
  have F__law_never := fun_mk (st := s__law_never) l__law_never c__law_never k__law_never
  have F__law_take := fun_mk (st := s__law_take) l__law_take c__law_take k__law_take
  have F__law_dominates := fun_mk (st := s__law_dominates) l__law_dominates c__law_dominates k__law_dominates
  have F_short_life := fun_mk (st := s_short_life) l_short_life c_short_life k_short_life
  have F_places_by_life := fun_mk (st := s_places_by_life) l_places_by_life c_places_by_life k_places_by_life
  have F_matching := fun_mk (st := s_matching) l_matching c_matching k_matching
  have F_never_worse := fun_mk (st := s_never_worse) l_never_worse c_never_worse k_never_worse
  have F__law_is_number := fun_mk (st := s__law_is_number) l__law_is_number c__law_is_number k__law_is_number
  have F__law_right := fun_mk (st := s__law_right) l__law_right c__law_right k__law_right
  have F_law := fun_mk (st := s_law) l_law c_law k_law
  have T : Tx K mg C_StoreError C_Worse f__law_feed f__law_served f__law_never f__law_take f__law_dominates f_short_life f_places_by_life f_matching f_never_worse f__law_is_number f__law_right fa fX_Worse (PySem.W.fnOf "_law_feed" "_law_feed" (defArgs s__law_feed) (defBody s__law_feed) (defScope s__law_feed) .none kV__law_feed dc__law_feed pm__law_feed an__law_feed cd__law_feed ct__law_feed) (PySem.W.fnOf "_law_served" "_law_served" (defArgs s__law_served) (defBody s__law_served) (defScope s__law_served) .none kV__law_served dc__law_served pm__law_served an__law_served cd__law_served ct__law_served) (PySem.W.fnOf "_law_never" "_law_never" (defArgs s__law_never) (defBody s__law_never) (defScope s__law_never) .none kV__law_never dc__law_never pm__law_never an__law_never cd__law_never ct__law_never) (PySem.W.fnOf "_law_take" "_law_take" (defArgs s__law_take) (defBody s__law_take) (defScope s__law_take) .none kV__law_take dc__law_take pm__law_take an__law_take cd__law_take ct__law_take) (PySem.W.fnOf "_law_dominates" "_law_dominates" (defArgs s__law_dominates) (defBody s__law_dominates) (defScope s__law_dominates) .none kV__law_dominates dc__law_dominates pm__law_dominates an__law_dominates cd__law_dominates ct__law_dominates) (PySem.W.fnOf "short_life" "short_life" (defArgs s_short_life) (defBody s_short_life) (defScope s_short_life) .none kV_short_life dc_short_life pm_short_life an_short_life cd_short_life ct_short_life) (PySem.W.fnOf "places_by_life" "places_by_life" (defArgs s_places_by_life) (defBody s_places_by_life) (defScope s_places_by_life) .none kV_places_by_life dc_places_by_life pm_places_by_life an_places_by_life cd_places_by_life ct_places_by_life) (PySem.W.fnOf "matching" "matching" (defArgs s_matching) (defBody s_matching) (defScope s_matching) .none kV_matching dc_matching pm_matching an_matching cd_matching ct_matching) (PySem.W.fnOf "never_worse" "never_worse" (defArgs s_never_worse) (defBody s_never_worse) (defScope s_never_worse) .none kV_never_worse dc_never_worse pm_never_worse an_never_worse cd_never_worse ct_never_worse) (PySem.W.fnOf "_law_is_number" "_law_is_number" (defArgs s__law_is_number) (defBody s__law_is_number) (defScope s__law_is_number) .none kV__law_is_number dc__law_is_number pm__law_is_number an__law_is_number cd__law_is_number ct__law_is_number) (PySem.W.fnOf "_law_right" "_law_right" (defArgs s__law_right) (defBody s__law_right) (defScope s__law_right) .none kV__law_right dc__law_right pm__law_right an__law_right cd__law_right ct__law_right) (PySem.W.fnOf "law" "law" (defArgs s_law) (defBody s_law) (defScope s_law) .none kV_law dc_law pm_law an_law cd_law ct_law)   := {
    F__law_feed := .of F__law_feed
    m__law_feed := PySem.W.mg_of X Gn a__law_feed
    k__law_feed := k__law_feed
    b__law_feed := F__law_feed.binds (ps := ["script", "k"]) fun _ _ _ _ _ _ us hl => match us, hl with | [_, _], _ => rfl
    F__law_served := .of F__law_served
    m__law_served := PySem.W.mg_of X Gn a__law_served
    k__law_served := k__law_served
    b__law_served := F__law_served.binds (ps := ["stock", "future"]) fun _ _ _ _ _ _ us hl => match us, hl with | [_, _], _ => rfl
    F__law_never := .of F__law_never
    m__law_never := PySem.W.mg_of X Gn a__law_never
    k__law_never := k__law_never
    b__law_never := F__law_never.binds (ps := ["first", "second"]) fun _ _ _ _ _ _ us hl => match us, hl with | [_, _], _ => rfl
    F__law_take := .of F__law_take
    m__law_take := PySem.W.mg_of X Gn a__law_take
    k__law_take := k__law_take
    b__law_take := F__law_take.binds (ps := ["feed", "many"]) fun _ _ _ _ _ _ us hl => match us, hl with | [_, _], _ => rfl
    F__law_dominates := .of F__law_dominates
    m__law_dominates := PySem.W.mg_of X Gn a__law_dominates
    k__law_dominates := k__law_dominates
    b__law_dominates := F__law_dominates.binds (ps := ["first", "second"]) fun _ _ _ _ _ _ us hl => match us, hl with | [_, _], _ => rfl
    F_short_life := .of F_short_life
    m_short_life := PySem.W.mg_of X Gn a_short_life
    k_short_life := k_short_life
    b_short_life := F_short_life.binds (ps := ["first", "second"]) fun _ _ _ _ _ _ us hl => match us, hl with | [_, _], _ => rfl
    F_places_by_life := .of F_places_by_life
    m_places_by_life := PySem.W.mg_of X Gn a_places_by_life
    k_places_by_life := k_places_by_life
    b_places_by_life := F_places_by_life.binds (ps := ["stock"]) fun _ _ _ _ _ _ us hl => match us, hl with | [_], _ => rfl
    F_matching := .of F_matching
    m_matching := PySem.W.mg_of X Gn a_matching
    k_matching := k_matching
    b_matching := F_matching.binds (ps := ["first", "second"]) fun _ _ _ _ _ _ us hl => match us, hl with | [_, _], _ => rfl
    F_never_worse := .of F_never_worse
    m_never_worse := PySem.W.mg_of X Gn a_never_worse
    k_never_worse := k_never_worse
    b_never_worse := F_never_worse.binds (ps := ["first", "second"]) fun _ _ _ _ _ _ us hl => match us, hl with | [_, _], _ => rfl
    F__law_is_number := .of F__law_is_number
    m__law_is_number := PySem.W.mg_of X Gn a__law_is_number
    k__law_is_number := k__law_is_number
    b__law_is_number := F__law_is_number.binds (ps := ["thing"]) fun _ _ _ _ _ _ us hl => match us, hl with | [_], _ => rfl
    F__law_right := .of F__law_right
    m__law_right := PySem.W.mg_of X Gn a__law_right
    k__law_right := k__law_right
    b__law_right := F__law_right.binds (ps := ["first", "second", "due"]) fun _ _ _ _ _ _ us hl => match us, hl with | [_, _, _], _ => rfl
    F_law := .of F_law
    m_law := PySem.W.mg_of X Gn a_law
    k_law := k_law
    b_law := F_law.binds (ps := ["script"]) fun _ _ _ _ _ _ us hl => match us, hl with | [_], _ => rfl
    xq_StoreError := xq_StoreError
    xg_StoreError := PySem.W.mg_of X Gn aC_StoreError
    xk_StoreError := xk_StoreError
    xe_StoreError := xe_StoreError
    xy_StoreError := xy_StoreError
    xt_StoreError_StoreError := L2N.exm_of xe_StoreError xs_StoreError xy_StoreError xp_StoreError_StoreError
    xt_StoreError_Worse := L2N.exm_of xe_Worse xs_Worse xy_Worse xp_StoreError_Worse
    x_Worse := { gC := PySem.W.mg_of X Gn aC_Worse, cls := ⟨xnm_Worse, xqn_Worse, xN_Worse, xbs_Worse, _, xsn_Worse, xsub_Worse, xab_Worse, xcol_Worse, xdd_Worse, xm0_Worse, xm1_Worse, xm2_Worse, xm3_Worse, xm5_Worse, xL_Worse, (show PySem.HandSPX.refsVE [.type "ValueError", .type "Exception", .type "BaseException", .type "object"] = true from by decide +kernel)⟩, sa := xsa_Worse, ga := xga_Worse, gg := xgg_Worse, noN := xnb_Worse, iC := xi_Worse, tC := xt_Worse, kC := xk_Worse, exC := xe_Worse, tyC := xy_Worse, hdC := xh_Worse, te := L2N.exm_of xe_Worse xs_Worse xy_Worse xp_Worse_Worse, fn := ⟨_, _, _, _, _, _, _, _, _, _, _, _, _, _, xl_Worse, xc_Worse⟩ }
    xt_Worse_StoreError := L2N.exm_of xe_StoreError xs_StoreError xy_StoreError xp_Worse_StoreError
    xt_Worse_Worse := L2N.exm_of xe_Worse xs_Worse xy_Worse xp_Worse_Worse
    xc_Worse := ⟨xga_Worse, xgg_Worse, xe_Worse, xh_Worse, xca_Worse, xcn_Worse, xcv_Worse, xcm_Worse⟩
    kx_Worse_Worse := kx_Worse_Worse
    z_abs := PySem.W.mg_none_of X Gn z_abs
    z_bool := PySem.W.mg_none_of X Gn z_bool
    z_dict := PySem.W.mg_none_of X Gn z_dict
    z_enumerate := PySem.W.mg_none_of X Gn z_enumerate
    z_int := PySem.W.mg_none_of X Gn z_int
    z_isinstance := PySem.W.mg_none_of X Gn z_isinstance
    z_len := PySem.W.mg_none_of X Gn z_len
    z_list := PySem.W.mg_none_of X Gn z_list
    z_max := PySem.W.mg_none_of X Gn z_max
    z_min := PySem.W.mg_none_of X Gn z_min
    z_range := PySem.W.mg_none_of X Gn z_range
    z_repr := PySem.W.mg_none_of X Gn z_repr
    z_set := PySem.W.mg_none_of X Gn z_set
    z_sorted := PySem.W.mg_none_of X Gn z_sorted
    z_tuple := PySem.W.mg_none_of X Gn z_tuple
    z_zip := PySem.W.mg_none_of X Gn z_zip
  }
  exact ⟨_, gx K C_StoreError C_Worse w, rfl, fun s v => .of_eq rfl, fun base _ _ => ok_law T⟩
end
end LW

namespace LW
open PySem L2 PV
local macro_rules | `(tactic| walk_at "set") => `(tactic| (repeat (first | with_reducible exact set_z | with_reducible apply set_s | exact set_z | apply set_s)))
local macro_rules | `(tactic| walk_at "is") => `(tactic| (first | exact Is.v | exact Is.loc rfl))
local macro_rules | `(tactic| walk_at "lt") => `(tactic| first | exact ltL rfl | omega | (simp only [List.length_cons, List.length_nil]; omega))
local macro_rules | `(tactic| walk_at "sz") => `(tactic| first | omega | (simp only [sizeLine_eq, List.length_append, List.length_cons, List.length_nil, List.length_map, List.length_replicate, List.length_reverse] at *; omega))
local macro_rules | `(tactic| walk_at "w1") => `(tactic| ((with_reducible apply And.intro); (focus (first | walk_at "sz" | exact rfl))))
local macro_rules | `(tactic| walk_at "w1") => `(tactic| ((with_reducible apply and3); (focus (exact rfl)); (focus (walk_at "lt")); (focus (walk_at "set"))))
local macro_rules | `(tactic| walk_at "w1") => `(tactic| (with_reducible refine FzD.O ?_))
local macro_rules | `(tactic| walk_at "w1") => `(tactic| (with_reducible refine FzD.F ?_))
local macro_rules | `(tactic| walk_at "w1") => `(tactic| (with_reducible refine NotW.b ?_))
local macro_rules | `(tactic| walk_at "w1") => `(tactic| (with_reducible refine NotW.d ?_))
local macro_rules | `(tactic| walk_at "w1") => `(tactic| (with_reducible refine BoW.ff ?_))
local macro_rules | `(tactic| walk_at "w1") => `(tactic| (with_reducible refine BoW.tt ?_))
local macro_rules | `(tactic| walk_at "w1") => `(tactic| (with_reducible refine TW.tp ?_))
local macro_rules | `(tactic| walk_at "w1") => `(tactic| ((with_reducible apply par1); (focus (repeat (first | with_reducible exact st0 | (apply st1; (focus (exact rfl)); (focus (walk_at "lt")); (focus (walk_at "set"))))))))
local macro_rules | `(tactic| walk_at "w1") => `(tactic| (with_reducible refine TW.tup2F ?_))
local macro_rules | `(tactic| walk_at "w1") => `(tactic| (with_reducible refine TW.tup2B ?_))
local macro_rules | `(tactic| walk_at "w1") => `(tactic| (with_reducible refine TsW.cons ?_))
local macro_rules | `(tactic| walk_at "w1") => `(tactic| (with_reducible refine TsW.nil ?_))
local macro_rules | `(tactic| walk_at "w1") => `(tactic| ((with_reducible apply TW.n); (focus (exact rfl)); (focus (walk_at "lt")); (focus (walk_at "set"))))
local macro_rules | `(tactic| walk_at "w1") => `(tactic| ((with_reducible refine R1W.go ?_ ?_); (focus omega)))
local macro_rules | `(tactic| walk_at "w1") => `(tactic| (with_reducible refine ItsW.tupB ?_))
local macro_rules | `(tactic| walk_at "w1") => `(tactic| (with_reducible refine ItsW.lstO ?_))
local macro_rules | `(tactic| walk_at "w1") => `(tactic| (with_reducible refine ItsW.lstB ?_))
local macro_rules | `(tactic| walk_at "w1") => `(tactic| (with_reducible refine ItsW.lstF ?_))
local macro_rules | `(tactic| walk_at "w1") => `(tactic| (with_reducible refine IW.r1 ?_))
local macro_rules | `(tactic| walk_at "w1") => `(tactic| (with_reducible refine IW.seq ?_))
local macro_rules | `(tactic| walk_at "w1") => `(tactic| ((with_reducible apply PtW.io); (focus (walk_at "lt")); (focus (walk_at "set"))))
local macro_rules | `(tactic| walk_at "w1") => `(tactic| (with_reducible refine PtW.f ?_))
local macro_rules | `(tactic| walk_at "w1") => `(tactic| (with_reducible refine PtW.b ?_))
local macro_rules | `(tactic| walk_at "w1") => `(tactic| (with_reducible refine PtW.nil ?_))
local macro_rules | `(tactic| walk_at "w1") => `(tactic| (with_reducible refine PaW.fF ?_))
local macro_rules | `(tactic| walk_at "w1") => `(tactic| ((with_reducible apply PaW.bOb); (focus (exact rfl)); (focus (repeat (first | exact mapD_n | apply mapD_c)))))
local macro_rules | `(tactic| walk_at "w1") => `(tactic| ((with_reducible apply PaW.b); (focus (walk_at "is"))))
local macro_rules | `(tactic| walk_at "w1") => `(tactic| (with_reducible refine PaW.io ?_))
local macro_rules | `(tactic| walk_at "w1") => `(tactic| (with_reducible refine PaW.nil ?_))
local macro_rules | `(tactic| walk_at "w1") => `(tactic| ((with_reducible apply PuW.io); (focus (exact rfl)); (focus (walk_at "set"))))
local macro_rules | `(tactic| walk_at "w1") => `(tactic| (with_reducible refine PuW.f ?_))
local macro_rules | `(tactic| walk_at "w1") => `(tactic| (with_reducible refine PuW.b ?_))
local macro_rules | `(tactic| walk_at "w1") => `(tactic| (with_reducible refine PuW.nil ?_))
local macro_rules | `(tactic| walk_at "w1") => `(tactic| (with_reducible refine CaW.go ?_))
local macro_rules | `(tactic| walk_at "w1") => `(tactic| (with_reducible refine UnW.xO ?_))
local macro_rules | `(tactic| walk_at "w1") => `(tactic| (with_reducible refine UnW.xF ?_))
local macro_rules | `(tactic| walk_at "w1") => `(tactic| ((with_reducible apply GiW.cons); (focus (exact rfl)); (focus (walk_at "set"))))
local macro_rules | `(tactic| walk_at "w1") => `(tactic| (with_reducible refine GiW.nil ?_))
local macro_rules | `(tactic| walk_at "w1") => `(tactic| (with_reducible refine EW.pow ?_))
local macro_rules | `(tactic| walk_at "w1") => `(tactic| (with_reducible refine EW.abs ?_))
local macro_rules | `(tactic| walk_at "w1") => `(tactic| ((with_reducible apply len_scr); (focus (walk_at "is"))))
local macro_rules | `(tactic| walk_at "w1") => `(tactic| ((with_reducible apply len_tup); (focus (walk_at "is"))))
local macro_rules | `(tactic| walk_at "w1") => `(tactic| ((with_reducible apply len_lst); (focus (walk_at "is"))))
local macro_rules | `(tactic| walk_at "w1") => `(tactic| ((with_reducible apply SW.aug); (focus (exact rfl))))
local macro_rules | `(tactic| walk_at "w1") => `(tactic| ((with_reducible apply SW.faug); (focus (exact rfl)); (focus (exact rfl))))
local macro_rules | `(tactic| walk_at "w1") => `(tactic| ((with_reducible apply fst4); (focus (exact rfl)); (focus (walk_at "lt")); (focus (repeat (first | exact setAt_z | exact setAt_n | apply setAt_s))); (focus (walk_at "set"))))
local macro_rules | `(tactic| walk_at "w1") => `(tactic| ((with_reducible apply lm5); (focus (exact rfl)); (focus (exact rfl)); (focus (walk_at "sz")); (focus (walk_at "set"))))
local macro_rules | `(tactic| walk_at "w1") => `(tactic| ((with_reducible apply EW.lm); (focus (exact rfl))))
local macro_rules | `(tactic| walk_at "w1") => `(tactic| ((with_reducible apply sub5); (focus (exact rfl)); (focus (first | exact ix0 rfl | exact ix1 rfl)); (focus (walk_at "set")); (focus (walk_at "set"))))
local macro_rules | `(tactic| walk_at "w1") => `(tactic| ((with_reducible apply I1W.go); (focus (walk_at "is"))))
local macro_rules | `(tactic| walk_at "w1") => `(tactic| ((with_reducible apply TW.sub); (focus (exact rfl))))
local macro_rules | `(tactic| walk_at "w1") => `(tactic| ((with_reducible apply IdxW.tF); (focus (walk_at "is")); (focus (walk_at "is")); (focus (exact rfl))))
local macro_rules | `(tactic| walk_at "w1") => `(tactic| ((with_reducible apply IdxW.tB); (focus (walk_at "is")); (focus (walk_at "is")); (focus (exact rfl))))
local macro_rules | `(tactic| walk_at "w1") => `(tactic| ((with_reducible apply IdxW.lO); (focus (walk_at "is")); (focus (walk_at "is")); (focus (exact rfl))))
local macro_rules | `(tactic| walk_at "w1") => `(tactic| ((with_reducible apply IdxW.lF); (focus (walk_at "is")); (focus (walk_at "is")); (focus (exact rfl))))
local macro_rules | `(tactic| walk_at "w1") => `(tactic| ((with_reducible apply IdxW.lB); (focus (walk_at "is")); (focus (walk_at "is")); (focus (exact rfl))))
local macro_rules | `(tactic| walk_at "w1") => `(tactic| ((with_reducible apply FldW.insF); (focus (exact rfl))))
local macro_rules | `(tactic| walk_at "w1") => `(tactic| ((with_reducible apply FldW.insB); (focus (exact rfl))))
local macro_rules | `(tactic| walk_at "w1") => `(tactic| ((with_reducible apply FldW.ob); (focus (exact rfl)); (focus (exact rfl))))
local macro_rules | `(tactic| walk_at "w1") => `(tactic| ((with_reducible apply MulW.ii); (focus (walk_at "is")); (focus (walk_at "is")); (focus omega)))
local macro_rules | `(tactic| walk_at "w1") => `(tactic| ((with_reducible apply AddW.ii); (focus (walk_at "is")); (focus (walk_at "is"))))
local macro_rules | `(tactic| walk_at "w1") => `(tactic| ((with_reducible apply IIW.go); (focus (walk_at "is")); (focus (walk_at "is"))))
local macro_rules | `(tactic| walk_at "w1") => `(tactic| (with_reducible refine FzsW.O ?_))
local macro_rules | `(tactic| walk_at "w1") => `(tactic| (with_reducible refine FzsW.F ?_))
local macro_rules | `(tactic| walk_at "w1") => `(tactic| (with_reducible refine FzsW.nil ?_))
local macro_rules | `(tactic| walk_at "w1") => `(tactic| (with_reducible refine AW.cons ?_))
local macro_rules | `(tactic| walk_at "w1") => `(tactic| (with_reducible refine AW.nil ?_))
local macro_rules | `(tactic| walk_at "w1") => `(tactic| ((with_reducible apply MvW.loc); (focus (exact rfl)); (focus (walk_at "set"))))
local macro_rules | `(tactic| walk_at "w1") => `(tactic| (with_reducible refine MvW.v ?_))
local macro_rules | `(tactic| walk_at "w1") => `(tactic| ((with_reducible apply FzW.loc); (focus (exact rfl)); (focus (walk_at "set"))))
local macro_rules | `(tactic| walk_at "w1") => `(tactic| ((with_reducible refine FzW.Bx ?_ ?_); (focus (exact flat_str))))
local macro_rules | `(tactic| walk_at "w1") => `(tactic| ((with_reducible refine FzW.Bx ?_ ?_); (focus (exact flat_int))))
local macro_rules | `(tactic| walk_at "w1") => `(tactic| (with_reducible refine FzW.ob ?_))
local macro_rules | `(tactic| walk_at "w1") => `(tactic| (with_reducible refine FzW.O ?_))
local macro_rules | `(tactic| walk_at "w1") => `(tactic| (with_reducible refine FzW.F ?_))
local macro_rules | `(tactic| walk_at "w1") => `(tactic| (with_reducible refine EW.fz ?_))
local macro_rules | `(tactic| walk_at "w1") => `(tactic| (with_reducible refine EW.mv ?_))
local macro_rules | `(tactic| walk_at "w1") => `(tactic| (with_reducible refine EW.rev ?_))
local macro_rules | `(tactic| walk_at "w1") => `(tactic| (with_reducible refine EW.tuple ?_))
local macro_rules | `(tactic| walk_at "w1") => `(tactic| (with_reducible refine EW.list ?_))
local macro_rules | `(tactic| walk_at "w1") => `(tactic| (with_reducible refine EW.sum ?_))
local macro_rules | `(tactic| walk_at "w1") => `(tactic| (with_reducible refine EW.ne ?_))
local macro_rules | `(tactic| walk_at "w1") => `(tactic| (with_reducible refine EW.eq ?_))
local macro_rules | `(tactic| walk_at "w1") => `(tactic| (with_reducible refine asI4 ?_))
local macro_rules | `(tactic| walk_at "w1") => `(tactic| (with_reducible refine OW.someI ?_))
local macro_rules | `(tactic| walk_at "w1") => `(tactic| (with_reducible refine OW.none ?_))
local macro_rules | `(tactic| walk_at "w1") => `(tactic| (with_reducible refine EW.sl ?_))
local macro_rules | `(tactic| walk_at "w1") => `(tactic| ((with_reducible apply ExtW.F); (focus (exact rfl)); (focus (walk_at "sz")); (focus (walk_at "set"))))
local macro_rules | `(tactic| walk_at "w1") => `(tactic| (with_reducible refine IW.zip ?_))
local macro_rules | `(tactic| walk_at "w1") => `(tactic| ((with_reducible apply SW.augSub); (focus (exact rfl))))
local macro_rules | `(tactic| walk_at "w1") => `(tactic| ((with_reducible apply SW.ext); (focus (exact rfl))))
local macro_rules | `(tactic| walk_at "w1") => `(tactic| (with_reducible refine EW.neg ?_))
local macro_rules | `(tactic| walk_at "w1") => `(tactic| (with_reducible refine EW.min1 ?_))
local macro_rules | `(tactic| walk_at "w1") => `(tactic| (with_reducible refine EW.isN ?_))
local macro_rules | `(tactic| walk_at "w1") => `(tactic| (with_reducible refine EW.comp1 ?_))
local macro_rules | `(tactic| walk_at "w1") => `(tactic| (with_reducible refine EW.lst ?_))
local macro_rules | `(tactic| walk_at "w1") => `(tactic| (with_reducible refine EW.tup ?_))
local macro_rules | `(tactic| walk_at "w1") => `(tactic| (with_reducible refine EW.not ?_))
local macro_rules | `(tactic| walk_at "w1") => `(tactic| (with_reducible refine EW.or ?_))
local macro_rules | `(tactic| walk_at "w1") => `(tactic| (with_reducible refine EW.and ?_))
local macro_rules | `(tactic| walk_at "w1") => `(tactic| (with_reducible refine EW.ifx ?_))
local macro_rules | `(tactic| walk_at "w1") => `(tactic| (with_reducible refine EW.call ?_))
local macro_rules | `(tactic| walk_at "w1") => `(tactic| (with_reducible refine EW.len ?_))
local macro_rules | `(tactic| walk_at "w1") => `(tactic| (with_reducible refine EW.min2 ?_))
local macro_rules | `(tactic| walk_at "w1") => `(tactic| (with_reducible refine EW.max2 ?_))
local macro_rules | `(tactic| walk_at "w1") => `(tactic| (with_reducible refine EW.idx ?_))
local macro_rules | `(tactic| walk_at "w1") => `(tactic| (with_reducible refine EW.mul ?_))
local macro_rules | `(tactic| walk_at "w1") => `(tactic| (with_reducible refine EW.add ?_))
local macro_rules | `(tactic| walk_at "w1") => `(tactic| (with_reducible refine EW.sub ?_))
local macro_rules | `(tactic| walk_at "w1") => `(tactic| (with_reducible refine EW.div ?_))
local macro_rules | `(tactic| walk_at "w1") => `(tactic| (with_reducible refine EW.mod ?_))
local macro_rules | `(tactic| walk_at "w1") => `(tactic| (with_reducible refine EW.ge ?_))
local macro_rules | `(tactic| walk_at "w1") => `(tactic| (with_reducible refine EW.lt ?_))
local macro_rules | `(tactic| walk_at "w1") => `(tactic| (with_reducible refine EW.gt ?_))
local macro_rules | `(tactic| walk_at "w1") => `(tactic| (with_reducible refine EW.join ?_))
local macro_rules | `(tactic| walk_at "w1") => `(tactic| (with_reducible refine EW.sort2 ?_))
local macro_rules | `(tactic| walk_at "w1") => `(tactic| (with_reducible refine EW.all ?_))
local macro_rules | `(tactic| walk_at "w1") => `(tactic| (with_reducible refine EW.isi ?_))
local macro_rules | `(tactic| walk_at "w1") => `(tactic| (with_reducible refine EW.notN ?_))
local macro_rules | `(tactic| walk_at "w1") => `(tactic| (with_reducible refine EW.nm ?_))
local macro_rules | `(tactic| walk_at "w1") => `(tactic| (with_reducible refine EW.isB ?_))
local macro_rules | `(tactic| walk_at "w1") => `(tactic| (with_reducible refine EW.repr2 ?_))
local macro_rules | `(tactic| walk_at "w1") => `(tactic| ((with_reducible apply TW.subK); (focus (exact rfl))))
local macro_rules | `(tactic| walk_at "w1") => `(tactic| (with_reducible refine EW.sortSet3 ?_))
local macro_rules | `(tactic| walk_at "w1") => `(tactic| (with_reducible refine IW.enA ?_))
local macro_rules | `(tactic| walk_at "w1") => `(tactic| ((with_reducible apply TW.subX); (focus (exact rfl))))
local macro_rules | `(tactic| walk_at "w1") => `(tactic| (with_reducible refine SW.par ?_))
local macro_rules | `(tactic| walk_at "w1") => `(tactic| (with_reducible refine SW.for ?_))
local macro_rules | `(tactic| walk_at "w1") => `(tactic| (with_reducible refine SW.expr ?_))
local macro_rules | `(tactic| walk_at "w1") => `(tactic| (with_reducible refine SW.nil ?_))
local macro_rules | `(tactic| walk_at "w1") => `(tactic| (with_reducible refine SW.asg ?_))
local macro_rules | `(tactic| walk_at "w1") => `(tactic| (with_reducible refine SW.ret ?_))
local macro_rules | `(tactic| walk_at "w1") => `(tactic| (with_reducible refine SW.ite ?_))
local macro_rules | `(tactic| walk_at "w1") => `(tactic| ((with_reducible refine SW.set ?_)))
local macro_rules | `(tactic| walk_at "w1") => `(tactic| (with_reducible refine SW.seq ?_))
local macro_rules | `(tactic| walk_at "w1") => `(tactic| (with_reducible refine VarW.xO ?_))
local macro_rules | `(tactic| walk_at "w1") => `(tactic| (with_reducible refine VarW.xB ?_))
local macro_rules | `(tactic| walk_at "w1") => `(tactic| (with_reducible refine VarW.xF ?_))
local macro_rules | `(tactic| walk_at "w1") => `(tactic| ((with_reducible apply EW.var); (focus (exact rfl))))
local macro_rules | `(tactic| walk_at "w1") => `(tactic| (with_reducible refine EW.tr ?_))
local macro_rules | `(tactic| walk_at "w1") => `(tactic| (with_reducible refine EW.n ?_))
local macro_rules | `(tactic| walk_at "w1") => `(tactic| (with_reducible refine EW.c ?_))
local macro_rules | `(tactic| walk_at "wp") => `(tactic| repeat (walk_at "w1"))
local macro_rules | `(tactic| walk_at "cp") => `(tactic| (refine ⟨_, (by walk_at "set"), ?_⟩; walk_at "wp"; all_goals (first | exact ⟨rfl, rfl⟩ | exact rfl)))

/-! k75: stocks, how many live so long, what is served -/
def fall (xs : List Int) : List Int := (isort xs).reverse
theorem fall_perm (xs : List Int) : (fall xs).Perm xs := (List.reverse_perm _).trans (isort_perm xs)
theorem fall_down (xs : List Int) : (fall xs).Pairwise (· ≥ ·) := List.pairwise_reverse.mpr (isort_up xs)
def ge (l : Int) (xs : List Int) : Nat := xs.countP fun x => decide (l ≤ x)
theorem ge_nil {l : Int} : ge l [] = 0 := rfl
theorem ge_cons {l x : Int} {xs : List Int} : ge l (x :: xs) = ge l xs + (if l ≤ x then 1 else 0) := by
  unfold ge
  rw [List.countP_cons]
  by_cases h : l ≤ x <;> simp [h]
theorem ge_perm {l : Int} {xs ys : List Int} (p : xs.Perm ys) : ge l xs = ge l ys := p.countP_eq _
theorem ge_len {l : Int} (xs : List Int) : ge l xs ≤ xs.length := List.countP_le_length
theorem ge_fil {l : Int} (xs : List Int) : (xs.filter fun x => decide (x ≥ l)).length = ge l xs := by
  unfold ge
  rw [List.countP_eq_length_filter]
theorem ge_all {l : Int} : ∀ {xs : List Int}, (∀ x ∈ xs, l ≤ x) → ge l xs = xs.length
  | [], _ => rfl
  | x :: xs, h => by
    rw [ge_cons, ge_all fun y hy => h y (List.mem_cons_of_mem _ hy), if_pos (h x List.mem_cons_self)]
    rfl
theorem ge_none {l : Int} : ∀ {xs : List Int}, (∀ x ∈ xs, ¬ l ≤ x) → ge l xs = 0
  | [], _ => rfl
  | x :: xs, h => by rw [ge_cons, ge_none fun y hy => h y (List.mem_cons_of_mem _ hy), if_neg (h x List.mem_cons_self)]
theorem ge_anti {l m : Int} (h : l ≤ m) : ∀ xs : List Int, ge m xs ≤ ge l xs
  | [] => Nat.le_refl _
  | x :: xs => by
    have := ge_anti h xs
    rw [ge_cons, ge_cons]
    split <;> split <;> omega
def Dom (a b : List Int) : Prop := ∀ l : Int, 1 ≤ l → ge l b ≤ ge l a
/-- the falling list says how many live so long -/
theorem down_ge {l : Int} : ∀ {f : List Int} {i : Nat}, f.Pairwise (· ≥ ·) → (i < ge l f ↔ ∃ x, f[i]? = some x ∧ l ≤ x)
  | [], i, _ => by simp [ge_nil]
  | y :: f, i, h => by
    obtain ⟨h1, h2⟩ := List.pairwise_cons.mp h
    rw [ge_cons]
    by_cases hy : l ≤ y
    · rw [if_pos hy]
      cases i with
      | zero => simp [hy]
      | succ i => rw [List.getElem?_cons_succ, ← down_ge h2]; omega
    · rw [if_neg hy, ge_none (xs := f) fun z hz => by have := h1 z hz; omega]
      constructor
      · intro h; omega
      · rintro ⟨x, hx, hl⟩
        cases i with
        | zero => simp at hx; omega
        | succ i =>
          rw [List.getElem?_cons_succ] at hx
          have := h1 x (List.mem_of_getElem? hx)
          omega
def at0 (xs : List Int) (k : Nat) : Int := xs.getD k 0
theorem at0_get {xs : List Int} {k : Nat} (h : k < xs.length) : xs[k]? = some (at0 xs k) := by
  unfold at0
  rw [List.getElem?_eq_getElem h, List.getD_eq_getElem?_getD, List.getElem?_eq_getElem h]
  rfl
theorem dom_iff {a b : List Int} (hb : ∀ x ∈ b, 1 ≤ x) : Dom a b ↔ (b.length ≤ a.length ∧ ∀ i, i < b.length → at0 (fall b) i ≤ at0 (fall a) i) := by
  have lA : (fall a).length = a.length := (fall_perm a).length_eq
  have lB : (fall b).length = b.length := (fall_perm b).length_eq
  constructor
  · intro h
    have key : ∀ i, i < b.length → ∃ x, (fall a)[i]? = some x ∧ at0 (fall b) i ≤ x := by
      intro i hi
      have hg := at0_get (xs := fall b) (k := i) (by omega)
      have h1 : 1 ≤ at0 (fall b) i := hb _ ((fall_perm b).mem_iff.mp (List.mem_of_getElem? hg))
      have h2 := (down_ge (l := at0 (fall b) i) (i := i) (fall_down b)).mpr ⟨_, hg, Int.le_refl _⟩
      have h3 := h _ h1
      rw [ge_perm (fall_perm b)] at h2
      exact (down_ge (fall_down a)).mp (by rw [ge_perm (fall_perm a)]; omega)
    refine ⟨?_, fun i hi => ?_⟩
    · cases hn : b.length with
      | zero => omega
      | succ n =>
        obtain ⟨x, hx, _⟩ := key n (by omega)
        have := (List.getElem?_eq_some_iff.mp hx).1
        omega
    · obtain ⟨x, hx, hl⟩ := key i hi
      have : at0 (fall a) i = x := by
        unfold at0
        rw [List.getD_eq_getElem?_getD, hx]; rfl
      omega
  · rintro ⟨h1, h2⟩ l hl
    cases hn : ge l b with
    | zero => omega
    | succ n =>
      have hlt : n < ge l (fall b) := by rw [ge_perm (fall_perm b)]; omega
      obtain ⟨x, hx, hlx⟩ := (down_ge (fall_down b)).mp hlt
      have hnb : n < b.length := by have := (List.getElem?_eq_some_iff.mp hx).1; omega
      have e : at0 (fall b) n = x := by
        unfold at0
        rw [List.getD_eq_getElem?_getD, hx]; rfl
      have h3 := h2 n hnb
      have h4 := (down_ge (l := l) (i := n) (fall_down a)).mpr ⟨_, at0_get (by omega), by omega⟩
      rw [ge_perm (fall_perm a)] at h4
      omega
theorem dom_mem {a b : List Int} (h : ∀ l ∈ b, ge l b ≤ ge l a) : Dom a b := by
  have key : ∀ (c : List Int) (l : Int), (∀ x ∈ c, l ≤ x → x ∈ b) → (ge l c = 0 ∨ ∃ m ∈ b, l ≤ m ∧ ge m c = ge l c ∧ ∀ x ∈ c, l ≤ x → m ≤ x) := by
    intro c
    induction c with
    | nil => intro l _; exact .inl rfl
    | cons y c ih =>
      intro l hc
      by_cases hy : l ≤ y
      · rcases ih l (fun x hx => hc x (List.mem_cons_of_mem _ hx)) with h0 | ⟨m, hm, hlm, he, hmin⟩
        · refine .inr ⟨y, hc y List.mem_cons_self hy, hy, ?_, fun x hx hlx => ?_⟩
          · rw [ge_cons, ge_cons, if_pos hy, if_pos (Int.le_refl y)]
            have := ge_anti hy c
            omega
          · rcases List.mem_cons.mp hx with rfl | hx
            · exact Int.le_refl _
            · exfalso
              have : 0 < ge l c := List.countP_pos_iff.mpr ⟨x, hx, by simpa using hlx⟩
              omega
        · by_cases hym : m ≤ y
          · refine .inr ⟨m, hm, hlm, ?_, fun x hx hlx => ?_⟩
            · rw [ge_cons, ge_cons, if_pos hym, if_pos hy, he]
            · rcases List.mem_cons.mp hx with rfl | hx
              · exact hym
              · exact hmin x hx hlx
          · refine .inr ⟨y, hc y List.mem_cons_self hy, hy, ?_, fun x hx hlx => ?_⟩
            · rw [ge_cons, ge_cons, if_pos hy, if_pos (Int.le_refl y)]
              have h1 := ge_anti hy c
              have h2 := ge_anti (show y ≤ m by omega) c
              omega
            · rcases List.mem_cons.mp hx with rfl | hx
              · exact Int.le_refl _
              · have := hmin x hx hlx; omega
      · rcases ih l (fun x hx => hc x (List.mem_cons_of_mem _ hx)) with h0 | ⟨m, hm, hlm, he, hmin⟩
        · left; rw [ge_cons, if_neg hy, h0]
        · refine .inr ⟨m, hm, hlm, by rw [ge_cons, ge_cons, if_neg hy, if_neg (by omega), he], fun x hx hlx => ?_⟩
          rcases List.mem_cons.mp hx with rfl | hx
          · omega
          · exact hmin x hx hlx
  intro l _
  rcases key b l (fun x hx _ => hx) with h0 | ⟨m, hm, hlm, he, _⟩
  · omega
  · have h1 := h m hm
    have h2 := ge_anti hlm a
    omega
/-! what is served -/
def nxt (xs : List Int) (k : Nat) : List Int := ((xs.drop k).filter fun x => decide (x > 1)).map fun x => x - 1
def srv : List Int → List Nat → Int → List Int
  | _, [], _ => []
  | xs, d :: f, done => (done + (min d xs.length : Nat)) :: srv (nxt xs (min d xs.length)) f (done + (min d xs.length : Nat))
theorem srv_len : ∀ (f : List Nat) (xs : List Int) (done : Int), (srv xs f done).length = f.length
  | [], _, _ => rfl
  | d :: f, xs, done => by rw [srv, List.length_cons, srv_len f, List.length_cons]
theorem ge_drop {l : Int} : ∀ {xs : List Int} (k : Nat), xs.Pairwise (· ≤ ·) → ge l (xs.drop k) = min (ge l xs) (xs.length - k)
  | [], k, _ => by simp [ge_nil]
  | x :: xs, 0, _ => by
    rw [List.drop_zero]
    have := ge_len (l := l) (x :: xs)
    omega
  | x :: xs, k + 1, h => by
    obtain ⟨h1, h2⟩ := List.pairwise_cons.mp h
    rw [List.drop_succ_cons, ge_drop k h2, ge_cons, List.length_cons]
    by_cases hx : l ≤ x
    · rw [if_pos hx, ge_all (xs := xs) fun y hy => by have := h1 y hy; omega]; omega
    · rw [if_neg hx]; omega
theorem ge_nxt {l : Int} {xs : List Int} (k : Nat) (hl : 1 ≤ l) (h : xs.Pairwise (· ≤ ·)) : ge l (nxt xs k) = min (ge (l + 1) xs) (xs.length - k) := by
  rw [← ge_drop (l := l + 1) k h]
  unfold nxt
  generalize xs.drop k = ys
  induction ys with
  | nil => rfl
  | cons y ys ih =>
    rw [List.filter_cons, ge_cons]
    by_cases hy : y > 1
    · rw [if_pos (by simpa using hy), List.map_cons, ge_cons, ih]
      by_cases h2 : l + 1 ≤ y
      · rw [if_pos h2, if_pos (by omega)]
      · rw [if_neg h2, if_neg (by omega)]
    · rw [if_neg (by simpa using hy), ih, if_neg (by omega)]; rfl
theorem nxt_up {xs : List Int} (k : Nat) (h : xs.Pairwise (· ≤ ·)) : (nxt xs k).Pairwise (· ≤ ·) := by
  unfold nxt
  rw [List.pairwise_map]
  refine ((h.sublist (List.drop_sublist k xs)).filter _).imp fun h => by omega
theorem nxt_pos {xs : List Int} (k : Nat) : ∀ x ∈ nxt xs k, 1 ≤ x := by
  intro x hx
  unfold nxt at hx
  obtain ⟨y, hy, rfl⟩ := List.mem_map.mp hx
  have := (List.mem_filter.mp hy).2
  simp only [decide_eq_true_eq] at this
  omega
theorem dom_len {a b : List Int} (h : Dom a b) (ha : ∀ x ∈ a, 1 ≤ x) (hb : ∀ x ∈ b, 1 ≤ x) : b.length ≤ a.length := by
  have := h 1 (by omega)
  rw [ge_all ha, ge_all hb] at this
  exact this
/-- a stock that is never worse serves never less -/
theorem srv_dom : ∀ (f : List Nat) {a b : List Int} {da db : Int}, Dom a b → a.Pairwise (· ≤ ·) → b.Pairwise (· ≤ ·) → (∀ x ∈ a, 1 ≤ x) → (∀ x ∈ b, 1 ≤ x) → db ≤ da → ∀ i, i < f.length → at0 (srv b f db) i ≤ at0 (srv a f da) i
  | [], _, _, _, _, _, _, _, _, _, _, i, hi => by simp at hi
  | d :: f, a, b, da, db, hd, ua, ub, pa, pb, hs, i, hi => by
    have hl := dom_len hd pa pb
    have h1 : db + (min d b.length : Nat) ≤ da + (min d a.length : Nat) := by omega
    cases i with
    | zero => simp only [srv, at0, List.getD_cons_zero]; exact h1
    | succ i =>
      simp only [srv, at0, List.getD_cons_succ]
      refine srv_dom f (fun l hl1 => ?_) (nxt_up _ ua) (nxt_up _ ub) (nxt_pos _) (nxt_pos _) h1 i (by simpa using hi)
      rw [ge_nxt _ hl1 ua, ge_nxt _ hl1 ub]
      have h2 := hd (l + 1) (by omega)
      omega
/-- after days without a demand -/
theorem srv_end : ∀ (m : Nat) {xs : List Int} (n : Nat) (g : List Nat) (done : Int), xs.Pairwise (· ≤ ·) → (∀ x ∈ xs, 1 ≤ x) → at0 (srv xs (List.replicate m 0 ++ n :: g) done) m = done + (min n (ge ((m : Int) + 1) xs) : Nat)
  | 0, xs, n, g, done, hu, hp => by
    simp only [List.replicate_zero, List.nil_append, srv, at0, List.getD_cons_zero]
    rw [ge_all (l := ((0 : Nat) : Int) + 1) (xs := xs) fun x hx => by have := hp x hx; omega]
  | m + 1, xs, n, g, done, hu, hp => by
    rw [List.replicate_succ, List.cons_append, srv]
    have h0 : min 0 xs.length = 0 := by omega
    rw [h0]
    simp only [at0, List.getD_cons_succ]
    have ih := srv_end m (xs := nxt xs 0) n g (done + ((0 : Nat) : Int)) (nxt_up _ hu) (nxt_pos _)
    unfold at0 at ih
    rw [ih, ge_nxt _ (by omega) hu]
    have h1 := ge_len (l := ((m + 1 : Nat) : Int) + 1) xs
    have e : ((m : Int) + 1 + 1) = ((m + 1 : Nat) : Int) + 1 := by omega
    rw [e]
    have e2 : min (ge (((m + 1 : Nat) : Int) + 1) xs) (xs.length - 0) = ge (((m + 1 : Nat) : Int) + 1) xs := by omega
    rw [e2]
    omega
def Up (xs : List Int) : Prop := ∀ x ∈ xs, 1 ≤ x
theorem isort_pos {xs : List Int} (h : Up xs) : ∀ x ∈ isort xs, 1 ≤ x := fun x hx => h x ((isort_perm xs).mem_iff.mp hx)
def srvS (a : List Int) (f : List Nat) : List Int := srv (isort a) f 0
theorem dom_sort {a b : List Int} (h : Dom a b) : Dom (isort a) (isort b) := fun l hl => by rw [ge_perm (isort_perm a), ge_perm (isort_perm b)]; exact h l hl
theorem srvS_dom {a b : List Int} (h : Dom a b) (ha : Up a) (hb : Up b) (f : List Nat) (i : Nat) (hi : i < f.length) : at0 (srvS b f) i ≤ at0 (srvS a f) i :=
  srv_dom f (dom_sort h) (isort_up a) (isort_up b) (isort_pos ha) (isort_pos hb) (Int.le_refl _) i hi
theorem srvS_end {a : List Int} (ha : Up a) (m n : Nat) (g : List Nat) : at0 (srvS a (List.replicate m 0 ++ n :: g)) m = (min n (ge ((m : Int) + 1) a) : Nat) := by
  unfold srvS
  rw [srv_end m n g 0 (isort_up a) (isort_pos ha), ge_perm (isort_perm a), Int.zero_add]
/-- all futures of so many days with demands below n -/
def futs (n : Nat) : Nat → List (List Nat)
  | 0 => [[]]
  | k + 1 => (futs n k).flatMap fun f => (List.range n).map fun d => f ++ [d]
theorem futs_mem {n : Nat} : ∀ {k : Nat} {f : List Nat}, f ∈ futs n k ↔ (f.length = k ∧ ∀ d ∈ f, d < n)
  | 0, f => by
    simp only [futs, List.mem_singleton]
    constructor
    · rintro rfl; simp
    · intro h; exact List.length_eq_zero_iff.mp h.1
  | k + 1, f => by
    simp only [futs, List.mem_flatMap, List.mem_map, List.mem_range]
    constructor
    · rintro ⟨g, hg, d, hd, rfl⟩
      obtain ⟨h1, h2⟩ := futs_mem.mp hg
      refine ⟨by simp [h1], fun x hx => ?_⟩
      rcases List.mem_append.mp hx with hx | hx
      · exact h2 x hx
      · rw [List.mem_singleton.mp hx]; exact hd
    · rintro ⟨h1, h2⟩
      have hne : f ≠ [] := fun e => by rw [e] at h1; simp at h1
      refine ⟨f.dropLast, futs_mem.mpr ⟨by simp [h1], fun d hd => h2 d (List.dropLast_subset _ hd)⟩, f.getLast hne, h2 _ (List.getLast_mem hne), List.dropLast_concat_getLast hne⟩
theorem futs_len (n : Nat) : ∀ k, (futs n k).length = n ^ k
  | 0 => rfl
  | k + 1 => by
    have e : ∀ l : List (List Nat), (l.flatMap fun f => (List.range n).map fun d => f ++ [d]).length = l.length * n := by
      intro l
      induction l with
      | nil => simp
      | cons x l ih => simp only [List.flatMap_cons, List.length_append, List.length_map, List.length_range, ih, List.length_cons]; rw [Nat.succ_mul]; omega
    rw [futs, e, futs_len n k, Nat.pow_succ]
/-- not never worse: one of these futures shows it -/
theorem futs_show {a b : List Int} (ha : Up a) (hb : Up b) (h4 : ∀ x ∈ b, x ≤ 4) (h : ¬ Dom a b) : ∃ f ∈ futs (b.length + 1) 4, ∃ i, i < 4 ∧ at0 (srvS a f) i < at0 (srvS b f) i := by
  have : ∃ l ∈ b, ge l a < ge l b := by
    apply Classical.byContradiction
    intro hn
    exact h (dom_mem fun l hl => by
      apply Classical.byContradiction
      intro hh
      exact hn ⟨l, hl, by omega⟩)
  obtain ⟨l, hl, hlt⟩ := this
  have h1 := hb l hl
  have h2 := h4 l hl
  obtain ⟨m, rfl⟩ : ∃ m : Nat, l = (m : Int) + 1 := ⟨(l - 1).toNat, by omega⟩
  have hm : m < 4 := by omega
  refine ⟨List.replicate m 0 ++ b.length :: List.replicate (3 - m) 0, futs_mem.mpr ⟨by simp; omega, fun d hd => ?_⟩, m, hm, ?_⟩
  · rcases List.mem_append.mp hd with hd | hd
    · rw [List.eq_of_mem_replicate hd]; omega
    · rcases List.mem_cons.mp hd with rfl | hd
      · omega
      · rw [List.eq_of_mem_replicate hd]; omega
  · rw [srvS_end ha, srvS_end hb]
    have := ge_len (l := (m : Int) + 1) b
    omega
/-! k75: places by life, the matching -/
def prs (a : List Int) : List (Int × Int) := a.mapIdx fun i x => (-x, (i : Int))
def places (a : List Int) : List Int := (psort (prs a)).map (·.2)
theorem prs_len (a : List Int) : (prs a).length = a.length := by simp [prs]
theorem prs_mem {a : List Int} {p : Int × Int} (h : p ∈ prs a) : ∃ j, j < a.length ∧ p.2 = (j : Int) ∧ at0 a j = -p.1 := by
  unfold prs at h
  obtain ⟨i, hi, e⟩ := List.mem_iff_getElem.mp h
  rw [List.length_mapIdx] at hi
  rw [List.getElem_mapIdx] at e
  subst e
  refine ⟨i, hi, rfl, ?_⟩
  unfold at0
  rw [List.getD_eq_getElem?_getD, List.getElem?_eq_getElem hi]
  simp
theorem prs_snd : ∀ a : List Int, (prs a).map (·.2) = (List.range a.length).map fun n : Nat => (n : Int) := by
  intro a
  unfold prs
  apply List.ext_getElem?
  intro i
  simp only [List.getElem?_map, List.getElem?_mapIdx, List.getElem?_range']
  by_cases h : i < a.length
  · simp [h]
  · simp [h]
theorem prs_fst (a : List Int) : (prs a).map (fun p => -p.1) = a := by
  unfold prs
  apply List.ext_getElem?
  intro i
  simp only [List.getElem?_map, List.getElem?_mapIdx]
  cases a[i]? <;> simp
theorem places_perm (a : List Int) : (places a).Perm ((List.range a.length).map fun n : Nat => (n : Int)) := by
  unfold places
  rw [← prs_snd]
  exact (psort_perm _).map _
theorem places_len (a : List Int) : (places a).length = a.length := by rw [(places_perm a).length_eq, List.length_map, List.length_range]
theorem range_nd (n : Nat) : ((List.range n).map fun n : Nat => (n : Int)).Nodup := List.pairwise_map.mpr ((List.nodup_range (n := n)).imp fun h z => h (by omega))
theorem places_nd (a : List Int) : (places a).Nodup := (places_perm a).nodup_iff.mpr (range_nd _)
theorem places_mem {a : List Int} {x : Int} : x ∈ places a ↔ 0 ≤ x ∧ x < a.length := by
  rw [(places_perm a).mem_iff, List.mem_map]
  constructor
  · rintro ⟨n, hn, rfl⟩
    have := List.mem_range.mp hn
    omega
  · rintro ⟨h1, h2⟩
    exact ⟨x.toNat, List.mem_range.mpr (by omega), by omega⟩
theorem places_fall (a : List Int) : (psort (prs a)).map (fun p => -p.1) = fall a := by
  have h : ((psort (prs a)).map (fun p => -p.1)).reverse = isort a := by
    refine isort_of ?_ ?_
    · refine (List.reverse_perm _).trans ?_
      have := (psort_perm (prs a)).map (fun p => -p.1)
      rwa [prs_fst] at this
    · rw [List.pairwise_reverse, List.pairwise_map]
      refine (psort_up (prs a)).imp fun {x y} h => ?_
      unfold leP at h
      simp only [Bool.or_eq_true, Bool.and_eq_true, decide_eq_true_eq] at h
      omega
  unfold fall
  rw [← h, List.reverse_reverse]
theorem places_at {a : List Int} {i : Nat} (hi : i < a.length) : at0 (fall a) i = at0 a (at0 (places a) i).toNat := by
  have hl : i < (psort (prs a)).length := by rw [(psort_perm _).length_eq, prs_len]; exact hi
  obtain ⟨j, hj, e1, e2⟩ := prs_mem ((psort_perm (prs a)).mem_iff.mp (List.getElem_mem hl))
  have h1 : at0 (places a) i = (j : Int) := by
    unfold at0 places
    rw [List.getD_eq_getElem?_getD, List.getElem?_map, List.getElem?_eq_getElem hl]
    simpa using e1
  have h2 : at0 (fall a) i = -((psort (prs a))[i]).1 := by
    rw [← places_fall]
    unfold at0
    rw [List.getD_eq_getElem?_getD, List.getElem?_map, List.getElem?_eq_getElem hl]
    rfl
  rw [h1, h2, Int.toNat_natCast, e2]
theorem idx_of {xs : List Int} {x : Int} (h : x ∈ xs) : xs.idxOf x < xs.length ∧ at0 xs (xs.idxOf x) = x := by
  have hl := List.idxOf_lt_length_iff.mpr h
  refine ⟨hl, ?_⟩
  unfold at0
  rw [List.getD_eq_getElem?_getD, List.getElem?_eq_getElem hl]
  simp
theorem look_at : ∀ {ks xs : List Int} {x : Int}, x ∈ ks → ks.length ≤ xs.length → lookD (ks.map Sum.inl) (xs.map D.int) (Sum.inl x) = some (.int (at0 xs (ks.idxOf x)))
  | [], _, _, h, _ => by cases h
  | k :: ks, [], _, _, h => by simp at h
  | k :: ks, y :: xs, x, h, hl => by
    simp only [List.map_cons, lookD]
    by_cases e : k = x
    · subst e
      rw [if_pos rfl, List.idxOf_cons_self]
      rfl
    · have hx : x ∈ ks := by rcases List.mem_cons.mp h with z | z; exact absurd z.symm e; exact z
      have hne : (k == x) = false := by simpa using e
      rw [if_neg (by simpa using e), look_at hx (by simpa using hl), List.idxOf_cons, hne]
      rfl
/-- the place of the first stock for each unit of the second one -/
def mat (a b : List Int) : List Int := (List.range b.length).map fun j : Nat => at0 ((places a).take b.length) ((places b).idxOf (j : Int))
theorem mat_len (a b : List Int) : (mat a b).length = b.length := by simp [mat]
theorem at0_take {xs : List Int} {n i : Nat} (h : i < n) : at0 (xs.take n) i = at0 xs i := by
  unfold at0
  rw [List.getD_eq_getElem?_getD, List.getD_eq_getElem?_getD, List.getElem?_take_of_lt h]
theorem at0_inj {xs : List Int} (nd : xs.Nodup) {i j : Nat} (hi : i < xs.length) (hj : j < xs.length) (e : at0 xs i = at0 xs j) : i = j := by
  have h1 := at0_get hi
  have h2 := at0_get hj
  rw [e] at h1
  rw [List.getElem?_eq_getElem hi] at h1
  rw [List.getElem?_eq_getElem hj] at h2
  exact (List.getElem_inj nd).mp (Option.some.inj (h1.trans h2.symm))
theorem at0_mem {xs : List Int} {i : Nat} (h : i < xs.length) : at0 xs i ∈ xs := List.mem_of_getElem? (at0_get h)
theorem mat_idx {a b : List Int} {j : Nat} (hj : j < b.length) (hl : b.length ≤ a.length) : ∃ i, i < b.length ∧ i < a.length ∧ (places b).idxOf (j : Int) = i ∧ at0 (places b) i = (j : Int) ∧ at0 ((places a).take b.length) i = at0 (places a) i := by
  obtain ⟨h1, h2⟩ := idx_of (places_mem.mpr ⟨(show 0 ≤ (j : Int) by omega), (show (j : Int) < b.length by omega)⟩)
  rw [places_len] at h1
  exact ⟨_, h1, by omega, rfl, h2, at0_take h1⟩
theorem mat_nd {a b : List Int} (hl : b.length ≤ a.length) : (mat a b).Nodup := by
  unfold mat
  refine List.pairwise_map.mpr ((List.nodup_range (n := b.length)).imp_of_mem fun {x y} hx hy hne e => hne ?_)
  obtain ⟨i, h1, h2, h3, h4, h5⟩ := mat_idx (List.mem_range.mp hx) hl
  obtain ⟨k, k1, k2, k3, k4, k5⟩ := mat_idx (List.mem_range.mp hy) hl
  rw [h3, k3, h5, k5] at e
  have := at0_inj (places_nd a) (by rw [places_len]; exact h2) (by rw [places_len]; exact k2) e
  subst this
  omega
theorem mat_mem {a b : List Int} (hl : b.length ≤ a.length) : ∀ x ∈ mat a b, 0 ≤ x ∧ x < a.length := by
  intro x hx
  obtain ⟨j, hj, rfl⟩ := List.mem_map.mp hx
  obtain ⟨i, h1, h2, h3, h4, h5⟩ := mat_idx (List.mem_range.mp hj) hl
  rw [h3, h5]
  exact places_mem.mp (at0_mem (by rw [places_len]; exact h2))
theorem mat_le {a b : List Int} (hb : Up b) (h : Dom a b) {j : Nat} (hj : j < b.length) : at0 b j ≤ at0 a (at0 (mat a b) j).toNat := by
  obtain ⟨hl, hf⟩ := (dom_iff hb).mp h
  obtain ⟨i, h1, h2, h3, h4, h5⟩ := mat_idx hj hl
  have e : at0 (mat a b) j = at0 (places a) i := by
    unfold mat
    rw [show at0 ((List.range b.length).map fun j : Nat => at0 ((places a).take b.length) ((places b).idxOf (j : Int))) j = at0 ((places a).take b.length) ((places b).idxOf (j : Int)) from by
      unfold at0
      rw [List.getD_eq_getElem?_getD, List.getElem?_map, List.getElem?_range hj]
      rfl, h3, h5]
  rw [e]
  have h6 := hf i h1
  rw [places_at h1, places_at h2, h4, Int.toNat_natCast] at h6
  exact h6
end LW
namespace LW
open PySem L2 PV
local macro_rules | `(tactic| walk_at "set") => `(tactic| (repeat (first | with_reducible exact set_z | with_reducible apply set_s | exact set_z | apply set_s)))
local macro_rules | `(tactic| walk_at "is") => `(tactic| (first | exact Is.v | exact Is.loc rfl))
local macro_rules | `(tactic| walk_at "lt") => `(tactic| first | exact ltL rfl | omega | (simp only [List.length_cons, List.length_nil]; omega))
local macro_rules | `(tactic| walk_at "sz") => `(tactic| first | omega | (simp only [sizeLine_eq, List.length_append, List.length_cons, List.length_nil, List.length_map, List.length_replicate, List.length_reverse] at *; omega))
local macro_rules | `(tactic| walk_at "w1") => `(tactic| ((with_reducible apply And.intro); (focus (first | walk_at "sz" | exact rfl))))
local macro_rules | `(tactic| walk_at "w1") => `(tactic| ((with_reducible apply and3); (focus (exact rfl)); (focus (walk_at "lt")); (focus (walk_at "set"))))
local macro_rules | `(tactic| walk_at "w1") => `(tactic| (with_reducible refine FzD.O ?_))
local macro_rules | `(tactic| walk_at "w1") => `(tactic| (with_reducible refine FzD.F ?_))
local macro_rules | `(tactic| walk_at "w1") => `(tactic| (with_reducible refine NotW.b ?_))
local macro_rules | `(tactic| walk_at "w1") => `(tactic| (with_reducible refine NotW.d ?_))
local macro_rules | `(tactic| walk_at "w1") => `(tactic| (with_reducible refine BoW.ff ?_))
local macro_rules | `(tactic| walk_at "w1") => `(tactic| (with_reducible refine BoW.tt ?_))
local macro_rules | `(tactic| walk_at "w1") => `(tactic| (with_reducible refine TW.tp ?_))
local macro_rules | `(tactic| walk_at "w1") => `(tactic| ((with_reducible apply par1); (focus (repeat (first | with_reducible exact st0 | (apply st1; (focus (exact rfl)); (focus (walk_at "lt")); (focus (walk_at "set"))))))))
local macro_rules | `(tactic| walk_at "w1") => `(tactic| (with_reducible refine TW.tup2F ?_))
local macro_rules | `(tactic| walk_at "w1") => `(tactic| (with_reducible refine TW.tup2B ?_))
local macro_rules | `(tactic| walk_at "w1") => `(tactic| (with_reducible refine TsW.cons ?_))
local macro_rules | `(tactic| walk_at "w1") => `(tactic| (with_reducible refine TsW.nil ?_))
local macro_rules | `(tactic| walk_at "w1") => `(tactic| ((with_reducible apply TW.n); (focus (exact rfl)); (focus (walk_at "lt")); (focus (walk_at "set"))))
local macro_rules | `(tactic| walk_at "w1") => `(tactic| ((with_reducible refine R1W.go ?_ ?_); (focus omega)))
local macro_rules | `(tactic| walk_at "w1") => `(tactic| (with_reducible refine ItsW.tupB ?_))
local macro_rules | `(tactic| walk_at "w1") => `(tactic| (with_reducible refine ItsW.lstO ?_))
local macro_rules | `(tactic| walk_at "w1") => `(tactic| (with_reducible refine ItsW.lstB ?_))
local macro_rules | `(tactic| walk_at "w1") => `(tactic| (with_reducible refine ItsW.lstF ?_))
local macro_rules | `(tactic| walk_at "w1") => `(tactic| (with_reducible refine IW.r1 ?_))
local macro_rules | `(tactic| walk_at "w1") => `(tactic| (with_reducible refine IW.seq ?_))
local macro_rules | `(tactic| walk_at "w1") => `(tactic| ((with_reducible apply PtW.io); (focus (walk_at "lt")); (focus (walk_at "set"))))
local macro_rules | `(tactic| walk_at "w1") => `(tactic| (with_reducible refine PtW.f ?_))
local macro_rules | `(tactic| walk_at "w1") => `(tactic| (with_reducible refine PtW.b ?_))
local macro_rules | `(tactic| walk_at "w1") => `(tactic| (with_reducible refine PtW.nil ?_))
local macro_rules | `(tactic| walk_at "w1") => `(tactic| (with_reducible refine PaW.fF ?_))
local macro_rules | `(tactic| walk_at "w1") => `(tactic| ((with_reducible apply PaW.bOb); (focus (exact rfl)); (focus (repeat (first | exact mapD_n | apply mapD_c)))))
local macro_rules | `(tactic| walk_at "w1") => `(tactic| ((with_reducible apply PaW.b); (focus (walk_at "is"))))
local macro_rules | `(tactic| walk_at "w1") => `(tactic| (with_reducible refine PaW.io ?_))
local macro_rules | `(tactic| walk_at "w1") => `(tactic| (with_reducible refine PaW.nil ?_))
local macro_rules | `(tactic| walk_at "w1") => `(tactic| ((with_reducible apply PuW.io); (focus (exact rfl)); (focus (walk_at "set"))))
local macro_rules | `(tactic| walk_at "w1") => `(tactic| (with_reducible refine PuW.f ?_))
local macro_rules | `(tactic| walk_at "w1") => `(tactic| (with_reducible refine PuW.b ?_))
local macro_rules | `(tactic| walk_at "w1") => `(tactic| (with_reducible refine PuW.nil ?_))
local macro_rules | `(tactic| walk_at "w1") => `(tactic| (with_reducible refine CaW.go ?_))
local macro_rules | `(tactic| walk_at "w1") => `(tactic| (with_reducible refine UnW.xO ?_))
local macro_rules | `(tactic| walk_at "w1") => `(tactic| (with_reducible refine UnW.xF ?_))
local macro_rules | `(tactic| walk_at "w1") => `(tactic| ((with_reducible apply GiW.cons); (focus (exact rfl)); (focus (walk_at "set"))))
local macro_rules | `(tactic| walk_at "w1") => `(tactic| (with_reducible refine GiW.nil ?_))
local macro_rules | `(tactic| walk_at "w1") => `(tactic| (with_reducible refine EW.pow ?_))
local macro_rules | `(tactic| walk_at "w1") => `(tactic| (with_reducible refine EW.abs ?_))
local macro_rules | `(tactic| walk_at "w1") => `(tactic| ((with_reducible apply len_scr); (focus (walk_at "is"))))
local macro_rules | `(tactic| walk_at "w1") => `(tactic| ((with_reducible apply len_tup); (focus (walk_at "is"))))
local macro_rules | `(tactic| walk_at "w1") => `(tactic| ((with_reducible apply len_lst); (focus (walk_at "is"))))
local macro_rules | `(tactic| walk_at "w1") => `(tactic| ((with_reducible apply SW.aug); (focus (exact rfl))))
local macro_rules | `(tactic| walk_at "w1") => `(tactic| ((with_reducible apply SW.faug); (focus (exact rfl)); (focus (exact rfl))))
local macro_rules | `(tactic| walk_at "w1") => `(tactic| ((with_reducible apply fst4); (focus (exact rfl)); (focus (walk_at "lt")); (focus (repeat (first | exact setAt_z | exact setAt_n | apply setAt_s))); (focus (walk_at "set"))))
local macro_rules | `(tactic| walk_at "w1") => `(tactic| ((with_reducible apply lm5); (focus (exact rfl)); (focus (exact rfl)); (focus (walk_at "sz")); (focus (walk_at "set"))))
local macro_rules | `(tactic| walk_at "w1") => `(tactic| ((with_reducible apply EW.lm); (focus (exact rfl))))
local macro_rules | `(tactic| walk_at "w1") => `(tactic| ((with_reducible apply sub5); (focus (exact rfl)); (focus (first | exact ix0 rfl | exact ix1 rfl)); (focus (walk_at "set")); (focus (walk_at "set"))))
local macro_rules | `(tactic| walk_at "w1") => `(tactic| ((with_reducible apply I1W.go); (focus (walk_at "is"))))
local macro_rules | `(tactic| walk_at "w1") => `(tactic| ((with_reducible apply TW.sub); (focus (exact rfl))))
local macro_rules | `(tactic| walk_at "w1") => `(tactic| ((with_reducible apply IdxW.tF); (focus (walk_at "is")); (focus (walk_at "is")); (focus (exact rfl))))
local macro_rules | `(tactic| walk_at "w1") => `(tactic| ((with_reducible apply IdxW.tB); (focus (walk_at "is")); (focus (walk_at "is")); (focus (exact rfl))))
local macro_rules | `(tactic| walk_at "w1") => `(tactic| ((with_reducible apply IdxW.lO); (focus (walk_at "is")); (focus (walk_at "is")); (focus (exact rfl))))
local macro_rules | `(tactic| walk_at "w1") => `(tactic| ((with_reducible apply IdxW.lF); (focus (walk_at "is")); (focus (walk_at "is")); (focus (exact rfl))))
local macro_rules | `(tactic| walk_at "w1") => `(tactic| ((with_reducible apply IdxW.lB); (focus (walk_at "is")); (focus (walk_at "is")); (focus (exact rfl))))
local macro_rules | `(tactic| walk_at "w1") => `(tactic| ((with_reducible apply FldW.insF); (focus (exact rfl))))
local macro_rules | `(tactic| walk_at "w1") => `(tactic| ((with_reducible apply FldW.insB); (focus (exact rfl))))
local macro_rules | `(tactic| walk_at "w1") => `(tactic| ((with_reducible apply FldW.ob); (focus (exact rfl)); (focus (exact rfl))))
local macro_rules | `(tactic| walk_at "w1") => `(tactic| ((with_reducible apply MulW.ii); (focus (walk_at "is")); (focus (walk_at "is")); (focus omega)))
local macro_rules | `(tactic| walk_at "w1") => `(tactic| ((with_reducible apply AddW.ii); (focus (walk_at "is")); (focus (walk_at "is"))))
local macro_rules | `(tactic| walk_at "w1") => `(tactic| ((with_reducible apply IIW.go); (focus (walk_at "is")); (focus (walk_at "is"))))
local macro_rules | `(tactic| walk_at "w1") => `(tactic| (with_reducible refine FzsW.O ?_))
local macro_rules | `(tactic| walk_at "w1") => `(tactic| (with_reducible refine FzsW.F ?_))
local macro_rules | `(tactic| walk_at "w1") => `(tactic| (with_reducible refine FzsW.nil ?_))
local macro_rules | `(tactic| walk_at "w1") => `(tactic| (with_reducible refine AW.cons ?_))
local macro_rules | `(tactic| walk_at "w1") => `(tactic| (with_reducible refine AW.nil ?_))
local macro_rules | `(tactic| walk_at "w1") => `(tactic| ((with_reducible apply MvW.loc); (focus (exact rfl)); (focus (walk_at "set"))))
local macro_rules | `(tactic| walk_at "w1") => `(tactic| (with_reducible refine MvW.v ?_))
local macro_rules | `(tactic| walk_at "w1") => `(tactic| ((with_reducible apply FzW.loc); (focus (exact rfl)); (focus (walk_at "set"))))
local macro_rules | `(tactic| walk_at "w1") => `(tactic| ((with_reducible refine FzW.Bx ?_ ?_); (focus (exact flat_str))))
local macro_rules | `(tactic| walk_at "w1") => `(tactic| ((with_reducible refine FzW.Bx ?_ ?_); (focus (exact flat_int))))
local macro_rules | `(tactic| walk_at "w1") => `(tactic| (with_reducible refine FzW.ob ?_))
local macro_rules | `(tactic| walk_at "w1") => `(tactic| (with_reducible refine FzW.O ?_))
local macro_rules | `(tactic| walk_at "w1") => `(tactic| (with_reducible refine FzW.F ?_))
local macro_rules | `(tactic| walk_at "w1") => `(tactic| (with_reducible refine EW.fz ?_))
local macro_rules | `(tactic| walk_at "w1") => `(tactic| (with_reducible refine EW.mv ?_))
local macro_rules | `(tactic| walk_at "w1") => `(tactic| (with_reducible refine EW.rev ?_))
local macro_rules | `(tactic| walk_at "w1") => `(tactic| (with_reducible refine EW.tuple ?_))
local macro_rules | `(tactic| walk_at "w1") => `(tactic| (with_reducible refine EW.list ?_))
local macro_rules | `(tactic| walk_at "w1") => `(tactic| (with_reducible refine EW.sum ?_))
local macro_rules | `(tactic| walk_at "w1") => `(tactic| (with_reducible refine EW.ne ?_))
local macro_rules | `(tactic| walk_at "w1") => `(tactic| (with_reducible refine EW.eq ?_))
local macro_rules | `(tactic| walk_at "w1") => `(tactic| (with_reducible refine asI4 ?_))
local macro_rules | `(tactic| walk_at "w1") => `(tactic| (with_reducible refine OW.someI ?_))
local macro_rules | `(tactic| walk_at "w1") => `(tactic| (with_reducible refine OW.none ?_))
local macro_rules | `(tactic| walk_at "w1") => `(tactic| (with_reducible refine EW.sl ?_))
local macro_rules | `(tactic| walk_at "w1") => `(tactic| ((with_reducible apply ExtW.F); (focus (exact rfl)); (focus (walk_at "sz")); (focus (walk_at "set"))))
local macro_rules | `(tactic| walk_at "w1") => `(tactic| (with_reducible refine IW.zip ?_))
local macro_rules | `(tactic| walk_at "w1") => `(tactic| ((with_reducible apply SW.augSub); (focus (exact rfl))))
local macro_rules | `(tactic| walk_at "w1") => `(tactic| ((with_reducible apply SW.ext); (focus (exact rfl))))
local macro_rules | `(tactic| walk_at "w1") => `(tactic| (with_reducible refine EW.neg ?_))
local macro_rules | `(tactic| walk_at "w1") => `(tactic| (with_reducible refine EW.min1 ?_))
local macro_rules | `(tactic| walk_at "w1") => `(tactic| (with_reducible refine EW.isN ?_))
local macro_rules | `(tactic| walk_at "w1") => `(tactic| (with_reducible refine EW.comp1 ?_))
local macro_rules | `(tactic| walk_at "w1") => `(tactic| (with_reducible refine EW.lst ?_))
local macro_rules | `(tactic| walk_at "w1") => `(tactic| (with_reducible refine EW.tup ?_))
local macro_rules | `(tactic| walk_at "w1") => `(tactic| (with_reducible refine EW.not ?_))
local macro_rules | `(tactic| walk_at "w1") => `(tactic| (with_reducible refine EW.or ?_))
local macro_rules | `(tactic| walk_at "w1") => `(tactic| (with_reducible refine EW.and ?_))
local macro_rules | `(tactic| walk_at "w1") => `(tactic| (with_reducible refine EW.ifx ?_))
local macro_rules | `(tactic| walk_at "w1") => `(tactic| (with_reducible refine EW.call ?_))
local macro_rules | `(tactic| walk_at "w1") => `(tactic| (with_reducible refine EW.len ?_))
local macro_rules | `(tactic| walk_at "w1") => `(tactic| (with_reducible refine EW.min2 ?_))
local macro_rules | `(tactic| walk_at "w1") => `(tactic| (with_reducible refine EW.max2 ?_))
local macro_rules | `(tactic| walk_at "w1") => `(tactic| (with_reducible refine EW.idx ?_))
local macro_rules | `(tactic| walk_at "w1") => `(tactic| (with_reducible refine EW.mul ?_))
local macro_rules | `(tactic| walk_at "w1") => `(tactic| (with_reducible refine EW.add ?_))
local macro_rules | `(tactic| walk_at "w1") => `(tactic| (with_reducible refine EW.sub ?_))
local macro_rules | `(tactic| walk_at "w1") => `(tactic| (with_reducible refine EW.div ?_))
local macro_rules | `(tactic| walk_at "w1") => `(tactic| (with_reducible refine EW.mod ?_))
local macro_rules | `(tactic| walk_at "w1") => `(tactic| (with_reducible refine EW.ge ?_))
local macro_rules | `(tactic| walk_at "w1") => `(tactic| (with_reducible refine EW.lt ?_))
local macro_rules | `(tactic| walk_at "w1") => `(tactic| (with_reducible refine EW.gt ?_))
local macro_rules | `(tactic| walk_at "w1") => `(tactic| (with_reducible refine EW.join ?_))
local macro_rules | `(tactic| walk_at "w1") => `(tactic| (with_reducible refine EW.sort2 ?_))
local macro_rules | `(tactic| walk_at "w1") => `(tactic| (with_reducible refine EW.all ?_))
local macro_rules | `(tactic| walk_at "w1") => `(tactic| (with_reducible refine EW.isi ?_))
local macro_rules | `(tactic| walk_at "w1") => `(tactic| (with_reducible refine EW.notN ?_))
local macro_rules | `(tactic| walk_at "w1") => `(tactic| (with_reducible refine EW.nm ?_))
local macro_rules | `(tactic| walk_at "w1") => `(tactic| (with_reducible refine EW.isB ?_))
local macro_rules | `(tactic| walk_at "w1") => `(tactic| (with_reducible refine EW.repr2 ?_))
local macro_rules | `(tactic| walk_at "w1") => `(tactic| ((with_reducible apply TW.subK); (focus (exact rfl))))
local macro_rules | `(tactic| walk_at "w1") => `(tactic| (with_reducible refine SW.raise ?_))
local macro_rules | `(tactic| walk_at "w1") => `(tactic| (with_reducible refine EW.own ?_))
local macro_rules | `(tactic| walk_at "w1") => `(tactic| (with_reducible refine EW.dictZip ?_))
local macro_rules | `(tactic| walk_at "w1") => `(tactic| (with_reducible refine EW.idxD ?_))
local macro_rules | `(tactic| walk_at "w1") => `(tactic| (with_reducible refine EW.isE ?_))
local macro_rules | `(tactic| walk_at "w1") => `(tactic| (with_reducible refine EW.err ?_))
local macro_rules | `(tactic| walk_at "w1") => `(tactic| (with_reducible refine EW.lenSet ?_))
local macro_rules | `(tactic| walk_at "w1") => `(tactic| (with_reducible refine EW.sortSet3 ?_))
local macro_rules | `(tactic| walk_at "w1") => `(tactic| (with_reducible refine IW.enA ?_))
local macro_rules | `(tactic| walk_at "w1") => `(tactic| ((with_reducible apply TW.subX); (focus (exact rfl))))
local macro_rules | `(tactic| walk_at "w1") => `(tactic| (with_reducible refine SW.par ?_))
local macro_rules | `(tactic| walk_at "w1") => `(tactic| (with_reducible refine SW.for ?_))
local macro_rules | `(tactic| walk_at "w1") => `(tactic| (with_reducible refine SW.expr ?_))
local macro_rules | `(tactic| walk_at "w1") => `(tactic| (with_reducible refine SW.nil ?_))
local macro_rules | `(tactic| walk_at "w1") => `(tactic| (with_reducible refine SW.asg ?_))
local macro_rules | `(tactic| walk_at "w1") => `(tactic| (with_reducible refine SW.ret ?_))
local macro_rules | `(tactic| walk_at "w1") => `(tactic| (with_reducible refine SW.ite ?_))
local macro_rules | `(tactic| walk_at "w1") => `(tactic| ((with_reducible refine SW.set ?_)))
local macro_rules | `(tactic| walk_at "w1") => `(tactic| (with_reducible refine SW.seq ?_))
local macro_rules | `(tactic| walk_at "w1") => `(tactic| (with_reducible refine VarW.xO ?_))
local macro_rules | `(tactic| walk_at "w1") => `(tactic| (with_reducible refine VarW.xB ?_))
local macro_rules | `(tactic| walk_at "w1") => `(tactic| (with_reducible refine VarW.xF ?_))
local macro_rules | `(tactic| walk_at "w1") => `(tactic| ((with_reducible apply EW.var); (focus (exact rfl))))
local macro_rules | `(tactic| walk_at "w1") => `(tactic| (with_reducible refine EW.tr ?_))
local macro_rules | `(tactic| walk_at "w1") => `(tactic| (with_reducible refine EW.n ?_))
local macro_rules | `(tactic| walk_at "w1") => `(tactic| (with_reducible refine EW.c ?_))
local macro_rules | `(tactic| walk_at "wp") => `(tactic| repeat (walk_at "w1"))
local macro_rules | `(tactic| walk_at "cp") => `(tactic| (refine ⟨_, (by walk_at "set"), ?_⟩; walk_at "wp"; all_goals (first | exact ⟨rfl, rfl⟩ | exact rfl)))

/-! k75: the feed; what is served -/
theorem FW.tk {d s m : Int} {P : PV.Tm → List PV.Tm → Prop} {X : Er → List PV.Tm → Prop} (h : 0 < m) (h2 : m < 1073741824) (k : ∀ x d' s', 0 ≤ x → x < m → P (.v .F (.int x)) [feedT d' s']) : FW den__law_take [feedT d s, .v .B (.int m)] P X := by
  refine FW.def (ρ0 := [some (feedT d s), some (.v .B (.int m)), none]) rfl ?_
  unfold d__law_take
  walk_at "wp"
  refine BoW.d (fun h0 => ?_) fun h0 => ?_
  all_goals walk_at "wp"
  all_goals exact k _ _ _ (Int.emod_nonneg _ (by omega)) (Int.emod_lt_of_pos _ h)
theorem FW.fd {ns : List Int} {k : Nat} {P : PV.Tm → List PV.Tm → Prop} {X : Er → List PV.Tm → Prop} (hk : k < 1000) (h : ∀ d s, P (feedT d s) []) : FW den__law_feed [.v .B (.scr ns), .v .B (.int k)] P X := by
  refine FW.def (ρ0 := [some (.v .B (.scr ns)), some (.v .B (.int k)), none, none, none]) rfl ?_
  unfold d__law_feed
  walk_at "wp"
  refine BoW.d (fun h0 => ?_) fun h0 => ?_
  · walk_at "wp"
    have hl : k < ns.length := by omega
    refine IdxW.scr (by walk_at "is") (by walk_at "is") (atN (List.getElem?_eq_getElem hl)) ?_
    walk_at "wp"
    refine ⟨_, pow18, ?_⟩
    walk_at "wp"
    exact h _ _
  · walk_at "wp"
    refine ⟨_, pow18, ?_⟩
    walk_at "wp"
    exact h _ _
def SqD (a : List Int) (d : D) : Prop := d = lI a ∨ d = .tup (a.map .int)
def nD (n : Nat) : D := .int (n : Int)
theorem FW.served {a : List Int} {f : List Nat} {d : D} {P : PV.Tm → List PV.Tm → Prop} {X : Er → List PV.Tm → Prop} (hd : SqD a d) (ha : a.length ≤ 1000) (hf : f.length ≤ 1000) (h : P (.v .O (lI (srvS a f))) []) : FW den__law_served [.v .B d, .v .B (.lst (f.map nD))] P X := by
  refine FW.def (ρ0 := [some (.v .B d), some (.v .B (.lst (f.map nD))), none, none, none, none, none, none]) rfl ?_
  unfold d__law_served
  refine SW.seq (SW.par ?_)
  walk_at "wp"
  refine SoW.ints Is.v hd ?_
  walk_at "wp"
  refine ForW.data (k := .B) (f := nD) (fun p ρ => ∃ (there out : List Int) (done : Int) (v5 v6 : Option PV.Tm), ρ = [some (.v .B d), some (.v .B (.lst (f.map nD))), some (.v .O (lI there)), some (.v .F (.int done)), some (.v .O (lI out)), v5, v6, none] ∧ there.length ≤ a.length ∧ out.length = p.length ∧ ∀ q, srv (isort a) (p ++ q) 0 = out ++ srv there q done) f ⟨isort a, [], 0, _, _, rfl, by rw [(isort_perm a).length_eq]; exact Nat.le_refl _, rfl, fun q => rfl⟩ ?_ ?_
  · rintro p n q ρ hp ⟨there, out, done, v5, v6, rfl, hl, ho, hs⟩
    have hpl : p.length < f.length := by rw [hp]; simp
    unfold nD
    walk_at "wp"
    have hm : min (n : Int) ((there.map D.int).length : Int) = ((min n there.length : Nat) : Int) := by rw [List.length_map]; omega
    rw [hm]
    refine SlW.lst (by walk_at "is") elkO (cut_from _ _) ?_
    rw [← List.map_drop]
    walk_at "wp"
    refine CpW.ints (fun x => decide (x > 1)) (fun x => .int (x - 1)) (there.drop (min n there.length)) rfl (fun a _ => by walk_at "cp") (fun a _ _ => by walk_at "cp") ?_ ?_
    · rw [List.length_map, sizeLine_eq]
      have h1 := List.length_filter_le (fun x => decide (x > 1)) (there.drop (min n there.length))
      rw [List.length_drop] at h1
      omega
    · rw [show ((there.drop (min n there.length)).filter fun x => decide (x > 1)).map (fun x => D.int (x - 1)) = (nxt there (min n there.length)).map D.int from by unfold nxt; rw [List.map_map]; rfl]
      walk_at "wp"
      refine ⟨nxt there (min n there.length), out ++ [done + ((min n there.length : Nat) : Int)], done + ((min n there.length : Nat) : Int), some (.v .B (.int (n : Int))), some (.v .F (.int ((min n there.length : Nat) : Int))), ?_, ?_, by simp [ho], fun q => ?_⟩
      · simp only [lI, List.map_append, List.map_cons, List.map_nil]
      · unfold nxt
        rw [List.length_map]
        have h1 := List.length_filter_le (fun x => decide (x > 1)) (there.drop (min n there.length))
        rw [List.length_drop] at h1
        omega
      · rw [List.append_assoc, hs]
        simp only [List.cons_append, List.nil_append, srv, List.append_assoc]
  · rintro ρ ⟨there, out, done, v5, v6, rfl, hl, ho, hs⟩
    have e := hs []
    simp only [List.append_nil, srv] at e
    walk_at "wp"
    rw [show out = srvS a f from e.symm]
    exact h
/-! k75: dominates, the first life that fewer have -/
def domb (a b : List Int) : Bool := decide (b.length ≤ a.length) && decide (((List.range b.length).filter fun i => decide (at0 (fall a) i < at0 (fall b) i)).map (fun i : Nat => (i : Int)) = [])
theorem domb_iff {a b : List Int} (hb : Up b) : domb a b = true ↔ Dom a b := by
  rw [dom_iff hb]
  unfold domb
  rw [Bool.and_eq_true, decide_eq_true_iff, decide_eq_true_iff, List.map_eq_nil_iff, List.filter_eq_nil_iff]
  constructor
  · rintro ⟨h1, h2⟩
    refine ⟨h1, fun i hi => ?_⟩
    have := h2 i (List.mem_range.mpr hi)
    simp only [decide_eq_true_eq] at this
    omega
  · rintro ⟨h1, h2⟩
    refine ⟨h1, fun i hi => ?_⟩
    have := h2 i (List.mem_range.mp hi)
    simp only [decide_eq_true_eq]
    omega
theorem down_at {a : List Int} {i : Nat} (h : i < a.length) : ((fall a).map D.int)[i]? = some (.int (at0 (fall a) i)) := by
  rw [List.getElem?_map, at0_get (by rw [(fall_perm a).length_eq]; exact h)]
  rfl
theorem rev_fall (a : List Int) : (List.map D.int (isort a)).reverse = (fall a).map D.int := by rw [← List.map_reverse]; rfl
theorem FW.dominates {a b : List Int} {d e : D} {P : PV.Tm → List PV.Tm → Prop} {X : Er → List PV.Tm → Prop} (hd : SqD a d) (he : SqD b e) (ha : a.length ≤ 1000) (hb : b.length ≤ 1000) (h : P (.v .F (.bl (domb a b))) []) : FW den__law_dominates [.v .B d, .v .B e] P X := by
  refine FW.def (ρ0 := [some (.v .B d), some (.v .B e), none, none, none]) rfl ?_
  unfold d__law_dominates
  walk_at "wp"
  refine SoW.ints Is.v hd ?_
  walk_at "wp"
  refine ⟨_, _, Is.v, elkO, ?_⟩
  walk_at "wp"
  refine SoW.ints Is.v he ?_
  walk_at "wp"
  refine ⟨_, _, Is.v, elkO, ?_⟩
  walk_at "wp"
  simp only [rev_fall, List.length_map, (fall_perm _).length_eq]
  refine BoW.d (fun hlt => ?_) fun hlt => ?_
  · walk_at "wp"
    have e : domb a b = false := by unfold domb; rw [decide_eq_false (by omega)]; rfl
    rw [e] at h
    exact h
  · walk_at "wp"
    simp only [List.length_map, (fall_perm _).length_eq]
    refine R1W.go (by omega) ?_
    rw [Int.toNat_natCast]
    unfold rngL
    refine CpW.map (inj := fun i : Nat => PV.Tm.v .F (.int (0 + (i : Int)))) (fun i => decide (at0 (fall a) i < at0 (fall b) i)) (fun i => .int (i : Int)) (List.range b.length) (fun _ => rfl) rfl (fun i hi => ?_) (fun i hi _ => ?_) ?_ ?_
    · rw [List.mem_range] at hi
      rw [Int.zero_add]
      refine ⟨_, by walk_at "set", ?_⟩
      walk_at "wp"
      refine IdxW.lF (by walk_at "is") (by walk_at "is") (atN (down_at (by omega))) ?_
      walk_at "wp"
      refine IdxW.lF (by walk_at "is") (by walk_at "is") (atN (down_at (by omega))) ?_
      walk_at "wp"
      all_goals (first | exact ⟨rfl, rfl⟩ | exact rfl)
    · rw [Int.zero_add]
      walk_at "cp"
    · rw [List.length_map, sizeLine_eq]
      have := List.length_filter_le (fun i => decide (at0 (fall a) i < at0 (fall b) i)) (List.range b.length)
      rw [List.length_range] at this
      omega
    · rw [show (((List.range b.length).filter fun i => decide (at0 (fall a) i < at0 (fall b) i)).map fun i : Nat => D.int (i : Int)) = (((List.range b.length).filter fun i => decide (at0 (fall a) i < at0 (fall b) i)).map fun i : Nat => (i : Int)).map D.int from by rw [List.map_map]; rfl]
      walk_at "wp"
      refine ⟨_, _, _, _, _, Is.v, Is.v, eqD_lints _ [], ?_⟩
      walk_at "wp"
      have e : domb a b = decide (((List.range b.length).filter fun i => decide (at0 (fall a) i < at0 (fall b) i)).map (fun i : Nat => (i : Int)) = []) := by unfold domb; rw [decide_eq_true (by omega : b.length ≤ a.length), Bool.true_and]
      rw [e] at h
      exact h
theorem short_ok {a b : List Int} {d e : D} {P : PV.Tm → List PV.Tm → Prop} {X : Er → List PV.Tm → Prop} (hd : SqD a d) (he : SqD b e) (ha : a.length ≤ 1000) (hb : b.length ≤ 1000)
    (h0 : Dom a b → P (.v .F .non) []) (h1 : ∀ l ∈ b, ge l a < ge l b → P (.v .F (.int l)) []) : FW den_short_life [.v .B d, .v .B e] P X := by
  refine FW.def (ρ0 := [some (.v .B d), some (.v .B e), none, none]) rfl ?_
  unfold d_short_life
  walk_at "wp"
  refine ⟨_, b, _, Is.v, he, by omega, ?_⟩
  walk_at "wp"
  refine ForW.data (fun pre ρ => ∃ v, ρ = [some (.v .B d), some (.v .B e), v, none] ∧ ∀ l ∈ pre, ge l b ≤ ge l a) (usort b) ⟨_, rfl, fun l hl => absurd hl List.not_mem_nil⟩ ?_ ?_
  · rintro pre x suf ρ hp ⟨v, rfl, hI⟩
    have hx : x ∈ b := usort_mem.mp (by rw [hp]; simp)
    have hz : ∀ c : List Int, c.length ≤ 1000 → ((c.filter fun y => decide (y ≥ x)).map D.int).length ≤ sizeLine := fun c hc => by
      rw [List.length_map, sizeLine_eq]
      have := List.length_filter_le (fun y => decide (y ≥ x)) c
      omega
    have fin : SW (sRet (eM (eVar 2))) [some (.v .B d), some (.v .B e), some (.v .F (.int x)), none] (fun _ => True) (fun r ρ => True) (fun _ => True) (fun _ => True) (fun _ _ => True) := by
      walk_at "wp"
      all_goals trivial
    rcases hd with rfl | rfl <;> rcases he with rfl | rfl
    all_goals
      walk_at "wp"
      refine CpW.ints (fun y => decide (y ≥ x)) (fun y => .int y) a rfl (fun a _ => by walk_at "cp") (fun a _ _ => by walk_at "cp") (hz a ha) ?_
      walk_at "wp"
      refine CpW.ints (fun y => decide (y ≥ x)) (fun y => .int y) b rfl (fun a _ => by walk_at "cp") (fun a _ _ => by walk_at "cp") (hz b hb) ?_
      walk_at "wp"
      refine BoW.d (fun hlt => ?_) fun hlt => ?_
      · walk_at "wp"
        refine h1 x hx ?_
        simp only [List.length_map, ge_fil] at hlt
        omega
      · walk_at "wp"
        refine ⟨_, rfl, fun l hl => ?_⟩
        rcases List.mem_append.mp hl with hl | hl
        · exact hI l hl
        · rw [List.mem_singleton.mp hl]
          simp only [List.length_map, ge_fil] at hlt
          omega
  · rintro ρ ⟨v, rfl, hI⟩
    walk_at "wp"
    exact h0 (dom_mem fun l hl => hI l (usort_mem.mpr hl))
theorem FW.never {a b : List Int} {d e : D} {P : PV.Tm → List PV.Tm → Prop} {X : Er → List PV.Tm → Prop} (hd : SqD a d) (he : SqD b e) (ha : a.length ≤ 1000) (hb : b.length ≤ 1000) (ub : Up b)
    (h : P (.v .F (.bl (domb a b))) []) : FW den_never_worse [.v .B d, .v .B e] P X := by
  refine FW.def (ρ0 := [some (.v .B d), some (.v .B e)]) rfl ?_
  unfold d_never_worse
  walk_at "wp"
  refine short_ok hd he ha hb (fun hD => ?_) fun l hl hlt => ?_
  · walk_at "wp"
    refine ⟨_, _, _, Is.v, Is.v, ?_⟩
    rw [(domb_iff ub).mpr hD] at h
    walk_at "wp"
    exact h
  · walk_at "wp"
    refine ⟨_, _, _, Is.v, Is.v, ?_⟩
    have hn : domb a b = false := by
      cases q : domb a b with
      | false => rfl
      | true =>
        have := (domb_iff ub).mp q l (ub l hl)
        omega
    rw [hn] at h
    walk_at "wp"
    exact h
theorem FW.isnum {i : Int} {k : Kd} {P : PV.Tm → List PV.Tm → Prop} {X : Er → List PV.Tm → Prop} (hi : 0 ≤ i) (h : P (.v .F (.bl true)) []) : FW den__law_is_number [.v .B (.int i)] P X := by
  refine FW.def (ρ0 := [some (.v .B (.int i))]) rfl ?_
  unfold d__law_is_number
  walk_at "wp"
  refine ⟨_, _, _, Is.v, rfl, ?_⟩
  refine BoW.tt ?_
  walk_at "wp"
  refine ⟨_, _, _, Is.v, rfl, ?_⟩
  refine NotW.b ?_
  refine BoW.tt ?_
  walk_at "wp"
  rw [decide_eq_true hi]
  exact h
/-! k75: the futures -/
def fL (f : List Nat) : D := .lst (f.map nD)
def extF (n : Nat) (f : List Nat) : List (List Nat) := (List.range n).map fun d => f ++ [d]
def badF (a b : List Int) (f : List Nat) : Bool := decide (((List.range 4).filter fun i => decide (at0 (srvS a f) i < at0 (srvS b f) i)).map (fun i : Nat => (i : Int)) ≠ [])
theorem flat_len {n : Nat} : ∀ (l : List (List Nat)), (l.flatMap (extF n)).length = l.length * n
  | [] => by simp
  | x :: l => by
    simp only [List.flatMap_cons, List.length_append, extF, List.length_map, List.length_range, List.length_cons]
    have := flat_len (n := n) l

    rw [this, Nat.succ_mul]
    omega
theorem pow_le4 {n k : Nat} (hn : n ≤ 4) (hk : k ≤ 4) : n ^ k ≤ 256 := Nat.le_trans (Nat.pow_le_pow_left hn k) (Nat.le_trans (Nat.pow_le_pow_right (by omega) hk) (by decide))
def nvB : Sm := (sSeq (sAsg (tgTup (tgsCons (tgN 6) (tgsCons (tgN 7) tgsNil))) (eTup (gCons (eCall den__law_served [.b, .b] (gCons (eVar 0) (gCons (eVar 5) gNil))) (gCons (eCall den__law_served [.b, .b] (gCons (eVar 1) (gCons (eVar 5) gNil))) gNil))))
    (sIf (eNe (eComp (itR1 (eC (.int 4))) [3] (tgN 3) (eLt (eIdx (eVar 6) (eVar 3)) (eIdx (eVar 7) (eVar 3))) (eF (eVar 3))) (eLst gNil))
    (sRet (eC (.bl false)))
    sNil))
theorem srvS_len (a : List Int) (f : List Nat) : (srvS a f).length = f.length := srv_len f _ _
theorem srv_at {a : List Int} {f : List Nat} {i : Nat} (h : i < f.length) : ((srvS a f).map D.int)[i]? = some (.int (at0 (srvS a f) i)) := by
  rw [List.getElem?_map, at0_get (by rw [srvS_len]; exact h)]
  rfl
theorem never_loop {a b : List Int} {fs : List (List Nat)} {x2 v4 v5 v3 : Option PV.Tm} {P : PV.Tm → List PV.Tm → Prop} {X : Er → List PV.Tm → Prop} (ha : a.length ≤ 1000) (hb : b.length ≤ 1000) (hfs : ∀ f ∈ fs, f.length = 4) (hv3 : v3 = none ∨ ∃ z : Int, v3 = some (.v .F (.int z)))
    (h : P (.v .F (.bl (fs.all fun f => !badF a b f))) []) :
    ForW (tgN 5) nvB ((fs.map fL).map (Tm.v .F)) [some (.v .B (lI a)), some (.v .B (lI b)), x2, v3, v4, v5, none, none, none] (fun ρ1 => SW (sRet (eC (.bl true))) ρ1 (fun ρ => GiW ρ [] fun us => P (.v .F .non) us) (fun t ρ => UnW t fun t' => GiW ρ [] fun us => P t' us) NoS NoS fun e ρ => GiW ρ [] fun us => X e us)
      (fun t ρ => UnW t fun t' => GiW ρ [] fun us => P t' us) fun e ρ => GiW ρ [] fun us => X e us := by
  unfold nvB
  refine ForW.data (k := .F) (f := fL) (fun p ρ => ∃ v5 v6 v7, ρ = [some (.v .B (lI a)), some (.v .B (lI b)), x2, v3, v4, v5, v6, v7, none] ∧ ∀ f ∈ p, badF a b f = false) fs ⟨_, _, _, rfl, fun f hf => absurd hf List.not_mem_nil⟩ ?_ ?_
  · rintro p f q ρ hpq ⟨v5, v6, v7, rfl, hI⟩
    have hf4 := hfs f (by rw [hpq]; simp)
    refine TW.n rfl (by walk_at "lt") (by walk_at "set") ?_
    walk_at "wp"
    refine FW.served (.inl rfl) ha (by omega) ?_
    walk_at "wp"
    refine FW.served (.inl rfl) hb (by omega) ?_
    rcases hv3 with rfl | ⟨z, rfl⟩
    all_goals
      walk_at "wp"
      refine CpW.map (inj := fun i : Nat => PV.Tm.v .F (.int (0 + (i : Int)))) (fun i => decide (at0 (srvS a f) i < at0 (srvS b f) i)) (fun i => .int (i : Int)) (List.range 4) (fun _ => rfl) rfl (fun i hi => ?_) (fun i hi _ => ?_) ?_ ?_
      · rw [List.mem_range] at hi
        rw [Int.zero_add]
        refine ⟨_, by walk_at "set", ?_⟩
        walk_at "wp"
        refine IdxW.lF (by walk_at "is") (by walk_at "is") (atN (srv_at (by omega))) ?_
        walk_at "wp"
        refine IdxW.lF (by walk_at "is") (by walk_at "is") (atN (srv_at (by omega))) ?_
        walk_at "wp"
        all_goals (first | exact ⟨rfl, rfl⟩ | exact rfl)
      · rw [Int.zero_add]
        walk_at "cp"
      · rw [List.length_map, sizeLine_eq]
        have := List.length_filter_le (fun i => decide (at0 (srvS a f) i < at0 (srvS b f) i)) (List.range 4)
        rw [List.length_range] at this
        omega
      · rw [show (((List.range 4).filter fun i => decide (at0 (srvS a f) i < at0 (srvS b f) i)).map fun i : Nat => D.int (i : Int)) = (((List.range 4).filter fun i => decide (at0 (srvS a f) i < at0 (srvS b f) i)).map fun i : Nat => (i : Int)).map D.int from by rw [List.map_map]; rfl]
        walk_at "wp"
        refine ⟨_, _, _, _, _, Is.v, Is.v, neD_lints _ [], ?_⟩
        refine BoW.d (fun hb => ?_) fun hb => ?_
        · walk_at "wp"
          have e : (fs.all fun f => !badF a b f) = false := by
            rw [hpq, List.all_append, List.all_cons]
            have : badF a b f = true := by unfold badF; rw [decide_eq_true hb]
            rw [this]
            simp
          rw [e] at h
          exact h
        · walk_at "wp"
          refine ⟨_, _, _, rfl, fun g hg => ?_⟩
          rcases List.mem_append.mp hg with hg | hg
          · exact hI g hg
          · rw [List.mem_singleton.mp hg]; unfold badF; rw [decide_eq_false hb]
  · rintro ρ ⟨v5, v6, v7, rfl, hI⟩
    walk_at "wp"
    have e : (fs.all fun f => !badF a b f) = true := List.all_eq_true.mpr fun f hf => by rw [hI f hf]; rfl
    rw [e] at h
    exact h
theorem FW.never4 {a b : List Int} {P : PV.Tm → List PV.Tm → Prop} {X : Er → List PV.Tm → Prop} (ha : a.length ≤ 1000) (hb : b.length ≤ 3) (h : P (.v .F (.bl ((futs (b.length + 1) 4).all fun f => !badF a b f))) []) : FW den__law_never [.v .B (lI a), .v .B (lI b)] P X := by
  refine FW.def (ρ0 := [some (.v .B (lI a)), some (.v .B (lI b)), none, none, none, none, none, none, none]) rfl ?_
  unfold d__law_never
  walk_at "wp"
  refine ForW.num (fun i ρ => ∃ (k : Kd) (v3 v4 v5 : Option PV.Tm), (k = .O ∨ k = .F) ∧ (v3 = none ∨ ∃ z : Int, v3 = some (.v .F (.int z))) ∧ ρ = [some (.v .B (lI a)), some (.v .B (lI b)), some (.v k (.lst ((futs (b.length + 1) i).map fL))), v3, v4, v5, none, none, none]) _ 0 ⟨.O, _, _, _, .inl rfl, .inl rfl, rfl⟩ ?_ ?_
  · rintro i t ρ ht ⟨k, v3, v4, v5, hk, _, rfl⟩
    obtain ⟨hi, rfl⟩ := rngL_at ht
    simp only [Nat.zero_add] at hi ⊢
    have hi4 : i < 4 := by omega
    have hp := pow_le4 (show b.length + 1 ≤ 4 by omega) (show i + 1 ≤ 4 by omega)
    refine TW.n rfl (by walk_at "lt") (by walk_at "set") ?_
    rcases hk with rfl | rfl
    all_goals
      walk_at "wp"
      refine ForW.data (k := .F) (f := fL) (fun p ρ => ∃ v5, ρ = [some (.v .B (lI a)), some (.v .B (lI b)), some (.v .F (.lst ((futs (b.length + 1) i).map fL))), some (.v .F (.int (0 + (i : Int)))), some (.v .O (.lst ((p.flatMap (extF (b.length + 1))).map fL))), v5, none, none, none]) (futs (b.length + 1) i) ⟨_, rfl⟩ ?_ ?_
      · rintro p f q ρ hpq ⟨v5, rfl⟩
        have hl : p.length + 1 ≤ (b.length + 1) ^ i := by rw [← futs_len (b.length + 1) i, hpq]; simp
        have hf : f.length = i := (futs_mem.mp (show f ∈ futs (b.length + 1) i by rw [hpq]; simp)).1
        have hz : (p.length + 1) * (b.length + 1) ≤ 256 := by
          have := Nat.mul_le_mul_right (b.length + 1) hl
          rw [← Nat.pow_succ] at this
          exact Nat.le_trans this hp
        have hz' : p.length * (b.length + 1) + (b.length + 1) ≤ 256 := by rw [← Nat.succ_mul]; exact hz
        refine TW.n rfl (by walk_at "lt") (by walk_at "set") ?_
        walk_at "wp"
        rw [show ((List.map D.int b).length : Int) + 1 = ((b.length + 1 : Nat) : Int) from by simp]
        refine R1W.go (by omega) ?_
        rw [Int.toNat_natCast]
        unfold rngL
        refine CpW.map (inj := fun i : Nat => PV.Tm.v .F (.int (0 + (i : Int)))) (fun _ => true) (fun d => fL (f ++ [d])) (List.range (b.length + 1)) (fun _ => rfl) rfl (fun i hi => ?_) (fun i hi _ => ?_) ?_ ?_
        · walk_at "cp"
        · rw [Int.zero_add]
          refine ⟨_, by walk_at "set", ?_⟩
          walk_at "wp"
          refine AddW.ll (by walk_at "is") (by walk_at "is") elkF elkO (by rw [List.length_map, sizeLine_eq, hf]; simp only [List.length_cons, List.length_nil]; omega) ?_
          walk_at "wp"
          refine ⟨?_, rfl⟩
          simp only [fL, List.map_append, List.map_cons, List.map_nil, Int.zero_add]
          rfl
        · rw [filt_true, List.length_map, List.length_range, sizeLine_eq]; omega
        · rw [filt_true]
          refine AddW.ll (by walk_at "is") (by walk_at "is") elkO elkO (by rw [List.length_map, List.length_map, List.length_range, flat_len, sizeLine_eq]; omega) ?_
          walk_at "wp"
          refine ⟨some (.v .F (fL f)), ?_⟩
          rw [List.flatMap_append, List.map_append]
          simp only [List.flatMap_cons, List.flatMap_nil, List.append_nil, extF, List.map_map]
          rfl
      · rintro ρ ⟨v5, rfl⟩
        walk_at "wp"
        exact ⟨.F, _, _, _, .inr rfl, .inr ⟨_, rfl⟩, rfl⟩
  · rintro ρ ⟨k, v3, v4, v5, hk, hv3, rfl⟩
    simp only [Nat.zero_add]
    have hlen : (rngL 0 (Int.toNat 4)).length = 4 := rfl
    rw [hlen]
    rcases hk with rfl | rfl <;> rcases hv3 with rfl | ⟨z, rfl⟩
    all_goals
      walk_at "wp"
      exact never_loop ha (by omega) (fun f hf => (futs_mem.mp hf).1) (by first | exact .inl rfl | exact .inr ⟨_, rfl⟩) h
/-! k75: places by life, the matching -/
theorem never_dom {a b : List Int} (ua : Up a) (ub : Up b) (h4 : ∀ x ∈ b, x ≤ 4) : ((futs (b.length + 1) 4).all fun f => !badF a b f) = domb a b := by
  cases q : domb a b with
  | true =>
    have hD := (domb_iff ub).mp q
    refine List.all_eq_true.mpr fun f hf => ?_
    obtain ⟨hl, _⟩ := futs_mem.mp hf
    have : badF a b f = false := by
      unfold badF
      refine decide_eq_false fun hn => hn ?_
      rw [List.map_eq_nil_iff, List.filter_eq_nil_iff]
      intro i hi
      have := srvS_dom hD ua ub f i (by rw [hl]; exact List.mem_range.mp hi)
      simp only [decide_eq_true_eq]
      omega
    rw [this]; rfl
  | false =>
    have hn : ¬ Dom a b := fun h => by rw [(domb_iff ub).mpr h] at q; cases q
    obtain ⟨f, hf, i, hi, hlt⟩ := futs_show ua ub h4 hn
    apply Bool.eq_false_iff.mpr
    intro hall
    have h1 := List.all_eq_true.mp hall f hf
    have : badF a b f = true := by
      unfold badF
      refine decide_eq_true fun e => ?_
      rw [List.map_eq_nil_iff, List.filter_eq_nil_iff] at e
      exact e i (List.mem_range.mpr hi) (decide_eq_true hlt)
    rw [this] at h1
    cases h1
theorem enum_map {α : Type} (f : α → D) : ∀ (xs : List α) (n : Nat), enumD n (xs.map f) = (xs.mapIdx fun i x => (n + i, x)).map fun q => pairD (.int ((q.1 : Nat) : Int)) (f q.2)
  | [], n => rfl
  | x :: xs, n => by
    simp only [List.map_cons, enumD, List.mapIdx_cons, enum_map f xs (n + 1), Nat.add_zero]
    congr 3
    funext i y
    simp only [Prod.mk.injEq, and_true]
    omega
def eTm (q : Nat × Int) : PV.Tm := .v .B (.tup [.int (q.1 : Int), .int q.2])
theorem enum_tm (a : List Int) : ((enumD 0 (a.map D.int)).map (subK .B)) = (a.mapIdx fun i x => (i, x)).map eTm := by
  rw [enum_map, List.map_map]
  have : (fun (i : Nat) (x : Int) => (0 + i, x)) = fun i x => (i, x) := by funext i x; rw [Nat.zero_add]
  rw [this]
  rfl
theorem prs_idx (a : List Int) : ((a.mapIdx fun i x => (i, x)).map fun q : Nat × Int => pI (-q.2, (q.1 : Int))) = (prs a).map pI := by
  unfold prs
  apply List.ext_getElem?
  intro i
  simp only [List.getElem?_map, List.getElem?_mapIdx]
  cases a[i]? <;> rfl
theorem places_ok {a : List Int} {d : D} {P : PV.Tm → List PV.Tm → Prop} {X : Er → List PV.Tm → Prop} (hd : SqD a d) (ha : a.length ≤ 1000) (h : P (.v .O (lI (places a))) []) : FW den_places_by_life [.v .B d] P X := by
  refine FW.def (ρ0 := [some (.v .B d), none, none]) rfl ?_
  unfold d_places_by_life
  refine SW.ret (EW.comp (IW.seq (EW.sort2 (EW.comp (IW.enA ?_)))))
  have main : itemsEnA (.v .B d) = some ((a.mapIdx fun i x => (i, x)).map eTm) := by
    rcases hd with rfl | rfl <;> simp only [itemsEnA, lI, enum_tm]
  refine (show EW (eVar 0) _ _ _ from by
    walk_at "w1"
    refine VarW.xB ?_
    refine ⟨_, main, rfl, ?_⟩
    refine CoW.go (inj := eTm) (fun p es ρ => ρ = [some (.v .B d), none, none] ∧ es = p.map fun q : Nat × Int => pI (-q.2, (q.1 : Int))) (a.mapIdx fun i x => (i, x)) ⟨_, wip2 (by walk_at "set") (by walk_at "set"), rfl, rfl⟩ ?_ ?_
    · rintro p q r es ρ hp ⟨rfl, rfl⟩
      unfold eTm
      walk_at "wp"
      refine ⟨_, wip2 (by walk_at "set") (by walk_at "set"), rfl, ?_⟩
      rw [List.map_append]
      rfl
    · rintro ds ρ ⟨rfl, rfl⟩
      rw [prs_idx]
      refine ⟨by rw [List.length_map, prs_len, sizeLine_eq]; omega, _, rst2 rfl (by walk_at "set") rfl (by walk_at "set"), ?_⟩
      refine SoW.prs (by walk_at "is") ?_
      refine ItsW.lstO ?_
      refine ⟨rfl, ?_⟩
      rw [List.map_map]
      refine CoW.go (inj := PV.Tm.v .F ∘ pI) (fun p es ρ => ρ = [some (.v .B d), none, none] ∧ es = p.map fun q : Int × Int => D.int q.2) (psort (prs a)) ⟨_, wip2 (by walk_at "set") (by walk_at "set"), rfl, rfl⟩ ?_ ?_
      · rintro p q r es ρ hp ⟨rfl, rfl⟩
        unfold pI
        show TW _ (PV.Tm.v .F (.tup [.int q.1, .int q.2])) _ _
        walk_at "wp"
        refine ⟨_, wip2 (by walk_at "set") (by walk_at "set"), rfl, ?_⟩
        rw [List.map_append]
        rfl
      · rintro ds ρ ⟨rfl, rfl⟩
        refine ⟨by rw [List.length_map, (psort_perm _).length_eq, prs_len, sizeLine_eq]; omega, _, rst2 rfl (by walk_at "set") rfl (by walk_at "set"), ?_⟩
        rw [show ((psort (prs a)).map fun q : Int × Int => D.int q.2) = (places a).map D.int from by unfold places; rw [List.map_map]; rfl]
        walk_at "wp"
        exact h)
theorem key_ints : ∀ xs : List Int, keysKD (xs.map D.int) = some (xs.map Sum.inl)
  | [] => rfl
  | x :: xs => by simp only [List.map_cons, keysKD, keyK, key_ints xs]
theorem key_nd {xs : List Int} (h : xs.Nodup) : (xs.map (Sum.inl : Int → Key)).Nodup := List.pairwise_map.mpr (h.imp fun h e => h (Sum.inl.inj e))
theorem match_ok {a b : List Int} {d e : D} {P : PV.Tm → List PV.Tm → Prop} {X : Er → List PV.Tm → Prop} (hd : SqD a d) (he : SqD b e) (ha : a.length ≤ 1000) (hb : b.length ≤ 1000) (ub : Up b)
    (h : Dom a b → P (.v .O (lI (mat a b))) []) (hx : ∀ m : Nat, m ≤ 999 → ge ((m : Int) + 1) a < ge ((m : Int) + 1) b → X ⟨1, [fL (List.replicate m 0 ++ [b.length])]⟩ []) (h1000 : ∀ x ∈ b, x ≤ 1000) : FW den_matching [.v .B d, .v .B e] P X := by
  refine FW.def (ρ0 := [some (.v .B d), some (.v .B e), none, none, none]) rfl ?_
  unfold d_matching
  walk_at "wp"
  refine short_ok hd he ha hb (fun hD => ?_) fun l hl hlt => ?_
  · walk_at "wp"
    refine ⟨_, _, _, Is.v, Is.v, ?_⟩
    refine BoW.ff ?_
    walk_at "wp"
    refine places_ok he hb ?_
    walk_at "wp"
    refine places_ok hd ha ?_
    walk_at "wp"
    have hab := dom_iff ub |>.mp hD
    refine ⟨.O, .O, _, _, _, rfl, rfl, key_ints _, by rw [List.length_map, List.length_map, places_len, places_len]; exact hab.1, key_nd (places_nd b), rfl, ?_⟩
    walk_at "wp"
    have hlk : List.take ((places b).map (Sum.inl : Int → Key)).length ((places a).map D.int) = ((places a).take b.length).map D.int := by rw [List.length_map, places_len, List.map_take]
    rw [hlk]
    have hz : ((List.range b.length).map fun j : Nat => D.int (at0 ((places a).take b.length) ((places b).idxOf (j : Int)))).length ≤ sizeLine := by rw [List.length_map, List.length_range, sizeLine_eq]; omega
    have fin := h hD
    rcases he with rfl | rfl
    all_goals
      walk_at "wp"
      rw [List.length_map]
      refine R1W.go (by omega) ?_
      rw [Int.toNat_natCast]
      unfold rngL
      refine CpW.map (inj := fun i : Nat => PV.Tm.v .F (.int (0 + (i : Int)))) (fun _ => true) (fun j => .int (at0 ((places a).take b.length) ((places b).idxOf (j : Int)))) (List.range b.length) (fun _ => rfl) rfl (fun i hi => ?_) (fun i hi _ => ?_) ?_ ?_
      · walk_at "cp"
      · rw [List.mem_range] at hi
        rw [Int.zero_add]
        refine ⟨_, by walk_at "set", ?_⟩
        walk_at "wp"
        refine ⟨_, _, _, _, _, _, _, by walk_at "is", by walk_at "is", rfl, look_at (places_mem.mpr ⟨by omega, by omega⟩) (by rw [List.length_take, places_len, places_len]; omega), rfl, ?_⟩
        walk_at "wp"
        all_goals (first | exact ⟨rfl, rfl⟩ | exact rfl)
      · rw [filt_true]; exact hz
      · rw [filt_true]
        rw [show ((List.range b.length).map fun j : Nat => D.int (at0 ((places a).take b.length) ((places b).idxOf (j : Int)))) = (mat a b).map D.int from by unfold mat; rw [List.map_map]; rfl]
        walk_at "wp"
        exact fin
  · walk_at "wp"
    refine ⟨_, _, _, Is.v, Is.v, ?_⟩
    refine BoW.tt ?_
    walk_at "wp"
    have h1 := ub l hl
    have h2 := h1000 l hl
    obtain ⟨m, rfl⟩ : ∃ m : Nat, l = (m : Int) + 1 := ⟨(l - 1).toNat, by omega⟩
    rw [show (m : Int) + 1 - 1 = (m : Int) by omega]
    refine MulW.li (by walk_at "is") (by walk_at "is") elkO (by omega) (by rw [sizeLine_eq]; simp only [List.length_cons, List.length_nil]; omega) ?_
    have fin := hx m (by omega) hlt
    have e0 : (List.replicate m [D.int 0]).flatten = List.replicate m (D.int 0) := by rw [List.flatten_replicate_singleton]
    rw [e0]
    rcases he with rfl | rfl
    all_goals
      walk_at "wp"
      refine AddW.ll (by walk_at "is") (by walk_at "is") elkO elkO (by rw [List.length_replicate, sizeLine_eq]; simp only [List.length_cons, List.length_nil]; omega) ?_
      walk_at "wp"
      refine ⟨_, rfl, ?_⟩
      walk_at "wp"
      rw [List.length_map]
      rw [show fL (List.replicate m 0 ++ [b.length]) = .lst (List.replicate m (D.int 0) ++ [.int (b.length : Int)]) from by unfold fL; rw [List.map_append, List.map_replicate]; rfl] at fin
      exact fin
/-! k75: the evidence -/
theorem neD_bl (a b : Bool) : eqD true (.bl a) (.bl b) = some (.bl (decide (a ≠ b))) := by
  cases a <;> cases b <;> simp [eqD, strD, eqP, toPy, SeqAt.shaped, PyData.canLay0, PyData.depth, PyData.eqv] <;> rfl
theorem reprAny {d : D} {ts : List PyData} (h : toPy d = some (.tuple ts)) (h1 : PyData.showableAll ts = true) (h2 : PyData.hasDictAll ts = false) (h3 : PyData.depthAll ts < 50) (h4 : PyData.leavesShortAll 13 ts = true) (h5 : PyData.weightAll ts ≤ 1000000) : ∃ x, reprD d = some (.str x) := by
  have hs := PyData.shown_fits (B := 13) (d := .tuple ts) (by decide) (by decide) (by simp only [PyData.leavesShort]; exact h4) (by simp only [PyData.weight]; omega)
  refine ⟨PyData.shown (.tuple ts), ?_⟩
  unfold reprD
  rw [h]
  dsimp only
  rw [if_pos ⟨by simp only [PyData.showable]; exact h1, by simp only [PyData.hasDict]; exact h2, by simp only [PyData.depth]; omega, hs⟩]
theorem repr_pair {a b : List Int} {d e : D} (hd : SqD a d) (he : SqD b e) (ha : ∀ x ∈ a, Sh x) (hb : ∀ x ∈ b, Sh x) (la : a.length ≤ 100) (lb : b.length ≤ 100) : ∃ x, reprD2 (.tup [d, e]) = some (.str x) := by
  have w1 := wt_ints a ha
  have w2 := wt_ints b hb
  have t1 : toPy (lI a) = some (.list (a.map .int)) := by simp [toPy]
  have t2 : toPy (lI b) = some (.list (b.map .int)) := by simp [toPy]
  have t3 : toPy (.tup (a.map .int)) = some (.tuple (a.map .int)) := by simp [toPy]
  have t4 : toPy (.tup (b.map .int)) = some (.tuple (b.map .int)) := by simp [toPy]
  show ∃ x, reprD (.tup [d, e]) = some (.str x)
  rcases hd with rfl | rfl <;> rcases he with rfl | rfl
  · refine reprAny (ts := [.list (a.map .int), .list (b.map .int)]) (by simp [toPy, toPys, t1, t2]) ?_ ?_ ?_ ?_ ?_
    · simp only [PyData.showableAll, PyData.showable, show_ints a ha, show_ints b hb, Bool.and_true, Bool.and_self]
    · simp only [PyData.hasDictAll, PyData.hasDict, noDict_ints, Bool.or_false]
    · simp only [PyData.depthAll, PyData.depth, depth_ints]; decide
    · simp only [PyData.leavesShortAll, PyData.leavesShort, leaf_ints a ha, leaf_ints b hb, Bool.and_true, Bool.and_self]
    · simp only [PyData.weightAll, PyData.weight]; omega
  · refine reprAny (ts := [.list (a.map .int), .tuple (b.map .int)]) (by simp [toPy, toPys, t1, t4]) ?_ ?_ ?_ ?_ ?_
    · simp only [PyData.showableAll, PyData.showable, show_ints a ha, show_ints b hb, Bool.and_true, Bool.and_self]
    · simp only [PyData.hasDictAll, PyData.hasDict, noDict_ints, Bool.or_false]
    · simp only [PyData.depthAll, PyData.depth, depth_ints]; decide
    · simp only [PyData.leavesShortAll, PyData.leavesShort, leaf_ints a ha, leaf_ints b hb, Bool.and_true, Bool.and_self]
    · simp only [PyData.weightAll, PyData.weight]; omega
  · refine reprAny (ts := [.tuple (a.map .int), .list (b.map .int)]) (by simp [toPy, toPys, t3, t2]) ?_ ?_ ?_ ?_ ?_
    · simp only [PyData.showableAll, PyData.showable, show_ints a ha, show_ints b hb, Bool.and_true, Bool.and_self]
    · simp only [PyData.hasDictAll, PyData.hasDict, noDict_ints, Bool.or_false]
    · simp only [PyData.depthAll, PyData.depth, depth_ints]; decide
    · simp only [PyData.leavesShortAll, PyData.leavesShort, leaf_ints a ha, leaf_ints b hb, Bool.and_true, Bool.and_self]
    · simp only [PyData.weightAll, PyData.weight]; omega
  · refine reprAny (ts := [.tuple (a.map .int), .tuple (b.map .int)]) (by simp [toPy, toPys, t3, t4]) ?_ ?_ ?_ ?_ ?_
    · simp only [PyData.showableAll, PyData.showable, show_ints a ha, show_ints b hb, Bool.and_true, Bool.and_self]
    · simp only [PyData.hasDictAll, PyData.hasDict, noDict_ints, Bool.or_false]
    · simp only [PyData.depthAll, PyData.depth, depth_ints]; decide
    · simp only [PyData.leavesShortAll, PyData.leavesShort, leaf_ints a ha, leaf_ints b hb, Bool.and_true, Bool.and_self]
    · simp only [PyData.weightAll, PyData.weight]; omega
theorem atI_neg1 {α : Type} {xs : List α} {x : α} (h : xs[xs.length - 1]? = some x) : atI xs (-1) = some x := by
  have hl := (List.getElem?_eq_some_iff.mp h).1
  unfold atI ixN
  rw [if_neg (by omega), if_pos (by omega)]
  show xs[(-1 + (xs.length : Int)).toNat]? = some x
  rw [show (-1 + (xs.length : Int)).toNat = xs.length - 1 by omega]
  exact h
theorem srv_last {a : List Int} (ua : Up a) (m n : Nat) : atI ((srvS a (List.replicate m 0 ++ [n])).map D.int) (-1) = some (.int (min n (ge ((m : Int) + 1) a) : Nat)) := by
  refine atI_neg1 ?_
  have hl : ((srvS a (List.replicate m 0 ++ [n])).map D.int).length = m + 1 := by rw [List.length_map, srvS_len]; simp
  rw [hl, show m + 1 - 1 = m by omega, srv_at (by simp), srvS_end ua m n []]
theorem min_zero {ns : List Int} (h : ∀ x ∈ ns, 0 ≤ x) : (0 :: ns).min? = some 0 := by
  rw [List.min?_eq_some_iff]
  refine ⟨List.mem_cons_self, fun b hb => ?_⟩
  rcases List.mem_cons.mp hb with rfl | hb
  · exact Int.le_refl _
  · exact h b hb
def rgE : Sm := (sSeq (sSet 7 (eIf (eIsE [1] (fun c => decide (c ∈ ([1] : List Nat))) (eVar 4)) (eErr 1 (eVar 4)) eN))
    (sSeq (sIf (eOr (eNot (eIsi .lst (eVar 7))) (eNe (eComp (itSeq (eF (eVar 7))) [8] (tgN 8) (eNot (eCall den__law_is_number [.b] (gCons (eVar 8) gNil))) (eF (eVar 8))) (eLst gNil)))
    (sRet (eC (.bl false)))
    sNil)
    (sSeq (sIf (eLt (eMin1 (eAdd (eLst (gCons (eC (.int 0)) gNil)) (eVar 7))) (eC (.int 0)))
    (sRet (eC (.bl false)))
    sNil)
    (sRet (eAnd (eNe (eVar 7) (eLst gNil)) (eLt (eIdx (eCall den__law_served [.b, .b] (gCons (eVar 0) (gCons (eVar 7) gNil))) (eNeg (eC (.int 1)))) (eIdx (eCall den__law_served [.b, .b] (gCons (eVar 1) (gCons (eVar 7) gNil))) (eNeg (eC (.int 1))))))))))
def rgF : Sm := (sSeq (sIf (eOr (eNot (eIsi .lst (eVar 5))) (eOr (eNe (eLen (eVar 5)) (eLen (eVar 1))) (eNe (eLenSet (eVar 5)) (eLen (eVar 5)))))
    (sRet (eC (.bl false)))
    sNil)
    (sSeq (sIf (eNe (eComp (itSeq (eF (eVar 5))) [9] (tgN 9) (eOr (eNot (eCall den__law_is_number [.b] (gCons (eVar 9) gNil))) (eGe (eVar 9) (eLen (eVar 0)))) (eF (eVar 9))) (eLst gNil))
    (sRet (eC (.bl false)))
    sNil)
    (sRet (eEq (eComp (itR1 (eLen (eVar 1))) [10] (tgN 10) (eLt (eIdx (eVar 0) (eIdx (eVar 5) (eVar 10))) (eIdx (eVar 1) (eVar 10))) (eF (eVar 10))) (eLst gNil)))))
def rgR : Sm := (sSeq (sIf (eNotN (eVar 4) eN) rgE sNil) rgF)
theorem right_eq : d__law_right = (sSeq (sSet 3 (eRepr2 (eTup (gCons (eF (eVar 0)) (gCons (eF (eVar 1)) gNil)))))
    (sSeq (sIf (eNe (eRepr2 (eCall den_never_worse [.b, .b] (gCons (eVar 0) (gCons (eVar 1) gNil)))) (eRepr2 (eVar 2)))
    (sRet (eC (.bl false)))
    sNil)
    (sSeq (sAsg (tgTup (tgsCons (tgN 4) (tgsCons (tgN 5) tgsNil))) (eTup (gCons eN (gCons eN gNil))))
    (sSeq (sTryK [1] (fun c => decide (c ∈ ([1] : List Nat))) 6 4
    (sSet 5 (eCall den_matching [.b, .b] (gCons (eVar 0) (gCons (eVar 1) gNil)))))
    (sSeq (sIf (eOr (eNe (eRepr2 (eTup (gCons (eF (eVar 0)) (gCons (eF (eVar 1)) gNil)))) (eVar 3)) (eNe (eIsN (eVar 4) eN) (eVar 2)))
    (sRet (eC (.bl false)))
    sNil)
    rgR))))) := rfl
theorem neD_nats (L : List Nat) : eqD true (.lst (L.map nD)) (.lst []) = some (.bl (decide (L.map (fun n : Nat => (n : Int)) ≠ []))) := by
  have hall : L.map nD = (L.map fun n : Nat => (n : Int)).map D.int := by rw [List.map_map]; rfl
  rw [hall]
  exact neD_lints _ []
theorem tryKW_yes {kn : List Nat} {sub : Nat → Bool} {j y : Nat} {N : Ss → Prop} {X : PX} {e : Er} {ρ1 : Ss} (h1 : e.c ∈ kn) (h2 : sub e.c = true) (h3 : j < ρ1.length) (h4 : y < ρ1.length) (h : N ((ρ1.set j none).set y (some (.v .F (.err e.c e.ds))))) : TryKW kn sub j y N X e ρ1 := ⟨h1, by rw [if_pos h2]; exact ⟨h3, h4, _, rfl, h⟩⟩
/-- the error -/
theorem rgE_ok {a b : List Int} {d e : D} {m : Nat} {x2 x3 v5 : Option PV.Tm} {N : Ss → Prop} {R : PV.Tm → Ss → Prop} {B C : Ss → Prop} {X : PX} (hd : SqD a d) (he : SqD b e) (la : a.length ≤ 60) (lb : b.length ≤ 60) (ua : Up a) (ub : Up b) (hm : m ≤ 999) (hlt : ge ((m : Int) + 1) a < ge ((m : Int) + 1) b)
    (h : ∀ ρ, ρ.length = 11 → R (.v .F (.bl true)) ρ) : SW rgE [some (.v .F d), some (.v .F e), x2, x3, some (.v .F (.err 1 [fL (List.replicate m 0 ++ [b.length])])), v5, none, none, none, none, none] N R B C X := by
  unfold rgE
  walk_at "wp"
  refine ⟨_, _, _, Is.v, List.mem_singleton.mpr rfl, ?_⟩
  refine BoW.tt ?_
  walk_at "wp"
  refine ⟨_, rfl, ?_⟩
  unfold fL
  have hall : (List.map nD (List.replicate m 0 ++ [b.length])) = ((List.replicate m 0 ++ [b.length]).map fun n : Nat => (n : Int)).map D.int := by rw [List.map_map]; rfl
  walk_at "wp"
  refine ⟨_, _, _, Is.v, rfl, ?_⟩
  refine NotW.b ?_
  refine BoW.ff ?_
  walk_at "wp"
  rw [List.map_map]
  refine CpW.map (inj := PV.Tm.v .F ∘ nD) (fun _ => false) nD (List.replicate m 0 ++ [b.length]) (fun _ => rfl) rfl (fun n hn => ?_) (fun n hn q => by cases q) (by simp) ?_
  · show ∃ ρ2, List.set _ _ (some (PV.Tm.v .F (.int (n : Int)))) = ρ2 ∧ _
    refine ⟨_, by walk_at "set", ?_⟩
    unfold nD
    walk_at "wp"
    refine FW.isnum (i := (n : Int)) (k := .F) (Int.natCast_nonneg n) ?_
    walk_at "wp"
    all_goals (first | exact ⟨rfl, rfl⟩ | exact rfl)
  · rw [List.filter_eq_nil_iff.mpr (fun x hx => by simp), List.map_nil]
    walk_at "wp"
    refine ⟨_, _, _, _, _, Is.v, Is.v, neD_lints [] [], ?_⟩
    refine BoW.d (fun hc => absurd rfl hc) fun _ => ?_
    walk_at "wp"
    refine AddW.ll (by walk_at "is") (by walk_at "is") elkO elkF (by rw [List.length_map, List.length_append, List.length_replicate, sizeLine_eq]; simp only [List.length_cons, List.length_nil]; omega) ?_
    have e1 : [D.int 0] ++ List.map nD (List.replicate m 0 ++ [b.length]) = (0 :: (List.replicate m 0 ++ [b.length]).map fun n : Nat => (n : Int)).map D.int := by rw [hall]; rfl
    rw [e1]
    refine ⟨_, _, 0, Is.v, min_zero (fun x hx => by obtain ⟨n, _, rfl⟩ := List.mem_map.mp hx; omega), ?_⟩
    walk_at "wp"
    refine BoW.d (fun hc => by omega) fun _ => ?_
    walk_at "wp"
    refine ⟨_, _, _, _, _, Is.v, Is.v, neD_nats _, ?_⟩
    refine BoW.d (fun _ => ?_) fun hc => absurd (by simp) hc
    walk_at "wp"
    refine FW.served hd (by omega) (by rw [List.length_append, List.length_replicate]; simp only [List.length_cons, List.length_nil]; omega) ?_
    walk_at "wp"
    refine IdxW.lO (by walk_at "is") (by walk_at "is") (srv_last ua m b.length) ?_
    walk_at "wp"
    refine FW.served he (by omega) (by rw [List.length_append, List.length_replicate]; simp only [List.length_cons, List.length_nil]; omega) ?_
    walk_at "wp"
    refine IdxW.lO (by walk_at "is") (by walk_at "is") (srv_last ub m b.length) ?_
    walk_at "wp"
    have g1 := ge_len (l := (m : Int) + 1) b
    rw [decide_eq_true (by omega)]
    exact h _ rfl
/-! k75: the matching is right -/
theorem ints_at {a : List Int} {i : Nat} (h : i < a.length) : (a.map D.int)[i]? = some (.int (at0 a i)) := by
  rw [List.getElem?_map, at0_get h]
  rfl
theorem rgF_ok {a b : List Int} {d e : D} {x2 x3 : Option PV.Tm} {N : Ss → Prop} {R : PV.Tm → Ss → Prop} {B C : Ss → Prop} {X : PX} (hd : SqD a d) (he : SqD b e) (la : a.length ≤ 60) (lb : b.length ≤ 60) (ub : Up b) (hD : Dom a b)
    (h : ∀ ρ, ρ.length = 11 → R (.v .F (.bl true)) ρ) : SW rgF [some (.v .F d), some (.v .F e), x2, x3, some (.v .F .non), some (.v .O (lI (mat a b))), none, none, none, none, none] N R B C X := by
  have hab := (dom_iff ub).mp hD
  have ml := mat_len a b
  have mm := mat_mem (a := a) (b := b) hab.1
  unfold rgF
  rcases hd with rfl | rfl <;> rcases he with rfl | rfl
  all_goals
    walk_at "wp"
    refine ⟨_, _, _, Is.loc rfl, rfl, ?_⟩
    refine NotW.b ?_
    refine BoW.ff ?_
    walk_at "wp"
    refine ⟨_, _, _, _, _, Is.v, Is.v, neD_int _ _, ?_⟩
    rw [List.length_map, List.length_map, ml]
    refine BoW.d (fun hc => absurd rfl hc) fun _ => ?_
    walk_at "wp"
    refine ⟨_, mat a b, Is.loc rfl, by omega, mat_nd hab.1, ?_⟩
    walk_at "wp"
    refine ⟨_, _, _, _, _, Is.v, Is.v, neD_int _ _, ?_⟩
    rw [List.length_map]
    refine BoW.d (fun hc => absurd rfl hc) fun _ => ?_
    walk_at "wp"
    refine CpW.ints (fun _ => false) (fun x => .int x) (mat a b) rfl (fun x hx => ?_) (fun x hx q => by cases q) (by rw [List.filter_eq_nil_iff.mpr (fun x hx => by simp)]; exact Nat.zero_le _) ?_
    · obtain ⟨h0, h1⟩ := mm x hx
      refine ⟨_, by walk_at "set", ?_⟩
      walk_at "wp"
      refine FW.isnum (k := .F) h0 ?_
      walk_at "wp"
      refine BoW.ff ?_
      walk_at "wp"
      rw [List.length_map, decide_eq_false (by omega)]
      all_goals (first | exact ⟨rfl, rfl⟩ | exact rfl)
    · rw [List.filter_eq_nil_iff.mpr (fun x hx => by simp), List.map_nil]
      walk_at "wp"
      refine ⟨_, _, _, _, _, Is.v, Is.v, neD_lints [] [], ?_⟩
      refine BoW.d (fun hc => absurd rfl hc) fun _ => ?_
      walk_at "wp"
      rw [List.length_map]
      refine R1W.go (by omega) ?_
      rw [Int.toNat_natCast]
      unfold rngL
      refine CpW.map (inj := fun i : Nat => PV.Tm.v .F (.int (0 + (i : Int)))) (fun j => decide (at0 a (at0 (mat a b) j).toNat < at0 b j)) (fun i => .int (i : Int)) (List.range b.length) (fun _ => rfl) rfl (fun i hi => ?_) (fun i hi _ => ?_) ?_ ?_
      · rw [List.mem_range] at hi
        rw [Int.zero_add]
        refine ⟨_, by walk_at "set", ?_⟩
        obtain ⟨h0, h1⟩ := mm _ (at0_mem (xs := mat a b) (i := i) (by omega))
        obtain ⟨n, hn⟩ := Int.eq_ofNat_of_zero_le h0
        walk_at "wp"
        refine IdxW.lF (by walk_at "is") (by walk_at "is") (atN (ints_at (by omega))) ?_
        rw [hn, Int.toNat_natCast]
        first
          | refine IdxW.lF (by walk_at "is") (by walk_at "is") (atN (ints_at (by omega))) ?_
          | refine IdxW.tF (by walk_at "is") (by walk_at "is") (atN (ints_at (by omega))) ?_
        walk_at "wp"
        first
          | refine IdxW.lF (by walk_at "is") (by walk_at "is") (atN (ints_at (by omega))) ?_
          | refine IdxW.tF (by walk_at "is") (by walk_at "is") (atN (ints_at (by omega))) ?_
        walk_at "wp"
        all_goals (first | exact ⟨rfl, rfl⟩ | exact rfl)
      · rw [Int.zero_add]
        walk_at "cp"
      · rw [List.length_map, sizeLine_eq]
        have := List.length_filter_le (fun j => decide (at0 a (at0 (mat a b) j).toNat < at0 b j)) (List.range b.length)
        rw [List.length_range] at this
        omega
      · have e0 : ((List.range b.length).filter fun j => decide (at0 a (at0 (mat a b) j).toNat < at0 b j)) = [] := by
          rw [List.filter_eq_nil_iff]
          intro j hj
          have := mat_le ub hD (List.mem_range.mp hj)
          simp only [decide_eq_true_eq]
          omega
        rw [e0, List.map_nil]
        walk_at "wp"
        refine ⟨_, _, _, _, _, Is.v, Is.v, eqD_lints [] [], ?_⟩
        exact h _ rfl
theorem right_ok {a b : List Int} {d e : D} {P : PV.Tm → List PV.Tm → Prop} {X : Er → List PV.Tm → Prop} (hd : SqD a d) (he : SqD b e) (la : a.length ≤ 60) (lb : b.length ≤ 60) (ua : Up a) (ub : Up b) (a1 : ∀ x ∈ a, x ≤ 100) (b1 : ∀ x ∈ b, x ≤ 100)
    (h : P (.v .F (.bl true)) []) : FW den__law_right [.v .F d, .v .F e, .v .B (.bl (domb a b))] P X := by
  refine FW.def (ρ0 := [some (.v .F d), some (.v .F e), some (.v .B (.bl (domb a b))), none, none, none, none, none, none, none, none]) rfl ?_
  rw [right_eq]
  obtain ⟨tx, hx⟩ := repr_pair hd he (fun x hx => by have := ua x hx; have := a1 x hx; unfold Sh; omega) (fun x hx => by have := ub x hx; have := b1 x hx; unfold Sh; omega) (by omega) (by omega)
  walk_at "wp"
  refine Rp2W.go (by walk_at "is") hx ?_
  walk_at "wp"
  refine FW.never hd he (by omega) (by omega) ub ?_
  walk_at "wp"
  refine Rp2W.bl (by walk_at "is") ?_
  walk_at "wp"
  refine Rp2W.bl (by walk_at "is") ?_
  walk_at "wp"
  refine ⟨_, _, _, _, _, Is.v, Is.v, neD_str _ _, ?_⟩
  refine BoW.d (fun hc => absurd rfl hc) fun _ => ?_
  walk_at "wp"
  refine SW.tryK ?_
  walk_at "wp"
  refine match_ok hd he (by omega) (by omega) ub (fun hD => ?_) (fun m hm hlt => ?_) (fun x hx => by have := b1 x hx; omega)
  · walk_at "wp"
    refine Rp2W.go (by walk_at "is") hx ?_
    walk_at "wp"
    refine ⟨_, _, _, _, _, Is.v, Is.v, neD_str _ _, ?_⟩
    refine BoW.d (fun hc => absurd rfl hc) fun _ => ?_
    walk_at "wp"
    refine ⟨_, _, _, Is.v, Is.v, ?_⟩
    walk_at "wp"
    refine ⟨_, _, _, _, _, Is.v, Is.v, neD_bl _ _, ?_⟩
    rw [(domb_iff ub).mpr hD]
    refine BoW.d (fun hc => absurd rfl hc) fun _ => ?_
    walk_at "wp"
    unfold rgR
    walk_at "wp"
    refine ⟨_, _, _, Is.v, Is.v, ?_⟩
    refine BoW.ff ?_
    walk_at "wp"
    refine rgF_ok hd he la lb ub hD fun ρ hρ => ?_
    walk_at "wp"
    exact h
  · walk_at "wp"
    refine tryKW_yes (List.mem_singleton.mpr rfl) (by rfl) (by walk_at "lt") (by walk_at "lt") ?_
    simp only [List.set_cons_succ, List.set_cons_zero]
    walk_at "wp"
    refine Rp2W.go (by walk_at "is") hx ?_
    walk_at "wp"
    refine ⟨_, _, _, _, _, Is.v, Is.v, neD_str _ _, ?_⟩
    refine BoW.d (fun hc => absurd rfl hc) fun _ => ?_
    walk_at "wp"
    refine ⟨_, _, _, Is.v, Is.v, ?_⟩
    walk_at "wp"
    refine ⟨_, _, _, _, _, Is.v, Is.v, neD_bl _ _, ?_⟩
    have hn : domb a b = false := by
      cases q : domb a b with
      | false => rfl
      | true => have := (domb_iff ub).mp q ((m : Int) + 1) (by omega); omega
    rw [hn]
    refine BoW.d (fun hc => absurd rfl hc) fun _ => ?_
    walk_at "wp"
    unfold rgR
    walk_at "wp"
    refine ⟨_, _, _, Is.v, Is.v, ?_⟩
    refine BoW.tt ?_
    refine rgE_ok hd he la lb ua ub hm hlt fun ρ hρ => ?_
    walk_at "wp"
    exact h
/-! k75: the law's turn -/
def XO (x : Option PV.Tm) : Prop := x = none ∨ ∃ d : D, x = some (.v .F d)
theorem lwHide {x0 x1 x2 x3 x4 x5 x6 x7 x8 : Option PV.Tm} (h : XO x7) : hideOk [x0, x1, x2, x3, x4, x5, x6, x7, x8, none] 7 = true := by
  rcases h with rfl | ⟨d, rfl⟩ <;> rfl
/-- a list of draws, 1 + each -/
theorem draws_ok {m : Nat} {M : Int} {x0 x1 x3 x4 x5 x6 x7 x8 : Option PV.Tm} {d s : Int} {P : PV.Tm → Ss → Prop} {X : PX} (hm : 0 < m) (hm2 : m < 1000) (hM : 0 < M) (hM2 : M < 1000)
    (h : ∀ (a : List Int) d s, a.length < m → Up a → (∀ x ∈ a, x ≤ M) → P (.v .O (lI a)) [x0, x1, some (feedT d s), x3, x4, x5, x6, x7, x8, none]) :
    EW (eComp (itR1 (eCall den__law_take [.io, .b] (gCons (eVar 2) (gCons (eC (.int (m : Int))) gNil)))) [9] (tgN 9) eTrue (eAdd (eC (.int 1)) (eCall den__law_take [.io, .b] (gCons (eVar 2) (gCons (eC (.int M)) gNil))))) [x0, x1, some (feedT d s), x3, x4, x5, x6, x7, x8, none] P X := by
  refine EW.comp ?_
  walk_at "wp"
  refine FW.tk (by omega) (by omega) fun r d s lo hi => ?_
  walk_at "wp"
  obtain ⟨n, rfl⟩ := Int.eq_ofNat_of_zero_le lo
  rw [Int.toNat_natCast]
  unfold rngL
  refine CoW.go (inj := fun i : Nat => PV.Tm.v .F (.int (0 + (i : Int)))) (fun p es ρ => ∃ (a : List Int) (d s : Int), ρ = [x0, x1, some (feedT d s), x3, x4, x5, x6, x7, x8, none] ∧ es = a.map .int ∧ a.length = p.length ∧ Up a ∧ ∀ x ∈ a, x ≤ M) (List.range n) ⟨_, wip1 (by walk_at "set"), [], d, s, rfl, rfl, rfl, fun x hx => absurd hx List.not_mem_nil, fun x hx => absurd hx List.not_mem_nil⟩ ?_ ?_
  · rintro p x q es ρ hp ⟨a, d, s, rfl, rfl, h1, h2, h3⟩
    walk_at "wp"
    refine FW.tk (by omega) (by omega) fun r d s lo hi => ?_
    walk_at "wp"
    refine ⟨_, wip1 (by walk_at "set"), a ++ [1 + r], d, s, rfl, by rw [List.map_append]; rfl, by rw [List.length_append, List.length_append, h1]; rfl, fun y hy => ?_, fun y hy => ?_⟩
    · rcases List.mem_append.mp hy with hy | hy
      · exact h2 y hy
      · rw [List.mem_singleton.mp hy]; omega
    · rcases List.mem_append.mp hy with hy | hy
      · exact h3 y hy
      · rw [List.mem_singleton.mp hy]; omega
  rintro es ρ ⟨a, d, s, rfl, rfl, h1, h2, h3⟩
  rw [List.length_range] at h1
  refine ⟨by rw [List.length_map, sizeLine_eq]; omega, _, rfl, ?_⟩
  walk_at "wp"
  exact h a _ _ (by omega) h2 h3
/-- the first stock turned, made shorter -/
theorem short_draws {a : List Int} {M B : Int} {x0 x1 x4 x5 x6 x7 x8 : Option PV.Tm} {d s : Int} {P : PV.Tm → Ss → Prop} {X : PX} (h7 : XO x7) (hM : 0 < M) (hM2 : M < 1000) (hB : 1 ≤ B) (hl : a.length ≤ 60) (hb : ∀ x ∈ a, x ≤ B)
    (h : ∀ (b : List Int) d s, b.length = a.length → Up b → (∀ x ∈ b, x ≤ B) → P (.v .O (lI b)) [x0, x1, some (feedT d s), some (.v .O (lI a)), x4, x5, x6, x7, x8, none]) :
    EW (eComp (itSeq (eRev (eVar 3))) [7] (tgN 7) eTrue (eMax2 (eC (.int 1)) (eSub (eVar 7) (eCall den__law_take [.io, .b] (gCons (eVar 2) (gCons (eC (.int M)) gNil)))))) [x0, x1, some (feedT d s), some (.v .O (lI a)), x4, x5, x6, x7, x8, none] P X := by
  refine EW.comp ?_
  walk_at "wp"
  refine ⟨_, _, Is.loc rfl, elkO, ?_⟩
  refine ItsW.lstO ?_
  refine ⟨by simp only [List.all_cons, List.all_nil, Bool.and_true]; exact lwHide h7, ?_⟩
  rw [← List.map_reverse]
  refine CoW.data (k := .F) (f := D.int) (fun p es ρ => ∃ (b : List Int) (d s : Int), ρ = [x0, x1, some (feedT d s), some (.v .O (lI a)), x4, x5, x6, none, x8, none] ∧ es = b.map .int ∧ b.length = p.length ∧ Up b ∧ ∀ x ∈ b, x ≤ B) a.reverse ⟨_, wip1 (by walk_at "set"), [], d, s, rfl, rfl, rfl, fun x hx => absurd hx List.not_mem_nil, fun x hx => absurd hx List.not_mem_nil⟩ ?_ ?_
  · rintro p x q es ρ hp ⟨b, d, s, rfl, rfl, h1, h2, h3⟩
    have hx := hb x (List.mem_reverse.mp (by rw [hp]; simp))
    walk_at "wp"
    refine FW.tk (by omega) (by omega) fun r d s lo hi => ?_
    walk_at "wp"
    refine ⟨_, wip1 (by walk_at "set"), b ++ [max 1 (x - r)], d, s, rfl, by rw [List.map_append]; rfl, by rw [List.length_append, List.length_append, h1]; rfl, fun y hy => ?_, fun y hy => ?_⟩
    · rcases List.mem_append.mp hy with hy | hy
      · exact h2 y hy
      · rw [List.mem_singleton.mp hy]; omega
    · rcases List.mem_append.mp hy with hy | hy
      · exact h3 y hy
      · rw [List.mem_singleton.mp hy]; omega
  rintro es ρ ⟨b, d, s, rfl, rfl, h1, h2, h3⟩
  rw [List.length_reverse] at h1
  refine ⟨by rw [List.length_map, sizeLine_eq]; omega, _, rst1 rfl (by walk_at "set"), ?_⟩
  exact h b _ _ h1 h2 h3
def lwD : Sm := (sSeq (sSet 6 (eLst (gCons (eTup (gCons (eF (eVar 3)) (gCons (eF (eVar 4)) gNil))) (gCons (eTup (gCons (eF (eVar 4)) (gCons (eF (eVar 3)) gNil))) (gCons (eTup (gCons (eF (eVar 3)) (gCons (eF (eVar 3)) gNil))) gNil)))))
    (sFor (itSeq (eAdd (eVar 6) (eLst (gCons (eTup (gCons (eF (eVar 3)) (gCons (eLst gNil) gNil))) (gCons (eTup (gCons (eLst gNil) (gCons (eF (eVar 3)) gNil))) gNil))))) (tgTup (tgsCons (tgN 7) (tgsCons (tgN 8) tgsNil)))
    (sIf (eNot (eCall den__law_right [.f, .f, .b] (gCons (eF (eVar 7)) (gCons (eF (eVar 8)) (gCons (eCall den__law_dominates [.b, .b] (gCons (eVar 7) (gCons (eVar 8) gNil))) gNil)))))
    (sRet (eC (.bl false)))
    sNil)))
structure Stk (a : List Int) : Prop where
  up : Up a
  hi : ∀ x ∈ a, x ≤ 100
  len : a.length ≤ 60
theorem Stk.nil : Stk [] := ⟨fun x hx => absurd hx List.not_mem_nil, fun x hx => absurd hx List.not_mem_nil, by simp⟩
def pL (p : List Int × List Int) : D := .tup [lI p.1, lI p.2]
theorem lwD_ok {a b : List Int} {x0 x1 x2 x5 x6 x7 x8 : Option PV.Tm} {N : Ss → Prop} {R : PV.Tm → Ss → Prop} {B C : Ss → Prop} {X : PX} (sa : Stk a) (sb : Stk b)
    (h : ∀ v3 v4 v6 v7 v8, XO v7 → N [x0, x1, x2, v3, v4, x5, v6, v7, v8, none]) (h7 : XO x7) : SW lwD [x0, x1, x2, some (.v .O (lI a)), some (.v .O (lI b)), x5, x6, x7, x8, none] N R B C X := by
  unfold lwD
  walk_at "wp"
  refine AddW.ll (by walk_at "is") (by walk_at "is") elkO elkO (by rw [sizeLine_eq]; simp only [List.length_cons, List.length_nil]; omega) ?_
  refine ItsW.lstO ?_
  refine ForW.data (k := .F) (f := pL) (fun p ρ => ∃ v7 v8, XO v7 ∧ ρ = [x0, x1, x2, some (.v .F (lI a)), some (.v .F (lI b)), x5, some (.v .O (.lst [pL (a, b), pL (b, a), pL (a, a)])), v7, v8, none]) [(a, b), (b, a), (a, a), (a, []), ([], a)] ⟨x7, x8, h7, rfl⟩ ?_ ?_
  · rintro p ⟨c, e⟩ q ρ hp ⟨v7, v8, hv7, rfl⟩
    have hm : (c, e) ∈ [(a, b), (b, a), (a, a), (a, []), ([], a)] := by rw [hp]; simp
    have hs : Stk c ∧ Stk e := by
      simp only [List.mem_cons, Prod.mk.injEq, List.not_mem_nil, or_false] at hm
      rcases hm with ⟨rfl, rfl⟩ | ⟨rfl, rfl⟩ | ⟨rfl, rfl⟩ | ⟨rfl, rfl⟩ | ⟨rfl, rfl⟩
      · exact ⟨sa, sb⟩
      · exact ⟨sb, sa⟩
      · exact ⟨sa, sa⟩
      · exact ⟨sa, .nil⟩
      · exact ⟨.nil, sa⟩
    obtain ⟨sc, se⟩ := hs
    have lc := sc.len
    have le := se.len
    unfold pL
    walk_at "wp"
    refine FW.dominates (a := c) (b := e) (.inl rfl) (.inl rfl) (by omega) (by omega) ?_
    walk_at "wp"
    refine right_ok (a := c) (b := e) (.inl rfl) (.inl rfl) lc le sc.up se.up sc.hi se.hi ?_
    walk_at "wp"
    refine BoW.ff ?_
    walk_at "wp"
    exact ⟨_, _, .inr ⟨_, rfl⟩, rfl⟩
  · rintro ρ ⟨v7, v8, hv7, rfl⟩
    exact h _ _ _ _ _ hv7
def lwC : Sm := (sSeq (sSet 3 (eComp (itR1 (eCall den__law_take [.io, .b] (gCons (eVar 2) (gCons (eC (.int 61)) gNil)))) [9] (tgN 9) eTrue (eAdd (eC (.int 1)) (eCall den__law_take [.io, .b] (gCons (eVar 2) (gCons (eC (.int 100)) gNil))))))
    (sSeq (sSet 4 (eComp (itSeq (eRev (eVar 3))) [7] (tgN 7) eTrue (eMax2 (eC (.int 1)) (eSub (eVar 7) (eCall den__law_take [.io, .b] (gCons (eVar 2) (gCons (eC (.int 9)) gNil)))))))
    (sSeq (sIf (eAnd (eNe (eVar 4) (eLst gNil)) (eEq (eCall den__law_take [.io, .b] (gCons (eVar 2) (gCons (eC (.int 2)) gNil))) (eC (.int 0))))
    (sAsg (tgSub 4 (eCall den__law_take [.io, .b] (gCons (eVar 2) (gCons (eLen (eVar 4)) gNil)))) (eC (.int 100)))
    sNil)
    lwD)))
theorem ix_at {n i : Nat} (h : i < n) : ixN n (i : Int) = some i := by
  unfold ixN
  rw [if_pos (by omega)]
  simp <;> omega
theorem stk_set {b : List Int} (h : Stk b) (i : Nat) : Stk (b.set i 100) := by
  refine ⟨fun x hx => ?_, fun x hx => ?_, by rw [List.length_set]; exact h.len⟩
  · rcases List.mem_or_eq_of_mem_set hx with hx | rfl
    · exact h.up x hx
    · omega
  · rcases List.mem_or_eq_of_mem_set hx with hx | rfl
    · exact h.hi x hx
    · omega
theorem lwC_ok {x0 x1 x3 x4 x5 x6 x7 x8 : Option PV.Tm} {d s : Int} {N : Ss → Prop} {R : PV.Tm → Ss → Prop} {B C : Ss → Prop} {X : PX}
    (h : ∀ d s v3 v4 v6 v7 v8, XO v7 → N [x0, x1, some (feedT d s), v3, v4, x5, v6, v7, v8, none]) (h7 : XO x7) : SW lwC [x0, x1, some (feedT d s), x3, x4, x5, x6, x7, x8, none] N R B C X := by
  unfold lwC
  refine SW.seq (SW.set ?_)
  refine draws_ok (m := 61) (M := 100) (by omega) (by omega) (by omega) (by omega) fun a d s la ua ha => ?_
  refine ⟨rfl, by walk_at "lt", _, by walk_at "set", ?_⟩
  refine SW.seq (SW.set ?_)
  refine short_draws (M := 9) (B := 100) h7 (by omega) (by omega) (by omega) (by omega) ha fun b d s lb ub hb => ?_
  have sa : Stk a := ⟨ua, ha, by omega⟩
  have sb : Stk b := ⟨ub, hb, by omega⟩
  have lb60 := sb.len
  walk_at "wp"
  refine ⟨_, _, _, _, _, Is.loc rfl, Is.v, neD_lints b [], ?_⟩
  refine BoW.d (fun hne => ?_) fun hne => ?_
  · walk_at "wp"
    refine FW.tk (by omega) (by omega) fun r d s lo hi => ?_
    walk_at "wp"
    refine ⟨_, _, _, _, _, Is.v, Is.v, eqD_int _ _, ?_⟩
    refine BoW.d (fun hz => ?_) fun hz => ?_
    · walk_at "wp"
      have hpos : 0 < b.length := by cases b with | nil => exact absurd rfl hne | cons _ _ => simp
      refine FW.tk (by rw [List.length_map]; omega) (by rw [List.length_map]; omega) fun r d s lo hi => ?_
      rw [List.length_map] at hi
      obtain ⟨n, rfl⟩ := Int.eq_ofNat_of_zero_le lo
      walk_at "wp"
      refine ⟨_, n, rfl, ix_at (by rw [List.length_map]; omega), _, by walk_at "set", ?_⟩
      rw [show (b.map D.int).set n (.int 100) = (b.set n 100).map D.int from (List.map_set).symm]
      exact lwD_ok sa (stk_set sb n) (fun v3 v4 v6 v7 v8 hv => h d s v3 v4 v6 v7 v8 hv) h7
    · walk_at "wp"
      exact lwD_ok sa sb (fun v3 v4 v6 v7 v8 hv => h d s v3 v4 v6 v7 v8 hv) h7
  · walk_at "wp"
    exact lwD_ok sa sb (fun v3 v4 v6 v7 v8 hv => h d s v3 v4 v6 v7 v8 hv) h7
def lwB : Sm := (sSeq (sSet 5 (eCall den__law_never [.b, .b] (gCons (eVar 3) (gCons (eVar 4) gNil))))
    (sSeq (sIf (eOr (eNe (eVar 5) (eCall den__law_dominates [.b, .b] (gCons (eVar 3) (gCons (eVar 4) gNil)))) (eNot (eCall den__law_right [.f, .f, .b] (gCons (eF (eVar 3)) (gCons (eF (eVar 4)) (gCons (eVar 5) gNil))))))
    (sRet (eC (.bl false)))
    sNil)
    (sSeq (sIf (eOr (eNot (eCall den__law_right [.f, .f, .b] (gCons (eF (eTuple (eVar 3))) (gCons (eF (eVar 4)) (gCons (eVar 5) gNil))))) (eNot (eCall den__law_right [.f, .f, .b] (gCons (eF (eVar 3)) (gCons (eF (eTuple (eVar 4))) (gCons (eVar 5) gNil))))))
    (sRet (eC (.bl false)))
    sNil)
    lwC)))
theorem lwB_ok {a b : List Int} {x0 x1 x5 x6 x7 x8 : Option PV.Tm} {d s : Int} {N : Ss → Prop} {R : PV.Tm → Ss → Prop} {B C : Ss → Prop} {X : PX} (sa : Stk a) (sb : Stk b) (lb3 : b.length ≤ 3) (b4 : ∀ x ∈ b, x ≤ 4)
    (h : ∀ d s v3 v4 v5 v6 v7 v8, XO v7 → N [x0, x1, some (feedT d s), v3, v4, v5, v6, v7, v8, none]) (h7 : XO x7) : SW lwB [x0, x1, some (feedT d s), some (.v .O (lI a)), some (.v .O (lI b)), x5, x6, x7, x8, none] N R B C X := by
  have la := sa.len
  have lb := sb.len
  unfold lwB
  walk_at "wp"
  refine FW.never4 (by omega) lb3 ?_
  rw [never_dom sa.up sb.up b4]
  walk_at "wp"
  refine FW.dominates (.inl rfl) (.inl rfl) (by omega) (by omega) ?_
  walk_at "wp"
  refine ⟨_, _, _, _, _, by walk_at "is", Is.v, neD_bl _ _, ?_⟩
  refine BoW.d (fun hc => absurd rfl hc) fun _ => ?_
  walk_at "wp"
  refine right_ok (.inl rfl) (.inl rfl) la lb sa.up sb.up sa.hi sb.hi ?_
  walk_at "wp"
  refine BoW.ff ?_
  walk_at "wp"
  refine ⟨_, _, .inl Is.v, elkF, ?_⟩
  walk_at "wp"
  refine right_ok (.inr rfl) (.inl rfl) la lb sa.up sb.up sa.hi sb.hi ?_
  walk_at "wp"
  refine BoW.ff ?_
  walk_at "wp"
  refine ⟨_, _, .inl Is.v, elkF, ?_⟩
  walk_at "wp"
  refine right_ok (.inl rfl) (.inr rfl) la lb sa.up sb.up sa.hi sb.hi ?_
  walk_at "wp"
  refine BoW.ff ?_
  walk_at "wp"
  exact lwC_ok (fun d s v3 v4 v6 v7 v8 hv => h d s v3 v4 _ v6 v7 v8 hv) h7
/-! k75: the law -/
def lwA : Sm := (sSeq (sSet 2 (eCall den__law_feed [.b, .b] (gCons (eVar 0) (gCons (eVar 1) gNil))))
    (sSeq (sSet 3 (eComp (itR1 (eCall den__law_take [.io, .b] (gCons (eVar 2) (gCons (eC (.int 5)) gNil)))) [9] (tgN 9) eTrue (eAdd (eC (.int 1)) (eCall den__law_take [.io, .b] (gCons (eVar 2) (gCons (eC (.int 4)) gNil))))))
    (sSeq (sSet 4 (eComp (itR1 (eCall den__law_take [.io, .b] (gCons (eVar 2) (gCons (eC (.int 4)) gNil)))) [9] (tgN 9) eTrue (eAdd (eC (.int 1)) (eCall den__law_take [.io, .b] (gCons (eVar 2) (gCons (eC (.int 4)) gNil))))))
    (sSeq (sIf (eEq (eCall den__law_take [.io, .b] (gCons (eVar 2) (gCons (eC (.int 2)) gNil))) (eC (.int 0)))
    (sSet 4 (eSl (eComp (itSeq (eRev (eVar 3))) [7] (tgN 7) eTrue (eMax2 (eC (.int 1)) (eSub (eVar 7) (eCall den__law_take [.io, .b] (gCons (eVar 2) (gCons (eC (.int 3)) gNil)))))) none (some (eC (.int 3)))))
    sNil)
    lwB))))
theorem law_eq : d_law = (sSeq (sFor (itR1 (eMax2 (eC (.int 1)) (eMin2 (eC (.int 3)) (eLen (eVar 0))))) (tgN 1) lwA) (sRet (eC (.bl true)))) := rfl
theorem stk4 {a : List Int} (ua : Up a) (h4 : ∀ x ∈ a, x ≤ 4) (hl : a.length ≤ 60) : Stk a := ⟨ua, fun x hx => by have := h4 x hx; omega, hl⟩
theorem lwA_ok {ns : List Int} {k : Nat} {x2 x3 x4 x5 x6 x7 x8 : Option PV.Tm} {N : Ss → Prop} {R : PV.Tm → Ss → Prop} {B C : Ss → Prop} {X : PX} (hk : k < 1000) (h7 : XO x7)
    (h : ∀ v2 v3 v4 v5 v6 v7 v8, XO v7 → N [some (.v .B (.scr ns)), some (.v .F (.int (k : Int))), v2, v3, v4, v5, v6, v7, v8, none]) : SW lwA [some (.v .B (.scr ns)), some (.v .F (.int (k : Int))), x2, x3, x4, x5, x6, x7, x8, none] N R B C X := by
  unfold lwA
  refine SW.seq ?_
  walk_at "w1"
  walk_at "w1"
  walk_at "wp"
  refine FW.fd hk fun d s => ?_
  walk_at "w1"
  walk_at "w1"
  walk_at "w1"
  refine ⟨rfl, by walk_at "lt", _, by walk_at "set", ?_⟩
  refine SW.seq (SW.set ?_)
  refine draws_ok (m := 5) (M := 4) (by omega) (by omega) (by omega) (by omega) fun a d s la ua ha => ?_
  refine ⟨rfl, by walk_at "lt", _, by walk_at "set", ?_⟩
  refine SW.seq (SW.set ?_)
  refine draws_ok (m := 4) (M := 4) (by omega) (by omega) (by omega) (by omega) fun b d s lb ub hb => ?_
  refine ⟨rfl, by walk_at "lt", _, by walk_at "set", ?_⟩
  walk_at "wp"
  refine FW.tk (by omega) (by omega) fun r d s lo hi => ?_
  walk_at "wp"
  refine ⟨_, _, _, _, _, Is.v, Is.v, eqD_int _ _, ?_⟩
  refine BoW.d (fun hz => ?_) fun hz => ?_
  · refine SW.set (EW.sl ?_)
    refine short_draws (M := 3) (B := 4) h7 (by omega) (by omega) (by omega) (by omega) ha fun c d s lc uc hc => ?_
    walk_at "wp"
    refine SlW.lst (by walk_at "is") elkO (cut_to _ 3) ?_
    rw [← List.map_take]
    walk_at "wp"
    refine lwB_ok (stk4 ua ha (by omega)) (stk4 (fun x hx => uc x (List.mem_of_mem_take hx)) (fun x hx => hc x (List.mem_of_mem_take hx)) (by rw [List.length_take]; omega)) (by rw [List.length_take]; omega) (fun x hx => hc x (List.mem_of_mem_take hx)) (fun d s v3 v4 v5 v6 v7 v8 hv => h _ v3 v4 v5 v6 v7 v8 hv) h7
  · walk_at "wp"
    exact lwB_ok (stk4 ua ha (by omega)) (stk4 ub hb (by omega)) (by omega) hb (fun d s v3 v4 v5 v6 v7 v8 hv => h _ v3 v4 v5 v6 v7 v8 hv) h7
theorem law_true (ns : List Int) (h : ns.length ≤ 63) : den_law [.v .B (.scr ns)] = .ok (.v .F (.bl true)) [] := by
  have main : FW den_law [.v .B (.scr ns)] (fun r us => r = .v .F (.bl true) ∧ us = []) XF0 := by
    refine FW.def (ρ0 := [some (.v .B (.scr ns)), none, none, none, none, none, none, none, none, none]) rfl ?_
    rw [law_eq]
    refine SW.seq (SW.for ?_)
    walk_at "wp"
    refine ForW.num (fun _ ρ => ∃ v1 v2 v3 v4 v5 v6 v7 v8 : Option PV.Tm, XO v7 ∧ ρ = [some (.v .B (.scr ns)), v1, v2, v3, v4, v5, v6, v7, v8, none]) _ 0 ⟨_, _, _, _, _, _, _, _, .inl rfl, rfl⟩ ?_ ?_
    · rintro i t ρ ht ⟨v1, v2, v3, v4, v5, v6, v7, v8, h7, rfl⟩
      obtain ⟨hi, rfl⟩ := rngL_at ht
      rw [Int.zero_add]
      refine TW.n rfl (by walk_at "lt") (by walk_at "set") ?_
      exact lwA_ok (by omega) h7 fun v2 v3 v4 v5 v6 v7 v8 hv => ⟨_, v2, v3, v4, v5, v6, v7, v8, hv, rfl⟩
    · rintro ρ ⟨v1, v2, v3, v4, v5, v6, v7, v8, h7, rfl⟩
      walk_at "wp"
      all_goals rfl
  obtain ⟨_, _, e, rfl, rfl⟩ := FW.get main
  exact e
end LW
open PySem PySem.W PyProof.Rows in
set_option maxRecDepth 100000 in
set_option maxHeartbeats 0 in
theorem PySem.Challenge.cw_soldages_k75_stocks_that_are_never_worse_holds : PySem.Challenge.rw_soldages_k75_stocks_that_are_never_worse.Holds := by
  w_on; o_law; k_head; (case hw => w_witness2)
  k_fill
  refine PV.walkG (l := PySem.Challenge.rw_soldages_k75_stocks_that_are_never_worse) (n := 63) (k := 4) (x := "script") (f := LW.den_law) rfl (by decide) rfl ⟨⟨rfl, by decide, by decide⟩, rfl⟩ (fun w h Y => PySem.W.kIn_of Y) (fun ns hl => LW.law_true ns hl) ?F
  case F =>
    intro w mg fa h KX G hmg
    refine' LW.all_mk KX G hmg ?a__law_feed ?l__law_feed ?c__law_feed ?k__law_feed ?a__law_served ?l__law_served ?c__law_served ?k__law_served ?a__law_never ?l__law_never ?c__law_never ?k__law_never ?a__law_take ?l__law_take ?c__law_take ?k__law_take ?a__law_dominates ?l__law_dominates ?c__law_dominates ?k__law_dominates ?a_short_life ?l_short_life ?c_short_life ?k_short_life ?a_places_by_life ?l_places_by_life ?c_places_by_life ?k_places_by_life ?a_matching ?l_matching ?c_matching ?k_matching ?a_never_worse ?l_never_worse ?c_never_worse ?k_never_worse ?a__law_is_number ?l__law_is_number ?c__law_is_number ?k__law_is_number ?a__law_right ?l__law_right ?c__law_right ?k__law_right ?a_law ?l_law ?c_law ?k_law ?aC_StoreError ?xk_StoreError ?xe_StoreError ?xy_StoreError ?xs_StoreError ?xq_StoreError ?aC_Worse ?xk_Worse ?xe_Worse ?xy_Worse ?xs_Worse ?xL_Worse ?xsa_Worse ?xga_Worse ?xgg_Worse ?xnb_Worse ?xi_Worse ?xt_Worse ?xl_Worse ?xc_Worse ?xh_Worse ?xp_StoreError_StoreError ?xp_StoreError_Worse ?xp_Worse_StoreError ?xp_Worse_Worse ?xca_Worse ?xcn_Worse ?xcv_Worse ?xcm_Worse ?kx_Worse_Worse ?z_abs ?z_bool ?z_dict ?z_enumerate ?z_int ?z_isinstance ?z_len ?z_list ?z_max ?z_min ?z_range ?z_repr ?z_set ?z_sorted ?z_tuple ?z_zip
    (case a__law_feed => k_is)
    (case l__law_feed => k_is)
    (case c__law_feed => k_is)
    (case k__law_feed => k_is)
    (case a__law_served => k_is)
    (case l__law_served => k_is)
    (case c__law_served => k_is)
    (case k__law_served => k_is)
    (case a__law_never => k_is)
    (case l__law_never => k_is)
    (case c__law_never => k_is)
    (case k__law_never => k_is)
    (case a__law_take => k_is)
    (case l__law_take => k_is)
    (case c__law_take => k_is)
    (case k__law_take => k_is)
    (case a__law_dominates => k_is)
    (case l__law_dominates => k_is)
    (case c__law_dominates => k_is)
    (case k__law_dominates => k_is)
    (case a_short_life => k_is)
    (case l_short_life => k_is)
    (case c_short_life => k_is)
    (case k_short_life => k_is)
    (case a_places_by_life => k_is)
    (case l_places_by_life => k_is)
    (case c_places_by_life => k_is)
    (case k_places_by_life => k_is)
    (case a_matching => k_is)
    (case l_matching => k_is)
    (case c_matching => k_is)
    (case k_matching => k_is)
    (case a_never_worse => k_is)
    (case l_never_worse => k_is)
    (case c_never_worse => k_is)
    (case k_never_worse => k_is)
    (case a__law_is_number => k_is)
    (case l__law_is_number => k_is)
    (case c__law_is_number => k_is)
    (case k__law_is_number => k_is)
    (case a__law_right => k_is)
    (case l__law_right => k_is)
    (case c__law_right => k_is)
    (case k__law_right => k_is)
    (case a_law => k_is)
    (case l_law => k_is)
    (case c_law => k_is)
    (case k_law => k_is)
    (case aC_StoreError => k_is)
    (case xk_StoreError => k_is)
    (case xe_StoreError => k_is)
    (case xy_StoreError => k_is)
    (case xs_StoreError => k_is)
    (case xq_StoreError => k_exc)
    (case aC_Worse => k_is)
    (case xk_Worse => k_is)
    (case xe_Worse => k_is)
    (case xy_Worse => k_is)
    (case xs_Worse => k_is)
    (case xL_Worse => k_is)
    (case xsa_Worse => k_is)
    (case xga_Worse => k_is)
    (case xgg_Worse => k_is)
    (case xnb_Worse => k_is)
    (case xi_Worse => k_is)
    (case xt_Worse => k_is)
    (case xl_Worse => k_is)
    (case xc_Worse => k_is)
    (case xh_Worse => k_is)
    (case xp_StoreError_StoreError => first | rfl | k_is)
    (case xp_StoreError_Worse => first | rfl | k_is)
    (case xp_Worse_StoreError => first | rfl | k_is)
    (case xp_Worse_Worse => first | rfl | k_is)
    (case xca_Worse => k_is)
    (case xcn_Worse => k_is)
    (case xcv_Worse => k_is)
    (case xcm_Worse => k_is)
    (case kx_Worse_Worse => first | rfl | k_is)
    (case z_abs => k_is)
    (case z_bool => k_is)
    (case z_dict => k_is)
    (case z_enumerate => k_is)
    (case z_int => k_is)
    (case z_isinstance => k_is)
    (case z_len => k_is)
    (case z_list => k_is)
    (case z_max => k_is)
    (case z_min => k_is)
    (case z_range => k_is)
    (case z_repr => k_is)
    (case z_set => k_is)
    (case z_sorted => k_is)
    (case z_tuple => k_is)
    (case z_zip => k_is)

